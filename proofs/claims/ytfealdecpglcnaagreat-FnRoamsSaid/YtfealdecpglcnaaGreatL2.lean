/-
 A plain semantics of the code: values without memory, what the call itself makes kept in rows. It is a function, so that the kernel can run it.
-/
import Derived.Test.YtfealdecpglcnaaGreatL1
import Derived.Calls
import Derived.Deep.AppendSrc
set_option linter.all false
namespace Go.D
open Option renaming bind→ob
def hgt(b:Bool):Bool:=b
def gd{α:Type _}(c:Bool)(a b:α):α:=match hgt c with
 | true=>a
 | false=>b
def NK{α β:Type _}(x:Option α)(f:α→Option β):Option β:=gd true (match x with
 | some a=>f a
 | none=>none) none
@[simp] theorem VC{α:Type _}(a b:α):gd true a b=a:=rfl
@[simp] theorem ZS{α:Type _}(a b:α):gd false a b=b:=rfl
@[simp] theorem oT{α β:Type _}(x:Option α)(f:α→Option β):NK x f=ob x f:=by cases x<;>rfl
def zA{α:Type}(f:Nat→α)(i:Nat)(v:α):Nat→α:=λj=>bif Nat.beq j i then v else f j
inductive qH where
 | own|ro|lock
inductive vF where
 | box (cs:List V)
 | arr (t:TN) (l:List (El t))
structure rA where
 c:vF
 m:qH
structure St where
 s:Nat→V
 h:Nat→Option rA
 nx:Nat
inductive kB where
 | plain
 | ptr (own:List Nat)
 | mv (own:List Nat)
 | ms
structure dB where
 ks:List kB
 A:Type
 R:Type
 dA:List V→Option A
 F:A→Option R
 eR:R→List V
 shape:List (Bool×Nat)
 own:List Nat
 pb:Bool
structure Gl where
 K:Nat
 p:World→Prop
 stay:∀w w':World,(∀b,b<K→w'.heap[b]?=w.heap[b]?)→p w→p w'
 lt:∀w,p w→K≤w.heap.size
def ZL:Gl:=⟨0,λ_=>True,λ_ _ _ h=>h,λ_ _=>Nat.zero_le _⟩
structure znp[iA](g:Gl)(ow:Nat→Prop)(w:World):Prop where
 p:g.p w
 own:∀b,b<g.K→¬ow b
 base:iA.base≤w.heap.size
 low:∀b,b<iA.base→¬ow b
structure Cx where
 P:Program
 tn:TypeId→Option TN
 Φ:Nat→Option dB
 nt:Nat
 g:Gl
structure TF[iA](C:Cx):Prop where
 mixed:C.P.follows .mixedOrders=true
 ok:∀e t,C.tn e=some t→∃i z,C.P.info? e=some i∧i.size=sz t∧i.bytes≤1024∧i.zero=some z∧z.cells.size=sz t
 tys:∀e t,C.tn e=some t→iA.tn e=some t
def bA:Nat:=2^36
def jP:Value→V
 | .bool b=> .bool b
 | .int k n=>bif decide (k.min≤n)&&decide (n≤k.max)then .int k n else .undef
 | .string s=>bif Nat.ble s.data.toList.length 1000000 then .str s.data.toList else .undef
 | .slice none 0 0=> .nil
 | .nilIface=> .nili
 | _=> .undef
def opd(s:Nat→V):Operand→V
 | .tmp t=>s t
 | .const v=>jP v
 | .func f=> .fn f []
 | .global _=> .undef
section
variable (C:Cx) {R:Type}
def UA(dst:Option Nat)(st:St)(v:V)(K:St→Option R):Option R:=
 match dst with
 | none=>K st
 | some d=>gd (Nat.blt d C.nt) (K {st with s:=zA st.s d v}) none
def wF(dst:Option Nat)(st:St)(r:Nat)(c:vF)(v:V)(K:St→Option R):Option R:=
 UA C dst {st with h:=zA st.h r (some ⟨c, .own⟩)} v K
def cellsOf:V→List V
 | .agg cs=>cs
 | v=>[v]
def lH(cs:List V):Bool:=cs.all V.leaf
def sJ(cs:List V)(off:Nat)(vs:List V):List V:=cs.take off++vs++cs.drop (off+vs.length)
def sC(h:Nat→Option rA)(ids:List Nat):Nat→Option rA:=
 match ids with
 | []=>h
 | r :: rs=>sC (zA h r ((h r).map λrow=>{row with m:= .ro})) rs
def qH.isLock:qH→Bool
 | .lock=>true
 | _=>false
def qH.isOwn:qH→Bool
 | .own=>true
 | _=>false
def TN.beq(s t:TN):Bool:=Nat.beq s.ctorIdx t.ctorIdx
def CG:Nat→V→Bool
 | 0,_=>false
 | n+1, .fn _ cs=>cs.all (CG n)
 | n+1, .fp cs _=>cs.all (CG n)
 | _+1, .bool _|_+1, .int _ _|_+1, .str _|_+1, .nil|_+1, .sl _ _|_+1, .nili|_+1, .ifc _=>true
 | _+1,_=>false
def QG(h:Nat→Option rA):V→Option (V×List Nat)
 | .ow r=>match h r with
  | some ⟨.arr t l,m⟩=>bif m.isLock then none else some (.sl t l,[r])
  | _=>none
 | .ov r t off len=>match h r with
  | some ⟨.arr t' l,m⟩=>bif m.isLock then none else if e:t'=t then some (.sl t (((TN.cast e l).drop off).take len),[r])else none
  | _=>none
 | v=>bif CG 8 v then some (v,[])else none
def eG(h:Nat→Option rA):List V→Option (List V×List Nat)
 | []=>some ([],[])
 | v :: vs=>match QG h v with
  | none=>none
  | some (v',i)=>match eG h vs with
   | none=>none
   | some (vs',j)=>some (v' :: vs',i++j)
def sH(h:Nat→Option rA):V→Option (V×List Nat)
 | .agg cs=>match eG h cs with
  | some (cs',i)=>some (.agg cs',i)
  | none=>none
 | .bp r off=>match h r with
  | some ⟨.box cs,m⟩=>bif m.isLock||cs.isEmpty then none else match eG h cs with
   | some (cs',i)=>some (.fp cs' off,r :: i)
   | none=>none
  | _=>none
 | v=>QG h v
def GL(h:Nat→Option rA):List V→Option (List V×List Nat)
 | []=>some ([],[])
 | v :: vs=>match sH h v with
  | none=>none
  | some (v',i)=>match GL h vs with
   | none=>none
   | some (vs',j)=>some (v' :: vs',i++j)
def bF(P:Program)(t:TypeId):Option Bool:=
 match P.underlying t with
 | some (.struct _)|some (.array _ _)=>some true
 | some _=>some false
 | none=>none
def sF(P:Program)(t:TypeId):Option Nat:=(P.info? t).map (·.size)
def vG(agg:Bool)(n:Nat)(cs:List V)(off:Nat)(K:V→Option R):Option R:=
 gd agg (gd (Nat.ble (off+n) cs.length) (K (.agg ((cs.drop off).take n))) none) (match cs.drop off with
  | c :: _=>K c
  | []=>none)
def jA{α:Type}(l:List α)(i:Int):Option α:=if 0≤i then l[i.toNat]? else none
def zef{α:Type}(l:List α)(i:Nat)(K:α→Option R):Option R:=ob l[i]? K
def zdf(P:Program)(t:TypeId)(f:Nat):Option (Nat×TypeId):=
 match P.underlying t with
 | some (.struct fs)=>match fs[f]? with
  | some x=>some (x.offset,x.type)
  | none=>none
 | _=>none
def VO(P:Program)(t:TypeId):Option TypeId:=
 match P.underlying t with
 | some (.slice e)=>some e
 | _=>none
def zcY:TypeDesc→V→Bool
 | .string, .str _=>true
 | .slice _, .sl _ _| .slice _, .nil| .slice _, .ow _| .slice _, .ov _ _ _ _=>true
 | _,_=>false
def ZM(h:Nat→Option rA):V→Option Nat
 | .sl _ l=>some l.length
 | .nil=>some 0
 | .str s=>some s.length
 | .ow r=>match h r with
  | some ⟨.arr _ l,_⟩=>some l.length
  | _=>none
 | .ov _ _ _ len=>some len
 | _=>none
def uV(h:Nat→Option rA)(t:TN):V→Option (List (El t))
 | .sl t' l=>if e:t'=t then some (TN.cast e l)else none
 | .nil=>some []
 | .ow r=>match h r with
  | some ⟨.arr t' l,_⟩=>if e:t'=t then some (TN.cast e l)else none
  | _=>none
 | .ov r t0 off len=>match h r with
  | some ⟨.arr t' l,_⟩=>bif decide (t0=t)then if e:t'=t then some (((TN.cast e l).drop off).take len)else none else none
  | _=>none
 | _=>none
def dT(h:Nat→Option rA)(t:TN):V→Option (List (El t)×Option Nat)
 | .nil=>some ([],none)
 | .ow r=>match h r with
  | some ⟨.arr t' l, .own⟩=>if e:t'=t then some (TN.cast e l,some r)else none
  | _=>none
 | .ov r _ 0 len=>match h r with
  | some ⟨.arr t' l, .own⟩=>if e:t'=t then some ((TN.cast e l).take len,some r)else none
  | _=>none
 | _=>none
def WO(h:Nat→Option rA):Option Nat→Nat→Option rA
 | none=>h
 | some r=>zA h r none
def qE:List Bool→List V→List V→Option Bool
 | [],[],[]=>some true
 | false :: ks, .int j a :: xs, .int k b :: ys=>bif decide (j=k)then(qE ks xs ys).map (λr=>bif a==b then r else false)else none
 | true :: ks, .bool a :: xs, .bool b :: ys=>(qE ks xs ys).map (λr=>bif a==b then r else false)
 | _,_,_=>none
def zhn(op:BinOp):V→V→Option V
 | .int k a, .int k' b=>
  match op with
  | .shl=>if b<0 then none else some (.int k (k.wrap (a *2^(min b.toNat k.bits))))
  | .shr=>if b<0 then none else some (.int k (a.fdiv (2^(min b.toNat k.bits))))
  | .add=>bif decide (k=k')then some (.int k (k.wrap (a+b)))else none
  | .sub=>bif decide (k=k')then some (.int k (k.wrap (a - b)))else none
  | .mul=>bif decide (k=k')then some (.int k (k.wrap (a *b)))else none
  | .and=>bif decide (k=k')then some (.int k (k.wrap (BitVec.ofInt k.bits a&&&BitVec.ofInt k.bits b).toNat))else none
  | .or=>bif decide (k=k')then some (.int k (k.wrap (BitVec.ofInt k.bits a|||BitVec.ofInt k.bits b).toNat))else none
  | .xor=>bif decide (k=k')then some (.int k (k.wrap (BitVec.ofInt k.bits a^^^BitVec.ofInt k.bits b).toNat))else none
  | .andNot=>bif decide (k=k')then some (.int k (k.wrap (BitVec.ofInt k.bits a&&& ~~~ BitVec.ofInt k.bits b).toNat))else none
  | .eql=>bif decide (k=k')then some (.bool (a==b))else none
  | .neq=>bif decide (k=k')then some (.bool (a !=b))else none
  | .lss=>bif decide (k=k')then some (.bool (decide (a<b)))else none
  | .leq=>bif decide (k=k')then some (.bool (decide (a≤b)))else none
  | .gtr=>bif decide (k=k')then some (.bool (decide (a>b)))else none
  | .geq=>bif decide (k=k')then some (.bool (decide (a≥b)))else none
  | _=>none
 | .str a, .str b=>
  match op with
  | .eql=>some (.bool (a==b))
  | .neq=>some (.bool (!(a==b)))
  | _=>none
 | _,_=>none
def iK(P:Program):Nat→List Field→Option (List Bool)
 | _,[]=>some []
 | k, f :: fs => bif f.name != "_" && Nat.beq f.offset k then
   match P.underlying f.type,iK P (k+1) fs with
   | some .bool,some ks=>some (true :: ks)
   | some (.int _),some ks=>some (false :: ks)
   | _,_=>none
  else none
def qM(P:Program):Nat→List Field→Option (List Bool)
 | _,[]=>some []
 | k, f :: fs => bif f.name != "_" && Nat.beq f.offset k then
   match P.underlying f.type with
   | some .bool=>match qM P (k+1) fs with
    | some ks=>some (true :: ks)
    | none=>none
   | some (.int _)=>match qM P (k+1) fs with
    | some ks=>some (false :: ks)
    | none=>none
   | some (.struct gs)=>match iK P 0 gs.toList with
    | some k1=>bif !(P.stoodInHeld f.type)&&decide (sF P f.type=some k1.length)then match qM P (k+k1.length) fs with
      | some ks=>some (k1++ks)
      | none=>none
     else none
    | none=>none
   | _=>none
  else none
def zjz(P:Program)(t:TypeId):Option (List Bool):=
 match P.underlying t with
 | some (.struct fs)=>bif !(P.stoodInHeld t)&&!(P.eqGuardType P.depth t)then qM P 0 fs.toList else none
 | _=>none
def rN(op:BinOp)(x y:V)(K:V→Option R):Option R:=
 match op,x,y with
 | .quo, .int k a, .int k' b=>bif decide (k=k')then(bif b==0 then none else K (.int k (k.wrap (a.tdiv b))))else none
 | .rem, .int k a, .int k' b=>bif decide (k=k')then(bif b==0 then none else K (.int k (a.tmod b)))else none
 | .shl, .int k a, .int _ b=>bif decide (b<0)then none else K (.int k (k.wrap (a *2^(min b.toNat k.bits))))
 | .shr, .int k a, .int _ b=>bif decide (b<0)then none else K (.int k (a.fdiv (2^(min b.toNat k.bits))))
 | .add, .str a, .str b=>bif decide (a.length+b.length≤bA)then K (.str (a++b))else none
 | op,x,y=>match zhn op x y with
  | some v=>K v
  | none=>none
def unV(op:UnOp):V→Option V
 | .int k n=>match op with
  | .neg=>some (.int k (k.wrap (0 - n)))
  | _=>none
 | .bool b=>match op with
  | .not=>some (.bool (!b))
  | _=>none
 | _=>none
def zan(t:TN):List (List V)→Option (List (El t))
 | []=>some []
 | cs :: r=>match iF t cs with
  | none=>none
  | some a=>match zan t r with
   | none=>none
   | some l=>some (a :: l)
def QD(own:List Nat):Nat→List V→(Nat→Option rA)→Option (List V×(Nat→Option rA))
 | _,[],h=>some ([],h)
 | p,c :: cs,h=>
  bif own.any (Nat.beq p)then
   match c with
   | .ow r=>match h r with
    | some ⟨.arr t l, .own⟩=>match QD own (p+1) cs (zA h r none)with
     | some (cs',h')=>some (.sl t l :: cs',h')
     | none=>none
    | _=>none
   | .nil=>match QD own (p+1) cs h with
    | some (cs',h')=>some (.nil :: cs',h')
    | none=>none
   | .ov r t 0 len=>match h r with
    | some ⟨.arr t' l, .own⟩=>match decide (t'=t),QD own (p+1) cs (zA h r none)with
     | true,some (cs',h')=>some (.sl t' (l.take len) :: cs',h')
     | _,_=>none
    | _=>none
   | _=>none
  else match QG h c with
   | some (c',ids)=>match QD own (p+1) cs (sC h ids)with
    | some (cs',h')=>some (c' :: cs',h')
    | none=>none
   | none=>none
def OA(own:List Nat)(base:Nat):Nat→List V→List V
 | _,[]=>[]
 | p, .sl t l :: vs=>(bif own.any (Nat.beq p)then .ow (base+p)else .sl t l) :: OA own base (p+1) vs
 | p,v :: vs=>v :: OA own base (p+1) vs
def aB(own:List Nat)(base:Nat)(h:Nat→Option rA):Nat→List V→Nat→Option rA
 | _,[]=>h
 | p, .sl t l :: vs=>bif own.any (Nat.beq p)then zA (aB own base h (p+1) vs) (base+p) (some ⟨.arr t l, .own⟩)else aB own base h (p+1) vs
 | p,_ :: vs=>aB own base h (p+1) vs
def RE:List (Bool×Nat)→List V→List V
 | [],_=>[]
 | (agg,n) :: sh,vs=>(bif agg then .agg (vs.take n)else match vs with|v :: _=>v| []=> .undef) :: RE sh (vs.drop n)
def MI(sh:List (Bool×Nat))(vs:List V):V:=
 match RE sh vs with
 | [v]=>v
 | l=> .tup l
def eV(s:Nat→V):Nat→List (Nat×Operand)→Option (List V)
 | _,[]=>some []
 | i,(j,x) :: r=>bif Nat.beq i j then match eV s (i+1) r with
   | none=>none
   | some vs=>some (opd s x :: vs)
  else none
def zlP(P:Program)(t:TypeId):Option (List (Nat×Nat)):=
 match P.underlying t with
 | some (.struct fs)=>fs.toList.mapM λf=>(P.info? f.type).map λi=>(f.offset,i.size)
 | some (.array n e)=>match P.info? e with
  | some i=>bif Nat.ble n 128 then some ((List.range n).map λk=>(k *i.size,i.size))else none
  | none=>none
 | _=>none
def xV(pl:List (Nat×Nat))(s:Nat→V)(cs:List V):List (Nat×Operand)→Option (List V)
 | []=>some cs
 | (f,x) :: r=>match pl[f]? with
  | none=>none
  | some (off,n)=>
   let vs:=cellsOf (opd s x)
   bif Nat.beq n vs.length&&lH vs&&Nat.ble (off+n) cs.length then xV pl s (sJ cs off vs) r else none
def zeroCells(P:Program)(t:TypeId):Option (List V):=
 match(P.info? t).bind (·.zero)with
 | some z=>let cs:=z.cells.toList.map jP;bif lH cs then some cs else none
 | none=>none
def zgf(P:Program)(t:TypeId):Option (List V):=((P.info? t).bind (·.zero)).map λz=>z.cells.toList.map jP
def tJ(f:Nat→Option R)(i:Int):Nat→Nat→Option R
 | _,0=>none
 | k,n+1=>bif i==(k:Int)then f k else tJ f i (k+1) n
def mT(d:Int):Option V→Option Int
 | none=>some d
 | some (.int _ n)=>some n
 | _=>none
def aP(d:TypeDesc)(tnok:TypeId→TN→Bool)(h:Nat→Option rA)(x:V)(lo hi:Option V)(K:V→Option R):Option R:=
 match ZM h x with
 | none=>none
 | some len=>
  match mT 0 lo,mT (len:Int) hi with
  | some a,some b=>
   bif decide (0≤a)&&decide (a≤b)&&decide (b≤(len:Int))then
    match d,x with
    | .slice e, .sl t l=>gd (tnok e t) (K (.sl t ((l.drop a.toNat).take (b - a).toNat))) none
    | .string, .str s=>K (.str ((s.drop a.toNat).take (b - a).toNat))
    | .slice e, .ow r=>match h r with
     | some ⟨.arr t _,_⟩=>gd (tnok e t) (K (.ov r t a.toNat (b - a).toNat)) none
     | _=>none
    | .slice e, .ov r t off _=>gd (tnok e t) (K (.ov r t (off+a.toNat) (b - a).toNat)) none
    | _,_=>none
   else none
  | _,_=>none
def YH(e:TypeId)(t:TN):Bool:=match C.tn e with
 | some t'=>decide (t'=t)
 | none=>false
def aC:List kB→List V→(Nat→Option rA)→Option (List V×(Nat→Option rA)×List Nat)
 | [],[],h=>some ([],h,[])
 | .plain :: ks,v :: vs,h=>match sH h v with
  | none=>none
  | some (v',ids)=>match aC ks vs (sC h ids)with
   | none=>none
   | some (as,h',bs)=>some (v' :: as,h',bs)
 | .ptr own :: ks, .bp r 0 :: vs,h=>match h r with
  | some ⟨.box cs, .own⟩=>bif Nat.ble cs.length 127 then match QD own 0 cs (zA h r none)with
   | none=>none
   | some (cs',h')=>match aC ks vs h' with
    | none=>none
    | some (as,X5,bs)=>some (.agg cs' :: as,X5,r :: bs)
   else none
  | _=>none
 | .mv own :: ks, .agg cs :: vs,h=>bif Nat.ble cs.length 127 then match QD own 0 cs h with
   | none=>none
   | some (cs',h')=>match aC ks vs h' with
    | none=>none
    | some (as,X5,bs)=>some (.agg cs' :: as,X5,bs)
  else none
 | .ms :: ks,v :: vs,h=>match QD [0] 0 [v] h with
  | some ([v'],h')=>match aC ks vs h' with
   | none=>none
   | some (as,X5,bs)=>some (v' :: as,X5,bs)
  | _=>none
 | _,_,_=>none
def zdS(B:Nat):V→V
 | .sl _ _=> .ow B
 | v=>v
def ZU(B:Nat)(v:V):OA [0] B 0 [v]=[zdS B v]:=by cases v<;>rfl
def ZO(h:Nat→Option rA):Nat→Option rA:=λr=>match h r with
 | some ⟨c, .lock⟩=>some ⟨c, .own⟩
 | x=>x
def xB:List kB→List V→List Nat→List V→(Nat→Option rA)→Nat→Option rA
 | .plain :: ks,_ :: as,bs,vs,h=>xB ks as bs vs h
 | .mv _ :: ks,_ :: as,bs,vs,h=>xB ks as bs vs h
 | .ms :: ks,_ :: as,bs,vs,h=>xB ks as bs vs h
 | .ptr _ :: ks, .agg cs :: as,b :: bs,vs,h=>zA (xB ks as bs (vs.drop cs.length) h) b (some ⟨.box (vs.take cs.length), .own⟩)
 | _,_,_,_,h=>h
def DL(sh:List (Bool×Nat)):Nat:=(sh.map (·.2)).sum
def zg6(f:Nat)(as:List V):Nat:=match as with
 | [_, .fn g _]=>f+(g+1) *1048576
 | _=>f
def zsE(f:Nat)(as:List V)(h:f<1048576):zg6 f as % 1048576=f:=by
 unfold zg6
 grind
def rH(ci:dB)(as:List V)(bs:List Nat)(i:Nat)(rs:List V)(h:Nat→Option rA):Nat→Option rA:=bif ci.pb then zA h i (some ⟨.box rs, .own⟩)else xB ci.ks as bs ((OA ci.own i 0 rs).drop (DL ci.shape)) (aB ci.own i h 0 rs)
def GJ(ci:dB)(i:Nat)(rs:List V):V:=bif ci.pb then .bp i 0 else MI ci.shape (OA ci.own i 0 rs)
def SM:V→Bool
 | .int _ _| .bool _| .str _=>true
 | _=>false
def kB.isPlain:kB→Bool
 | .plain=>true
 | _=>false
def TN.flat:TN→Bool
 | .byte| .int| .bool| .str| .Addr| .Credit| .Timer| .Form=>true
 | _=>false
def zao(own:List Nat):Nat→List V→Bool
 | _,[]=>true
 | p, .sl t _ :: vs=>own.any (Nat.beq p)&&t.flat&&zao own (p+1) vs
 | p,v :: vs=>SM v&&zao own (p+1) vs
def jN(ci:dB)(rs:List V):Bool:=!ci.pb&&ci.ks.all kB.isPlain&&zao ci.own 0 rs
def TN.rank:TN→Nat
 | .byte| .int| .bool| .str=>0
 | .Cand| .Op=>1
 | .Tab| .Server| .World=>4
 | _=>3
def QE(own:List Nat):Nat→List V→Option Nat
 | _,[]=>some 0
 | p, .sl t _ :: vs=>match QE own (p+1) vs with
  | some m=>some (Nat.max (bif own.any (Nat.beq p)then t.rank else t.rank+1) m)
  | none=>none
 | p, .nil :: vs=>QE own (p+1) vs
 | p,v :: vs=>bif SM v then QE own (p+1) vs else none
def UL(m:Nat)(h h':Nat→Option rA):Nat→Option rA:=λr=>match h r,h' r with
 | some ⟨.arr t l, .own⟩,some ⟨c, .ro⟩=>bif Nat.ble m t.rank then some ⟨.arr t l, .own⟩else some ⟨c, .ro⟩
 | _,x=>x
def NL(ci:dB)(rs:List V)(h h':Nat→Option rA):Nat→Option rA:=
 bif jN ci rs then h else bif ci.pb then h' else match QE ci.own 0 rs with
  | some m=>UL m h h'
  | none=>h'
def EK(i:Nat)(dst:Option Nat)(st:St)(f:Nat)(as:List V)(K:St→Option R):Option R:=
 match bif Nat.blt f 1048576 then C.Φ (zg6 f as)else none with
 | none=>none
 | some ci=>match aC ci.ks as st.h with
  | none=>match aC ci.ks as (ZO st.h)with
   | none=>none
   | some (as',_,bs)=>
    NK (ci.dA as') λa=>ob (ci.F a) λr=>
     gd (Nat.ble (ci.eR r).length 128&&jN ci (ci.eR r)) (
      UA C dst {st with h:=rH ci as' bs i (ci.eR r) st.h} (GJ ci i (ci.eR r)) K) none
  | some (as',h',bs)=>
   NK (ci.dA as') λa=>ob (ci.F a) λr=>
    gd (Nat.ble (ci.eR r).length 128) (
     UA C dst {st with h:=rH ci as' bs i (ci.eR r) (NL ci (ci.eR r) st.h h')} (GJ ci i (ci.eR r)) K) none
def oB (i:Nat) (o:Oper) (st:St) (K:St→Option R):Option R:=
 match o.op with
 | .move x| .assign x=>UA C o.dst st (opd st.s x) K
 | .pick c a b=>match opd st.s c with
  | .bool t=>match opd st.s a,opd st.s b with
   | .bool x, .bool y=>UA C o.dst st (.bool (cond t x y)) K
   | x,y=>UA C o.dst st (cond t x y) K
  | _=>none
 | .alloc e=>match zgf C.P e with
  | some cs=>wF C o.dst st i (.box cs) (.bp i 0) K
  | none=>none
 | .box e x=>
  let cs:=cellsOf (opd st.s x)
  gd (lH cs) (wF C o.dst st i (.box cs) (.bp i 0) K) none
 | .build t parts=>match zeroCells C.P t,zlP C.P t with
  | some cs,some pl=>NK (xV pl st.s cs parts.toList) λcs'=>UA C o.dst st (.agg cs') K
  | _,_=>none
 | .buildSlice t len parts=>match(VO C.P t).bind C.tn with
  | none=>none
  | some tn=>match eV st.s 0 parts.toList with
   | none=>none
   | some vs=>gd (Nat.beq vs.length len&&Nat.ble len 1000) (
     match GL st.h vs with
     | none=>none
     | some (vs',ids)=>NK (zan tn (vs'.map cellsOf)) λl=>
       wF C o.dst {st with h:=sC st.h ids} i (.arr tn l) (.ow i) K) none
 | .load t a=>match bF C.P t,sF C.P t with
  | some ag,some n=>match opd st.s a with
   | .bp r off=>match st.h r with
    | some ⟨.box cs,_⟩=>vG ag n cs off λv=>UA C o.dst st v K
    | _=>none
   | .ep r t' k off=>match st.h r with
    | some ⟨.arr t'' l,_⟩=>gd (decide (t''=t')) (zef l k λx=>vG ag n (enc t'' x) off λv=>UA C o.dst st v K) none
    | _=>none
   | .fp cs off=>vG ag n cs off λv=>UA C o.dst st v K
   | _=>none
  | _,_=>none
 | .store t a x=>match sF C.P t with
  | none=>none
  | some n=>
   let vs:=cellsOf (opd st.s x)
   gd (Nat.beq n vs.length&&lH vs) (
    match opd st.s a with
    | .bp r off=>match st.h r with
     | some ⟨.box cs, .own⟩=>gd (Nat.ble (off+n) cs.length) (UA C o.dst {st with h:=zA st.h r (some ⟨.box (sJ cs off vs), .own⟩)} .undef K) none
     | _=>none
    | .ep r t' k off=>match st.h r with
     | some ⟨.arr t'' l, .own⟩=>gd (decide (t''=t')) (
       match eG st.h vs with
       | none=>none
       | some (vs',ids)=>gd (ids.any (Nat.beq r)) none (
        zef l k λx=>gd (Nat.ble (off+n) (sz t'')) (
         NK (iF t'' (sJ (enc t'' x) off vs')) λy=>
          UA C o.dst {st with h:=zA (sC st.h ids) r (some ⟨.arr t'' (l.set k y), .own⟩)} .undef K) none)) none
     | _=>none
    | _=>none) none
 | .nilCheck x=>match opd st.s x with
  | .bp r off=>UA C o.dst st (.bp r off) K
  | .ep r t k off=>UA C o.dst st (.ep r t k off) K
  | .fp cs off=>UA C o.dst st (.fp cs off) K
  | .fn f cs=>UA C o.dst st (.fn f cs) K
  | _=>none
 | .binOp op t x y _=>match opd st.s x,opd st.s y with
  | .agg xs, .agg ys=>match zjz C.P t with
   | some ks=>match qE ks xs ys with
    | some b=>match op with
     | .eql=>UA C o.dst st (.bool b) K
     | .neq=>UA C o.dst st (.bool (!b)) K
     | _=>none
    | none=>none
   | none=>none
  | .bool p, .bool q=>match C.P.underlying t with
   | some .bool=>match op with
    | .eql=>UA C o.dst st (.bool (p==q)) K
    | .neq=>UA C o.dst st (.bool (!(p==q))) K
    | _=>none
   | _=>none
  | .ifc b, .nili=>match y,C.P.underlying t with
   | .const _,some (.interface _)=>match op with
    | .eql=>UA C o.dst st (.bool b) K
    | .neq=>UA C o.dst st (.bool (!b)) K
    | _=>none
   | _,_=>none
  | vx,vy=>rN op vx vy λv=>UA C o.dst st v K
 | .unOp op _ x=>match unV op (opd st.s x)with
  | some v=>UA C o.dst st v K
  | none=>none
 | .convert src d x=>match C.P.underlying src,C.P.underlying d,opd st.s x with
  | some (.int _),some (.int k), .int _ n=>UA C o.dst st (.int k (k.wrap n)) K
  | some .string,some (.slice e), .str s=>match C.tn e,C.P.underlying e with
   | some .byte,some (.int .u8)=>bif Nat.ble s.length bA then wF C o.dst st i (.arr .byte s) (.ow i) K else none
   | _,_=>none
  | some (.slice e),some .string,v=>match C.P.underlying e,uV st.h .byte v with
   | some (.int .u8),some l=>bif Nat.ble l.length bA then UA C o.dst st (.str l) K else none
   | _,_=>none
  | some (.slice _),some (.slice e), .ow r=>match Nat.beq src d,C.P.underlying e,st.h r with
   | true,some (.int .u8),some ⟨.arr .byte (b :: l), .own⟩=>UA C o.dst {st with h:=zA st.h r none} (.sl .byte (b :: l)) K
   | _,_,_=>none
  | _,_,_=>none
 | .makeFunc (.func f) first captured=>gd (first.isEmpty) (match GL st.h (captured.toList.map (opd st.s))with
   | some (cs,ids)=>UA C o.dst {st with h:=sC st.h ids} (.fn f cs) K
   | none=>none) none
 | .makeSlice t n c=>match(VO C.P t).bind C.tn,(VO C.P t).bind (zeroCells C.P)with
  | some tn,some z=>match opd st.s n,opd st.s c with
   | .int .i64 n, .int .i64 c=>bif decide (0≤n)&&decide (n≤(bA:Int))&&(n==c)then
     NK (iF tn z) λx=>wF C o.dst st i (.arr tn (List.replicate n.toNat x)) (.ow i) K
    else none
   | _,_=>none
  | _,_=>none
 | .slice t x lo hi mx=>match mx,C.P.underlying t with
  | some _,_|_,none=>none
  | none,some d=>aP d (YH C) st.h (opd st.s x) (lo.map (opd st.s)) (hi.map (opd st.s)) λv=>UA C o.dst st v K
 | .fieldAddr t x f=>match zdf C.P t f with
  | none=>none
  | some (off,ft)=>match sF C.P ft with
   | some (_+1)=>match opd st.s x with
    | .bp r o1=>UA C o.dst st (.bp r (o1+off)) K
    | .ep r t' k o1=>UA C o.dst st (.ep r t' k (o1+off)) K
    | .fp cs o1=>UA C o.dst st (.fp cs (o1+off)) K
    | _=>none
   | _=>none
 | .field t x f=>match zdf C.P t f,opd st.s x with
  | some (off,ft), .agg cs=>match bF C.P ft,sF C.P ft with
   | some ag,some n=>vG ag n cs off λv=>UA C o.dst st v K
   | _,_=>none
  | _,_=>none
 | .indexAddr t x ix=>match opd st.s ix with
  | .int _ n=>match C.P.underlying t,opd st.s x with
   | some (.slice e), .sl t' l=>gd (YH C e t') (ob (jA l n) λa=>UA C o.dst st (.fp (enc t' a) 0) K) none
   | some (.slice e), .ow r=>match st.h r with
    | some ⟨.arr t' l,_⟩=>gd (YH C e t') (bif decide (0≤n)&&decide (n<(l.length:Int))then UA C o.dst st (.ep r t' n.toNat 0) K else none) none
    | _=>none
   | some (.slice e), .ov r t' off len=>gd (YH C e t') (bif decide (0≤n)&&decide (n<(len:Int))then UA C o.dst st (.ep r t' (off+n.toNat) 0) K else none) none
   | some (.array m e), .bp r o1=>match sF C.P e with
    | some 1=>tJ (λk=>UA C o.dst st (.bp r (o1+k)) K) n 0 m
    | _=>none
   | _,_=>none
  | _=>none
 | .index t x ix=>match opd st.s ix,C.P.underlying t,opd st.s x with
  | .int _ n,some .string, .str s=>ob (jA s n) λb=>UA C o.dst st (.int .u8 (b.toNat:Int)) K
  | .int _ n,some (.array m e), .agg cs=>match sF C.P e,bF C.P e with
   | some 1,some false=>tJ (λk=>match cs.drop k with|c :: _=>UA C o.dst st c K| []=>none) n 0 m
   | _,_=>none
  | _,_,_=>none
 | .extract x ix=>match opd st.s x with
  | .tup vs=>match vs.drop ix with
   | v :: _=>UA C o.dst st v K
   | []=>none
  | _=>none
 | .call {callee:= .builtin .len,args,argTypes}=>match args.toList,argTypes.toList with
  | [x],[t]=>match C.P.underlying t,ZM st.h (opd st.s x)with
   | some d,some n=>gd (zcY d (opd st.s x)) (UA C o.dst st (.int .i64 (n:Int)) K) none
   | _,_=>none
  | _,_=>none
 | .call {callee:= .builtin .append,args,argTypes}=>match args.toList,argTypes.toList with
  | [x,y],[t,t']=>gd (Nat.beq t t') (match(VO C.P t).bind C.tn with
   | none=>none
   | some tn=>match dT st.h tn (opd st.s x),uV st.h tn (opd st.s y)with
    | some (l,r),some m=>bif decide (l.length+m.length≤bA)then
      wF C o.dst {st with h:=WO st.h r} i (.arr tn (l++m)) (.ow i) K
     else none
    | _,_=>none) none
  | _,_=>none
 | .call {callee:= .builtin .min,args,argTypes:=_}=>match args.toList.map (opd st.s)with
  | [.int k a, .int k' b]=>bif decide (k=k')then UA C o.dst st (.int k (if b<a then b else a)) K else none
  | _=>none
 | .call {callee:= .builtin .max,args,argTypes:=_}=>match args.toList.map (opd st.s)with
  | [.int k a, .int k' b]=>bif decide (k=k')then UA C o.dst st (.int k (if b>a then b else a)) K else none
  | _=>none
 | .call {callee:= .value x,args,argTypes:=_}=>match opd st.s x with
  | .fn f cs=>EK C i o.dst st f (args.toList.map (opd st.s)++cs) K
  | _=>none
 | _=>none
end
end Go.D
namespace Go.D
variable [iA]
def qH.isRo:qH→Bool
 | .ro=>true
 | _=>false
structure Wx(w0 w:World):Prop where
 os:w.os=w0.os
 tape:w.tape=w0.tape
 output:w.output=w0.output
 size:w0.heap.size≤w.heap.size
omit [iA]in
def Wx.refl(w:World):Wx w w:=⟨rfl,rfl,rfl,Nat.le_refl _⟩
omit [iA]in
def Wx.trans{a b c:World}(h:Wx a b)(k:Wx b c):Wx a c:=⟨k.os.trans h.os,k.tape.trans h.tape,k.output.trans h.output,Nat.le_trans h.size k.size⟩
def aE(w:World)(ρ:Nat→Option RI)(bad:Nat→Prop)(ri:RI):vF→Prop
 | .box cs=>ri.nl=false∧∀j (h:j<cs.length),w.frozen? (at_ ri.b j)=false∧∃u,w.cell? (at_ ri.b j)=some u∧VR w ρ bad u cs[j]
 | .arr t l=>ri.n=l.length∧(ri.nl=true∧l=[]∨ri.nl=false∧LF w ri.b t∧ri.n≤ri.cap∧ri.cap≤maxLen∧
   (∀j,j<ri.cap *sz t→w.frozen? (at_ ri.b j)=false∧(w.cell? (at_ ri.b j)).isSome=true)∧
   ∀i (h:i<l.length) j,j<sz t→∃u,w.cell? (at_ ri.b (i *sz t+j))=some u∧VR w ρ bad u ((enc t l[i]).getD j .undef))
def qA(outer:Nat→Prop)(ρ:Nat→Option RI)(h:Nat→Option rA)(b:Nat):Prop:=outer b∨∃r row ri,h r=some row∧row.m.isRo=false∧ρ r=some ri∧ri.nl=false∧ri.b=b
structure pB(w0:World)(outer own:Nat→Prop)(ρ:Nat→Option RI)(h:Nat→Option rA)(w:World):Prop where
 wx:Wx w0 w
 old:∀b,b<w0.heap.size→¬own b→w.heap[b]?=w0.heap[b]?
 outLt:∀b,outer b→b<w0.heap.size∧¬own b
 rows:∀r row,h r=some row→∃ri,ρ r=some ri∧aE w ρ (qA outer ρ h) ri row.c∧
  (ri.nl=false→(¬outer ri.b∧(row.m.isRo=false→w0.heap.size≤ri.b∨own ri.b))∧ri.b<w.heap.size)
 inj:∀r r' row row' ri ri',h r=some row→h r'=some row'→ρ r=some ri→ρ r'=some ri'→ri.nl=false→ri'.nl=false→ri.b=ri'.b→r=r'
structure bB(C:Cx)(w0:World)(outer own:Nat→Prop)(ρ:Nat→Option RI)(st:St)(a:Act)(w:World):Prop where
 heap:pB w0 outer own ρ st.h w
 slots:∀i,VR w ρ (qA outer ρ st.h) (a.tmps.getD i undef) (st.s i)
 size:a.tmps.size=C.nt
 defers:a.defers=[]
 glob:znp C.g own w0
section
variable {C:Cx} {w0:World} {outer own:Nat→Prop} {ρ:Nat→Option RI} {st:St} {a:Act} {w:World} {h:Nat→Option rA}
omit [iA]in
def MA{α:Type}(f:Nat→α)(i:Nat)(v:α):zA f i v i=v:=by simp[zA]
omit [iA]in
def AA{α:Type}(f:Nat→α)(i j:Nat)(v:α)(h:j≠i):zA f i v j=f j:=by
 simp only[zA]
 have:Nat.beq j i=false:=by
  cases hb:Nat.beq j i with
  | false=>rfl
  | true=>exact absurd (Nat.eq_of_beq_eq_true hb) h
 rw[this];rfl
omit [iA]in
def ztH(a:Act)(d:Nat)(v:Value)(hd:d<a.tmps.size)(i:Nat):
  (a.put (some d) v).tmps.getD i undef=if i=d then v else a.tmps.getD i undef:=by
 simp only[Act.put,Array.getD_eq_getD_getElem?,Array.getElem?_setIfInBounds]
 by_cases h:d=i
 ·subst h;simp[hd]
 ·simp[h,Ne.symm h]
def bB.put(hr:bB C w0 outer own ρ st a w){dst:Option Nat}{v:Value}{d:V}(hv:VR w ρ (qA outer ρ st.h) v d){st':St}
  (hk:UA C dst st d some=some st'):bB C w0 outer own ρ st' (a.put dst v) w∧st'.h=st.h∧st'.nx=st.nx:=by
 cases dst with
 | none=>simp[UA]at hk;subst hk;exact⟨hr,rfl,rfl⟩
 | some k=>
  simp only[UA]at hk;cases hb:Nat.blt k C.nt with
  | false=>simp[hb]at hk
  | true=>
   simp[hb]at hk;subst hk;have FV:k<a.tmps.size:=by rw[hr.size];simpa[Nat.blt_eq]using hb
   refine⟨⟨hr.heap,λi=>?_,by simp[Act.put,hr.size],hr.defers,hr.glob⟩,rfl,rfl⟩;rw[ztH a k v FV i];show VR w ρ _ _ (zA st.s k d i)
   by_cases h:i=k
   ·subst h;rw[if_pos rfl,MA];exact hv
   ·rw[if_neg h,AA _ _ _ _ h];exact hr.slots i
omit [iA]in
def qA.mono{h':Nat→Option rA}{b:Nat}(hs:∀r row',h' r=some row'→row'.m.isRo=false→∃row,h r=some row∧row.m.isRo=false)
  (hb:qA outer ρ h' b):qA outer ρ h b:=by
 rcases hb with hb|⟨r,row',ri,h1,h2,h3,h4,h5⟩
 ·exact .inl hb
 ·obtain⟨row,h6,h7⟩:=hs r row' h1 h2;exact .inr ⟨r,row,ri,h6,h7,h3,h4,h5⟩
def zfP{w:World}{c:Array Value}{e:TypeId}{t:TN}(h:iA.tn e=some t):LF (w.alloc (.cells c e)) w.heap.size t:=
 ⟨c,e,_,by show(w.heap.push _)[w.heap.size]?=_;rw[Array.getElem?_push_size],h⟩
def aE.keep{w':World}{ρ':Nat→Option RI}{bad bad':Nat→Prop}{ri:RI}{c:vF}(hr:aE w ρ bad ri c)
  (hw:ri.nl=false→w'.heap[ri.b]?=w.heap[ri.b]?)
  (hv:∀u d,VR w ρ bad u d→VR w' ρ' bad' u d):aE w' ρ' bad' ri c:=by
 cases c with
 | box cs=>
  refine⟨hr.1,λj hj=>?_⟩;obtain⟨h1,u,h2,h3⟩:=hr.2 j hj;have hb:=hw hr.1;exact⟨by rw[←h1];simp[World.frozen?,at_,hb],u,by rw[←h2];exact gK hb,hv _ _ h3⟩
 | arr t l=>
  refine⟨hr.1,?_⟩
  rcases hr.2 with h|⟨h0,he,h1,h2,h3,h4⟩
  ·exact .inl h
  ·have hb:=hw h0;refine .inr ⟨h0,he.same hb,h1,h2,λj hj=>?_,λi hi j hj=>?_⟩
   ·have:=h3 j hj;exact⟨by rw[←this.1];simp[World.frozen?,at_,hb],by rw[←this.2];congr 1;exact gK hb⟩
   ·obtain⟨u,h5,h6⟩:=h4 i hi j hj;exact⟨u,by rw[←h5];exact gK hb,hv _ _ h6⟩
def pB.alloc(hh:pB w0 outer own ρ h w)(r:Nat)(hr:ρ r=none)(ri:RI)(hb:ri.nl=false→ri.b=w.heap.size)(w':World)(cZ:Wx w w')
  (hw:∀b,b<w.heap.size→w'.heap[b]?=w.heap[b]?) (KV:ri.nl=false→w.heap.size<w'.heap.size) (c:vF)
  (hc:(∀ u d,VR w ρ (qA outer ρ h) u d→VR w' (zA ρ r (some ri)) (qA outer (zA ρ r (some ri)) (zA h r (some ⟨c, .own⟩))) u d)→
   aE w' (zA ρ r (some ri)) (qA outer (zA ρ r (some ri)) (zA h r (some ⟨c, .own⟩))) ri c):
  pB w0 outer own (zA ρ r (some ri)) (zA h r (some ⟨c, .own⟩)) w'∧
   ∀u d,VR w ρ (qA outer ρ h) u d→VR w' (zA ρ r (some ri)) (qA outer (zA ρ r (some ri)) (zA h r (some ⟨c, .own⟩))) u d:=by
 have hρ:∀q qi,ρ q=some qi→zA ρ r (some ri) q=some qi:=λq qi hq=>by
  rw[AA];exact hq;rintro rfl;simp[hr]at hq
 have hh':∀q row,h q=some row→q≠r:=λq row hq=>by
  rintro rfl;obtain⟨qi,h1,_⟩:=hh.rows q row hq;simp[hr]at h1
 have YV:∀b,qA outer (zA ρ r (some ri)) (zA h r (some ⟨c, .own⟩)) b→qA outer ρ h b∨w.heap.size≤b:=by
  rintro b (nX|⟨q,row,qi,h1,h2,h3,h4,h5⟩)
  ·exact .inl (.inl nX)
  ·by_cases hq:q=r
   ·subst hq;rw[MA]at h3;cases h3
    grind
   ·rw[AA _ _ _ _ hq]at h1 h3;exact .inl (.inr ⟨q,row,qi,h1,h2,h3,h4,h5⟩)
 have hv:∀u d,VR w ρ (qA outer ρ h) u d→VR w' (zA ρ r (some ri)) (qA outer (zA ρ r (some ri)) (zA h r (some ⟨c, .own⟩))) u d:=λu d hu=>
  hu.mono hρ (λb _ hb=>hw b hb) YV
 refine⟨⟨hh.wx.trans cZ,λb hb ho=>(hw b (Nat.lt_of_lt_of_le hb hh.wx.size)).trans (hh.old b hb ho),hh.outLt,?_,?_⟩,hv⟩
 ·intro q row hq
  by_cases VV:q=r
  ·subst VV;rw[MA]at hq;cases hq;refine⟨ri,MA _ _ _,hc hv,λhn=>?_⟩;rw[hb hn];exact⟨⟨λho=>by have:=(hh.outLt _ ho).1;have:=hh.wx.size;omega,λ_=> .inl hh.wx.size⟩,KV hn⟩
  ·rw[AA _ _ _ _ VV]at hq;obtain⟨qi,h1,h2,h3⟩:=hh.rows q row hq;refine⟨qi,hρ q qi h1,h2.keep (λhn=>hw _ (h3 hn).2) hv,λhn=>⟨(h3 hn).1,Nat.lt_of_lt_of_le (h3 hn).2 cZ.size⟩⟩
 ·intro q q' row row' qi qi' h1 h2 h3 h4 h5 h6 h7
  by_cases hq:q=r<;>by_cases YW:q'=r
  ·rw[hq,YW]
  ·subst hq;rw[MA]at h3;cases h3;rw[AA _ _ _ _ YW]at h2 h4;obtain⟨qi'',h8,_,h9⟩:=hh.rows q' row' h2
   grind
  ·subst YW;rw[MA]at h4;cases h4;rw[AA _ _ _ _ hq]at h1 h3;obtain⟨qi'',h8,_,h9⟩:=hh.rows q row h1
   grind
  ·rw[AA _ _ _ _ hq]at h1 h3;rw[AA _ _ _ _ YW]at h2 h4;exact hh.inj q q' row row' qi qi' h1 h2 h3 h4 h5 h6 h7
def pB.write(hh:pB w0 outer own ρ h w){r:Nat}{c:vF}{ri:RI}(hr:h r=some ⟨c, .own⟩)(hρ:ρ r=some ri)(hn:ri.nl=false)(w':World)
  (cZ:Wx w w') (KV:w'.heap.size=w.heap.size) (hw:∀b,b≠ri.b→w'.heap[b]?=w.heap[b]?) (c':vF)
  (hc:(∀u d,VR w ρ (qA outer ρ h) u d→VR w' ρ (qA outer ρ (zA h r (some ⟨c', .own⟩))) u d)→aE w' ρ (qA outer ρ (zA h r (some ⟨c', .own⟩))) ri c'):
  pB w0 outer own ρ (zA h r (some ⟨c', .own⟩)) w'∧∀u d,VR w ρ (qA outer ρ h) u d→VR w' ρ (qA outer ρ (zA h r (some ⟨c', .own⟩))) u d:=by
 have U2:qA outer ρ h ri.b:= .inr ⟨r,_,ri,hr,rfl,hρ,hn,rfl⟩
 have YV:∀b,qA outer ρ (zA h r (some ⟨c', .own⟩)) b→qA outer ρ h b:=λb hb=>hb.mono λq row' h1 h2=>by
  by_cases hq:q=r
  ·subst hq;exact⟨_,hr,rfl⟩
  ·rw[AA _ _ _ _ hq]at h1;exact⟨row',h1,h2⟩
 have hv:∀u d,VR w ρ (qA outer ρ h) u d→VR w' ρ (qA outer ρ (zA h r (some ⟨c', .own⟩))) u d:=λu d hu=>
  hu.mono (λ_ _ h=>h) (λb hb _=>hw b λe=>hb (e▸U2)) λb hb=> .inl (YV b hb)
 obtain⟨ri',h6,_,h7⟩:=hh.rows r _ hr;rw[hρ]at h6;cases h6;refine⟨⟨hh.wx.trans cZ,λb hb ho=>?_,hh.outLt,?_,?_⟩,hv⟩
 ·refine(hw b ?_).trans (hh.old b hb ho);rintro rfl
  rcases(h7 hn).1.2 rfl with h8|h8
  ·omega
  ·exact ho h8
 ·intro q row hq
  by_cases VV:q=r
  ·subst VV;rw[MA]at hq;cases hq
   grind
  ·rw[AA _ _ _ _ VV]at hq;obtain⟨qi,h1,h2,h3⟩:=hh.rows q row hq;refine⟨qi,h1,h2.keep (λU3=>hw _ ?_) hv,λU3=>by rw[KV];exact h3 U3⟩;intro e;exact VV (hh.inj q r row _ qi ri hq hr h1 hρ U3 hn e)
 ·intro q q' row row' qi qi' h1 h2 h3 h4 h5 h6 h7
  have:∀x y,zA h r (some ⟨c', .own⟩) x=some y→∃z,h x=some z:=λx y hx=>by
   by_cases hq:x=r
   ·grind
   ·rw[AA _ _ _ _ hq]at hx;exact⟨_,hx⟩
  obtain⟨z,hz⟩:=this _ _ h1;obtain⟨z',MX⟩:=this _ _ h2;exact hh.inj q q' z z' qi qi' hz MX h3 h4 h5 h6 h7
def pB.less(hh:pB w0 outer own ρ h w){h':Nat→Option rA}(hs:∀r row',h' r=some row'→∃row,h r=some row∧row.c=row'.c∧(row'.m.isRo=false→row.m.isRo=false)):
  pB w0 outer own ρ h' w∧∀u d,VR w ρ (qA outer ρ h) u d→VR w ρ (qA outer ρ h') u d:=by
 have YV:∀b,qA outer ρ h' b→qA outer ρ h b:=λb hb=>hb.mono λq row' h1 h2=>by
  grind
 have hv:∀u d,VR w ρ (qA outer ρ h) u d→VR w ρ (qA outer ρ h') u d:=λu d hu=>hu.mono (λ_ _ h=>h) (λ_ _ _=>rfl) λb hb=> .inl (YV b hb);refine⟨⟨hh.wx,hh.old,hh.outLt,λr row' hr=>?_,λq q' row row' qi qi' h1 h2 h3 h4 h5 h6 h7=>?_⟩,hv⟩
 ·obtain⟨row,h1,h2,h6⟩:=hs r row' hr;obtain⟨ri,h3,h4,h5⟩:=hh.rows r row h1;exact⟨ri,h3,by rw[←h2];exact h4.keep (λ_=>rfl) hv,λhn=>⟨⟨(h5 hn).1.1,λhm=>(h5 hn).1.2 (h6 hm)⟩,(h5 hn).2⟩⟩
 ·obtain⟨z,hz,_⟩:=hs _ _ h1;obtain⟨z',MX,_⟩:=hs _ _ h2;exact hh.inj q q' z z' qi qi' hz MX h3 h4 h5 h6 h7
def pB.world(hh:pB w0 outer own ρ h w){w':World}(cZ:Wx w w')(PW:w'.heap=w.heap):
  pB w0 outer own ρ h w'∧∀u d,VR w ρ (qA outer ρ h) u d→VR w' ρ (qA outer ρ h) u d:=by
 have hv:∀u d,VR w ρ (qA outer ρ h) u d→VR w' ρ (qA outer ρ h) u d:=λu d hu=>hu.mono (λ_ _ h=>h) (λ_ _ _=>by rw[PW]) λb hb=> .inl hb;refine⟨⟨hh.wx.trans cZ,λb hb ho=>by rw[PW];exact hh.old b hb ho,hh.outLt,λr row hr=>?_,hh.inj⟩,hv⟩;obtain⟨ri,h1,h2,h3⟩:=hh.rows r row hr;exact⟨ri,h1,h2.keep (λ_=>by rw[PW]) hv,λhn=>by rw[PW];exact h3 hn⟩
end
end Go.D
namespace Go.D
variable [iA]
section
variable {C:Cx} {w0:World} {outer own:Nat→Prop} {ρ:Nat→Option RI} {st:St} {a:Act} {w:World} {h:Nat→Option rA}
omit [iA]in
def DF:∀(ids:List Nat) (h:Nat→Option rA) (r:Nat),
  sC h ids r=if r∈ids then(h r).map (λrow=>{row with m:= .ro})else h r
 | [],h,r=>by simp[sC]
 | q :: qs,h,r=>by
  rw[sC,DF qs]
  by_cases hq:r=q
  ·subst hq;rw[MA]
   by_cases hm:r∈qs
   ·simp only[hm,if_true,List.mem_cons,or_true,if_true];cases h r<;>rfl
   ·simp[hm]
  ·rw[AA _ _ _ _ hq];simp[hq]
omit [iA]in
def GU(h:Nat→Option rA)(ids:List Nat):∀r row',sC h ids r=some row'→∃row,h r=some row∧row.c=row'.c∧(row'.m.isRo=false→row.m.isRo=false):=by
 intro r row' hr;rw[DF]at hr
 by_cases hm:r∈ids
 ·simp only[hm,if_true,Option.map_eq_some_iff]at hr;obtain⟨row,h1,rfl⟩:=hr;exact⟨row,h1,rfl,by simp[qH.isRo]⟩
 grind
def pB.mark(hh:pB w0 outer own ρ h w)(ids:List Nat):pB w0 outer own ρ (sC h ids) w∧
  ∀u d,VR w ρ (qA outer ρ h) u d→VR w ρ (qA outer ρ (sC h ids)) u d:=hh.less (GU h ids)
omit [iA]in
def zpW{i j:List Nat}(hs:∀r∈i,r∈j){b:Nat}(hb:qA outer ρ (sC h j) b):qA outer ρ (sC h i) b:=
 hb.mono λr row' h1 h2=>by
  rw[DF]at h1
  by_cases hm:r∈j
  ·simp only[hm,if_true,Option.map_eq_some_iff]at h1;obtain⟨row,_,rfl⟩:=h1;simp[qH.isRo]at h2
  ·simp only[hm,if_false]at h1;exact⟨row',by rw[DF,if_neg (λh=>hm (hs r h))];exact h1,h2⟩
def sU{i j:List Nat}(hs:∀r∈i,r∈j){u:Value}{d:V}(hv:VR w ρ (qA outer ρ (sC h i)) u d):VR w ρ (qA outer ρ (sC h j)) u d:=hv.mono (λ_ _ h=>h) (λ_ _ _=>rfl) λ_ hb=> .inl (zpW hs hb)
def zeS(hh:pB w0 outer own ρ h w){r:Nat}{row:rA}{ri:RI}(hr:h r=some row)(hρ:ρ r=some ri)(hn:ri.nl=false)
  {ids:List Nat} (hm:r∈ids):¬qA outer ρ (sC h ids) ri.b:=by
 obtain⟨ri',h1,_,h2⟩:=hh.rows r row hr;rw[hρ]at h1;cases h1;rintro(hb|⟨q,row',qi,h3,h4,h5,h6,h7⟩)
 ·exact(h2 hn).1.1 hb
 ·rw[DF]at h3
  by_cases hq:q∈ids
  ·simp only[hq,if_true,Option.map_eq_some_iff]at h3;obtain⟨_,_,rfl⟩:=h3;simp[qH.isRo]at h4
  ·simp only[hq,if_false]at h3;exact hq (by rw[hh.inj q r row' row qi ri h3 hr h5 hρ h6 hn h7];exact hm)
def XC(d:V):Prop:=∀S:Nat→Prop,CB S d
omit [iA]in
def KM(t:TN)(l:List (El t)):XC (.sl t l):=λS=> .sl t l λi _ j _=>WM S t _ j
omit [iA]in
def zif(t:TN)(x:El t)(j:Nat)(hj:j<sz t):((enc t x).getD j .undef).leaf=true:=by
 have h1:=zkk t x;have h2:j<(enc t x).length:=by rw[cD];exact hj
 grind
def zlX{bad:Nat→Prop}{ri:RI}{t:TN}{l:List (El t)}(hr:aE w ρ bad ri (.arr t l))(hn:ri.nl=false)(hb:¬bad ri.b)
  (off len cap:Nat) (DV:off+len≤l.length) (XZ:len≤cap) (zZ:cap≤maxLen):
  VR w ρ bad (.slice (some (at_ ri.b (off *sz t))) len cap) (.sl t ((l.drop off).take len)):=by
 rcases hr.2 with h|⟨h0,he,h1,h2,h3,h4⟩
 ·grind
 have hl:((l.drop off).take len).length=len:=by simp;omega
 have:=VR.slC (w:=w) (ρ:=ρ) (bad:=bad) t ((l.drop off).take len) ri.b (off *sz t) cap (λi j=>(w.cell? (at_ ri.b (off *sz t+i *sz t+j))).getD undef) hb (by omega) zZ (λ_=> .inr he)
  (fun i hi j hj=>by
   obtain⟨u,h5,h6⟩:=h4 (off+i) (by omega) j hj;rw[Nat.add_mul]at h5;rw[h5];rfl)
  (fun i hi j hj=>by
   obtain⟨u,h5,h6⟩:=h4 (off+i) (by omega) j hj;rw[Nat.add_mul]at h5;rw[h5,Option.getD_some];have:((l.drop off).take len)[i]=l[off+i]'(by omega):=by simp
   rw[this];exact h6)
 rw[hl]at this;exact this
omit [iA]in
def MM{t:TN}(e:t=t)(l:List (El t)):TN.cast e l=l:=by cases e;rfl
omit [iA]in
def zb5:∀(n:Nat) (d:V),CG n d=true→XC d∧d.leaf=true
 | 0,d,h=>by simp[CG]at h
 | n+1,d,h=>by
  cases d<;>simp only[CG,List.all_eq_true]at h<;>try (cases h;done)
  ·exact⟨λ_=> .bool _,rfl⟩
  ·exact⟨λ_=> .int _ _,rfl⟩
  ·exact⟨λ_=> .str _,rfl⟩
  ·exact⟨λ_=> .nil,rfl⟩
  ·exact⟨KM _ _,rfl⟩
  ·exact⟨λS=> .fp _ _ λj hj=>(zb5 n _ (h _ (List.getElem_mem hj))).1 S,rfl⟩
  ·exact⟨λS=> .fn _ _ λj hj=>(zb5 n _ (h _ (List.getElem_mem hj))).1 S,rfl⟩
  ·exact⟨λ_=> .nili,rfl⟩
  ·exact⟨λ_=> .ifc _,rfl⟩
def zfj(hh:pB w0 outer own ρ h w){v:Value}{d d':V}{ids:List Nat}(hv:VR w ρ (qA outer ρ h) v d)(hf:QG h d=some (d',ids)):
  VR w ρ (qA outer ρ (sC h ids)) v d'∧XC d'∧d'.leaf=true:=by
 unfold QG at hf;split at hf
 ·rename_i r;split at hf
  ·rename_i t l m hr;cases P8:m.isLock<;>simp[P8]at hf
   obtain⟨rfl,rfl⟩:=hf;refine⟨?_,KM _ _,rfl⟩;obtain⟨hh',Y5⟩:=hh.mark [r];obtain⟨ri,hρ,JV,V3⟩:=hh.rows r _ hr;have W3:=JV.keep (λ_=>rfl) Y5;cases hv with
   | ow _ ri' h1 h2 h3 h4=>
    rw[hρ]at h1;cases h1;have:=zlX W3 h4 (zeS hh hr hρ h4 (by simp)) 0 ri.n ri.cap (by have:=JV.1;omega) h2 h3;have hln:l.length=ri.n:=JV.1.symm
    grind
   | owN _ ri' ao h1 h2 h3=>
    rw[hρ]at h1;cases h1
    rcases JV.2 with h|⟨h,_⟩
    ·rw[h.2];exact .slE _ _ _ (Nat.zero_le _)
    grind
  ·cases hf
 ·rename_i r t off len;split at hf
  ·rename_i t' l m hr;cases P8:m.isLock
   case true=>simp[P8]at hf
   simp only[P8,cond_false]at hf;split at hf
   case isFalse=>cases hf
   rename_i e;subst e;simp only[MM,Option.some.injEq,Prod.mk.injEq]at hf;obtain⟨rfl,rfl⟩:=hf;refine⟨?_,KM _ _,rfl⟩;obtain⟨hh',Y5⟩:=hh.mark [r];obtain⟨ri,hρ,JV,V3⟩:=hh.rows r _ hr;have W3:=JV.keep (λ_=>rfl) Y5;cases hv with
   | ov _ _ _ _ cap ao ri' h1 W5 ha hl hc=>
    rw[hρ]at h1;cases h1;have hn:=JV.1
    rcases ha with⟨rfl,_⟩|⟨rfl,UV,_⟩
    ·rw[List.take_zero];exact .slE _ _ _ hc
    ·exact zlX W3 UV (zeS hh hr hρ UV (by simp)) off len cap (by omega) hl hc
  ·cases hf
 ·cases hb:CG 8 d<;>simp[hb]at hf
  obtain⟨rfl,rfl⟩:=hf;exact⟨hv,zb5 8 _ hb⟩
def zbH(hh:pB w0 outer own ρ h w):∀{ds ds':List V} {ids:List Nat} {vs:Nat→Value} (_:∀j (hj:j<ds.length),VR w ρ (qA outer ρ h) (vs j) ds[j])
  (_:eG h ds=some (ds',ids)),ds'.length=ds.length∧∀j (hj:j<ds'.length),VR w ρ (qA outer ρ (sC h ids)) (vs j) ds'[j]∧XC ds'[j]∧(ds'[j]).leaf=true
 | [],ds',ids,vs,_,hf=>by
  simp[eG]at hf;obtain⟨rfl,rfl⟩:=hf;exact⟨rfl,λj hj=>by simp at hj⟩
 | d :: ds,ds',ids,vs,hv,hf=>by
  simp only[eG]at hf;split at hf
  ·cases hf
  ·rename_i d' i h1;split at hf
   ·cases hf
   ·rename_i ds'' j h2;simp only[Option.some.injEq,Prod.mk.injEq]at hf;obtain⟨rfl,rfl⟩:=hf;have h3:=zfj hh (hv 0 (by simp)) h1;have h4:=zbH hh (vs:=λj=>vs (j+1)) (λj hj=>hv (j+1) (by simp;omega)) h2;refine⟨by simp[h4.1],λk hk=>?_⟩;cases k with
    | zero=>exact⟨sU (λr hr=>by simp[hr]) h3.1,h3.2⟩
    | succ k=>
     have:=h4.2 k (by simpa using hk);exact⟨sU (λr hr=>by simp[hr]) this.1,this.2⟩
omit [iA]in
def zsM{cs:List V}(h:∀j (hj:j<cs.length),XC cs[j]):XC (.agg cs):=λS=> .agg _ λj hj=>h j hj S
def zgW(hh:pB w0 outer own ρ h w){v:Value}{d d':V}{ids:List Nat}(hv:VR w ρ (qA outer ρ h) v d)(hf:sH h d=some (d',ids)):
  VR w ρ (qA outer ρ (sC h ids)) v d'∧XC d':=by
 unfold sH at hf;split at hf
 ·rename_i cs;split at hf
  ·rename_i cs' i h1;simp only[Option.some.injEq,Prod.mk.injEq]at hf;obtain⟨rfl,rfl⟩:=hf;cases hv with
   | agg _ vs hs hv=>
    have:=zbH hh (vs:=λj=>vs.getD j undef) hv h1;exact⟨.agg _ _ (by rw[hs,this.1]) λj hj=>(this.2 j hj).1,zsM λj hj=>(this.2 j hj).2.1⟩
  ·cases hf
 ·rename_i r off;split at hf
  ·rename_i cs m hr;cases hb:(m.isLock||cs.isEmpty)
   case true=>simp[hb]at hf
   simp only[hb,cond_false]at hf;split at hf
   ·rename_i cs' i h1;simp only[Option.some.injEq,Prod.mk.injEq]at hf;obtain⟨rfl,rfl⟩:=hf;obtain⟨ri,hρ,JV,V3⟩:=hh.rows r _ hr;cases hv with
    | bp _ _ ri' h2 hn=>
     rw[hρ]at h2;cases h2
     have PV:∀j,j<cs.length→w.cell? (at_ ri.b (0+j))=some ((w.cell? (at_ ri.b (0+j))).getD undef):=λj hj=>by
      obtain⟨_,u,h3,_⟩:=JV.2 j hj
      grind
     have h4:=zbH hh (vs:=λj=>(w.cell? (at_ ri.b (0+j))).getD undef) (λj hj=>by
      obtain⟨_,u,h3,h5⟩:=JV.2 j hj;rw[Nat.zero_add,h3];exact h5) h1
     have Z5:0<cs.length:=by
      cases cs with
      | nil=>simp at hb
      | cons=>simp
     have:=VR.fp (w:=w) (ρ:=ρ) (bad:=qA outer ρ (sC h (r :: i))) cs' off ri.b 0 (λj=>(w.cell? (at_ ri.b (0+j))).getD undef) (by omega)
      (zeS hh hr hρ hn (by simp)) (λj hj=>PV j (by omega)) (λj hj=>sU (λq hq=>by simp[hq]) (h4.2 j hj).1)
     rw[Nat.zero_add]at this;exact⟨this,λS=> .fp _ _ λj hj=>(h4.2 j hj).2.1 S⟩
   ·cases hf
  ·cases hf
 ·have:=zfj hh hv hf
  grind
def zff(hh:pB w0 outer own ρ h w):∀{ds ds':List V} {ids:List Nat} {vs:Nat→Value} (_:∀j (hj:j<ds.length),VR w ρ (qA outer ρ h) (vs j) ds[j])
  (_:GL h ds=some (ds',ids)),ds'.length=ds.length∧∀j (hj:j<ds'.length),VR w ρ (qA outer ρ (sC h ids)) (vs j) ds'[j]∧XC ds'[j]
 | [],ds',ids,vs,_,hf=>by
  simp[GL]at hf;obtain⟨rfl,rfl⟩:=hf;exact⟨rfl,λj hj=>by simp at hj⟩
 | d :: ds,ds',ids,vs,hv,hf=>by
  simp only[GL]at hf;split at hf
  ·cases hf
  ·rename_i d' i h1;split at hf
   ·cases hf
   ·rename_i ds'' j h2;simp only[Option.some.injEq,Prod.mk.injEq]at hf;obtain⟨rfl,rfl⟩:=hf;have h3:=zgW hh (hv 0 (by simp)) h1;have h4:=zff hh (vs:=λj=>vs (j+1)) (λj hj=>hv (j+1) (by simp;omega)) h2;refine⟨by simp[h4.1],λk hk=>?_⟩;cases k with
    | zero=>exact⟨sU (λr hr=>by simp[hr]) h3.1,h3.2⟩
    | succ k=>
     have:=h4.2 k (by simpa using hk);exact⟨sU (λr hr=>by simp[hr]) this.1,this.2⟩
def VR.noRef{bad:Nat→Prop}{u:Value}{d:V}(hv:VR w ρ bad u d)(hd:XC d)(ρ':Nat→Option RI):VR w ρ' bad u d:=
 hv.keep (S:=λ_=>False) (hd _) (λ_ _ h=>h.elim) (λ_ _ _=>rfl) λ_ h=> .inl h
end
end Go.D
namespace Go.D
variable [iA]
section
variable {C:Cx} {w0:World} {outer own:Nat→Prop} {ρ:Nat→Option RI} {st st':St} {a:Act} {w:World} {h:Nat→Option rA}
def zdn{bad:Nat→Prop}(v:Value):VR w ρ bad v (jP v):=by
 unfold jP;split
 ·exact .bool _
 ·rename_i k n;cases hb:(decide (k.min≤n)&&decide (n≤k.max))
  ·exact .undef _
  ·simp at hb;exact .int _ _ hb
 ·rename_i s;cases hb:Nat.ble s.data.toList.length 1000000
  ·exact .undef _
  ·have:=Nat.le_of_ble_eq_true hb;have h2:(⟨s.data.toList.toArray⟩:ByteArray)=s:=by cases s;simp
   have h3:=VR.str (w:=w) (ρ:=ρ) (bad:=bad) s.data.toList (by unfold maxLen;omega);simp_all
 ·exact .nil
 ·exact .nili
 ·exact .undef _
def bB.opd(hr:bB C w0 outer own ρ st a w)(x:Operand):VR w ρ (qA outer ρ st.h) (a.eval x) (opd st.s x):=by
 cases x with
 | tmp t=>exact hr.slots t
 | const v=>exact zdn v
 | global g=>exact .undef _
 | func f=>exact .fn f [] #[] rfl λj hj=>by simp at hj
def EC(P:Program)(o:Oper)(a:Act)(w:World)(post:Act→World→Prop):Prop:=∀next Q,(∀a' w',post a' w'→next a' w')→o.wp P a w next Q
omit [iA]in
def kC{P:Program}{o:Oper}{v:Value}{w':World}{post:Act→World→Prop}(zV:(execOp a.eval o).run P w= .ok (.value v) w')
  (hp:post (a.put o.dst v) w'):EC P o a w post:=λnext Q hn=>by
 unfold Oper.wp;rw[zV,Oper.upon_value];exact hn _ _ hp
omit [iA]in
def zjX{P:Program}{o:Oper}{w':World}{post:Act→World→Prop}(zV:(execOp a.eval o).run P w= .ok .skip w')
  (hp:post (a.put o.dst undef) w'):EC P o a w post:=λnext Q hn=>by
 unfold Oper.wp;rw[zV,Oper.upon_skip];exact hn _ _ hp
def Ext(i:Nat)(ρ ρ':Nat→Option RI):Prop:=∀r,¬(i≤r∧r<i+128)→ρ' r=ρ r
def yC(C:Cx)(w0:World)(outer own:Nat→Prop)(i:Nat)(ρ:Nat→Option RI)(st':St)(a':Act)(w':World):Prop:=∃ρ',bB C w0 outer own ρ' st' a' w'∧Ext i ρ ρ'∧∀r ri,ρ r=some ri→ρ' r=some ri
def bB.after(hr:bB C w0 outer own ρ st a w){i:Nat}{dst:Option Nat}{v:Value}{d:V}(hv:VR w ρ (qA outer ρ st.h) v d)
  (hk:UA C dst st d some=some st'):yC C w0 outer own i ρ st' (a.put dst v) w:=
 ⟨ρ,(hr.put hv hk).1,λ_ _=>rfl,λ_ _ h=>h⟩
def bB.turn(hr:bB C w0 outer own ρ st a w){ρ':Nat→Option RI}{h':Nat→Option rA}{w':World}(hh:pB w0 outer own ρ' h' w')
  (hv:∀u d,VR w ρ (qA outer ρ st.h) u d→VR w' ρ' (qA outer ρ' h') u d):bB C w0 outer own ρ' {st with h:=h'} a w':=
 ⟨hh,λi=>hv _ _ (hr.slots i),hr.size,hr.defers,hr.glob⟩
omit [iA]in
def qV(w:World)(o:Obj):Wx w (w.alloc o):=⟨rfl,rfl,rfl,by simp⟩
omit [iA]in
def zlA(w:World):Wx w w.drew:=⟨rfl,rfl,rfl,Nat.le_refl _⟩
omit [iA]in
def qU(w:World)(o:Obj)(b:Nat)(hb:b<w.heap.size):(w.alloc o).heap[b]?=w.heap[b]?:=by
 show(w.heap.push o)[b]?=_
 grind
def bB.newRow(hr:bB C w0 outer own ρ st a w){i:Nat}(hi:ρ i=none)(ri:RI)(hb:ri.nl=false→ri.b=w.heap.size)(w':World)(cZ:Wx w w')
  (hw:∀b,b<w.heap.size→w'.heap[b]?=w.heap[b]?) (KV:ri.nl=false→w.heap.size<w'.heap.size) {c:vF} {dst:Option Nat} {v:Value} {d:V}
  (hc:∀bad,(∀u d,VR w ρ (qA outer ρ st.h) u d→VR w' (zA ρ i (some ri)) bad u d)→aE w' (zA ρ i (some ri)) bad ri c)
  (hv:∀bad,VR w' (zA ρ i (some ri)) bad v d) (hk:wF C dst st i c d some=some st'):yC C w0 outer own i ρ st' (a.put dst v) w':=by
 obtain⟨h1,h2⟩:=hr.heap.alloc i hi ri hb w' cZ hw KV c (hc _);refine⟨_,((hr.turn h1 h2).put (hv _) hk).1,λr hn=>AA _ _ _ _ ?_,λr qi hq=>?_⟩
 ·grind
 ·rw[AA];exact hq;rintro rfl;simp[hi]at hq
def zcu{bad:Nat→Prop}{v:Value}{d:V}(hv:VR w ρ bad v d)(hl:lH (cellsOf d)=true):
  v.cells.size=(cellsOf d).length∧(∀j (hj:j<(cellsOf d).length),VR w ρ bad (v.cells.getD j undef) (cellsOf d)[j])∧∀u∈v.cells.toList,u.oneCell'=true:=by
 by_cases ha:∃cs,d= .agg cs
 ·obtain⟨cs,rfl⟩:=ha;cases hv with
  | agg _ vs hs hv=>
   refine⟨hs,hv,λu hu=>?_⟩;obtain⟨j,hj,rfl⟩:=List.mem_iff_getElem.1 hu;have ZW:j<vs.size:=by simpa[Value.cells]using hj
   have h1:=hv j (by omega);simp only[cellsOf]at hl;have h2:=List.all_eq_true.1 hl cs[j] (List.getElem_mem (by omega));have h3:=h1.one h2;rw[Array.getD_eq_getD_getElem?,Array.getElem?_eq_getElem ZW]at h3;simpa[Value.cells]using h3
 ·have hc:cellsOf d=[d]:=by cases d<;>first | rfl | exact absurd ⟨_,rfl⟩ ha
  rw[hc]at hl⊢;have hd:d.leaf=true:=by simpa[lH]using hl
  have h1:=hv.one hd;have hcv:v.cells= #[v]:=by cases v<;>first|rfl|(simp[Value.oneCell']at h1)
  simp_all
omit [iA]in
def nO(w:World)(c:Array Value)(e:TypeId)(j:Nat)(hj:j<c.size):(w.alloc (.cells c e)).cell? (at_ w.heap.size j)=some (c.getD j undef):=by
 rw[at_,World.cell?_alloc_new,Array.getD_eq_getD_getElem?,Array.getElem?_eq_getElem hj];rfl
def zwu{bad bad':Nat→Prop}{ρ':Nat→Option RI}{c:Array Value}{e:TypeId}{cs:List V}{ri:RI}(hn:ri.nl=false)(hb:ri.b=w.heap.size)(hs:c.size=cs.length)
  (hv:∀j (hj:j<cs.length),VR w ρ bad (c.getD j undef) cs[j]) (hk:∀u d,VR w ρ bad u d→VR (w.alloc (.cells c e)) ρ' bad' u d):
  aE (w.alloc (.cells c e)) ρ' bad' ri (.box cs):=by
 refine⟨hn,λj hj=>?_⟩;rw[hb];exact⟨World.frozen?_alloc_new _ _ _ _,_,nO w c e j (by omega),hk _ _ (hv j hj)⟩
def zlW(hr:bB C w0 outer own ρ st a w){i:Nat}(hi:ρ i=none){v:Value}{e:TypeId}{cs:List V}(hs:v.cells.size=cs.length)
  (hv:∀j (hj:j<cs.length),VR w ρ (qA outer ρ st.h) (v.cells.getD j undef) cs[j]) {dst:Option Nat} (hk:wF C dst st i (.box cs) (.bp i 0) some=some st'):
  yC C w0 outer own i ρ st' (a.put dst (.pointer (some ⟨w.heap.size,0,none⟩))) (w.alloc (.cells v.cells e)):=
 hr.newRow hi ⟨w.heap.size,0,0,false⟩ (λ_=>rfl) _ (qV _ _) (λb hb=>qU _ _ _ hb) (λ_=>by simp)
  (λbad vW=>zwu rfl rfl hs hv vW) (λbad=> .bp i 0 ⟨w.heap.size,0,0,false⟩ (MA _ _ _) rfl) hk
variable {o:Oper} {i:Nat} (hr:bB C w0 outer own ρ st a w)
include hr
def zlk(x:Operand)(ho:o.op= .move x∨o.op= .assign x)(hk:UA C o.dst st (opd st.s x) some=some st'):
  EC C.P o a w (yC C w0 outer own i ρ st'):=
 kC (v:=a.eval x) (w':=w) (by rcases ho with ho|ho<;>simp[execOp,ho]) (hr.after (hr.opd x) hk)
def zvi(c x y:Operand)(ho:o.op= .pick c x y)(t p q:Bool)(hc:opd st.s c= .bool t)(hx:opd st.s x= .bool p)(hy:opd st.s y= .bool q)
  (hk:UA C o.dst st (.bool (cond t p q)) some=some st'):EC C.P o a w (yC C w0 outer own i ρ st'):=by
 have h1:=hr.opd c;rw[hc]at h1;have h2:=hr.opd x;rw[hx]at h2;have h3:=hr.opd y;rw[hy]at h3;generalize M9:a.eval c=vc at h1;generalize N9:a.eval x=vx at h2;generalize hey:a.eval y=vy at h3;cases h1;cases h2;cases h3;refine kC (v:= .bool (cond t p q)) (w':=w) ?_ (hr.after (.bool _) hk);simp[execOp,ho,M9,N9,hey,asBool]
def zuT(e:TypeId)(ho:o.op= .alloc e)(hi:ρ i=none)(cs:List V)(hz:zgf C.P e=some cs)(hk:wF C o.dst st i (.box cs) (.bp i 0) some=some st'):
  EC C.P o a w (yC C w0 outer own i ρ st'):=by
 unfold zgf at hz;cases MX:(C.P.info? e).bind (·.zero)with
 | none=>rw[MX]at hz;cases hz
 | some z=>
  rw[MX]at hz;simp only[Option.map_some,Option.some.injEq]at hz;subst hz;obtain⟨info,NY,hi2⟩:=Option.bind_eq_some_iff.1 MX;refine kC (w':=w.alloc (.cells z.cells e)) ?_ (zlW hr hi (v:=z) (e:=e) (by simp) (λj hj=>?_) hk)
  ·simp[execOp,ho,Instr.alloc,zeroValue,typeInfo,NY,hi2,newVar,newRow]
  ·rw[List.getElem_map];have ZW:j<z.cells.size:=by simpa using hj
   rw[Array.getD_eq_getD_getElem?,Array.getElem?_eq_getElem ZW];exact zdn _
def zwy(e:TypeId)(x:Operand)(ho:o.op= .box e x)(hi:ρ i=none)(hl:lH (cellsOf (opd st.s x))=true)
  (hk:wF C o.dst st i (.box (cellsOf (opd st.s x))) (.bp i 0) some=some st'):EC C.P o a w (yC C w0 outer own i ρ st'):=by
 obtain⟨h1,h2,h3⟩:=zcu (hr.opd x) hl;refine kC (w':=w.alloc (.cells (a.eval x).cells e)) ?_ (zlW hr hi (v:=a.eval x) (e:=e) h1 h2 hk);simp[execOp,ho,Instr.box,newVar,newRow]
omit hr
def vV(w:World)(ρ:Nat→Option RI)(bad:Nat→Prop)(b o:Nat)(cs:List V):Prop:=∀j (hj:j<cs.length),∃u,w.cell? (at_ b (o+j))=some u∧VR w ρ bad u cs[j]
omit [iA]in
def BG(b o n:Nat):(at_ b o).add n=at_ b (o+n):=Addr.add_lit b o n
omit [iA]in
def yF{P:Program}{t:TypeId}{d:TypeDesc}(h:P.underlying t=some d):(underlying t).run P w= .ok d w:=by
 simp[underlying,h]
omit [iA]in
def dS{P:Program}{t:TypeId}{ag:Bool}(h:bF P t=some ag):(isAgg t).run P w= .ok ag w:=by
 unfold bF at h;unfold isAgg;split at h
 ·rename_i hu;cases h;simp[underlying,hu]
 ·rename_i hu;cases h;simp[underlying,hu]
 ·rename_i d h1 h2 hu;cases h;rw[Sem.run_bind,yF hu,Result.andThen_ok];simp_all
 ·cases h
omit [iA]in
def CL{P:Program}{t:TypeId}{n:Nat}(h:sF P t=some n):(sizeOf t).run P w= .ok n w:=by
 unfold sF at h;obtain⟨i,h1,h2⟩:=Option.map_eq_some_iff.1 h;simp[sizeOf,typeInfo,h1,h2]
def zlG{P:Program}{bad:Nat→Prop}{t:TypeId}{ag:Bool}{n b o off:Nat}{cs:List V}{R:Type}{K:V→Option R}{r:R}(h1:bF P t=some ag)(h2:sF P t=some n)
  (hc:vV w ρ bad b o cs) (hk:vG ag n cs off K=some r):
  ∃d v,K d=some r∧VR w ρ bad v d∧(loadVar t (at_ b (o+off))).run P w= .ok v w:=by
 unfold vG at hk;cases ag with
 | true=>
  simp only[VC]at hk;cases hb:Nat.ble (off+n) cs.length
  case false=>simp[hb]at hk
  simp only[hb,VC]at hk;have fW:=Nat.le_of_ble_eq_true hb
  have PV:∀j,j<n→w.cell? ((at_ b (o+off)).add j)=some ((w.cell? (at_ b (o+off+j))).getD undef):=λj hj=>by
   obtain⟨u,h3,_⟩:=hc (off+j) (by omega);rw[BG,show o+off+j=o+(off+j)by omega,h3];rfl
  refine⟨_, .agg ((List.range n).map λj=>(w.cell? (at_ b (o+off+j))).getD undef).toArray,hk,?_,?_⟩
  ·refine .agg _ _ (by simp;omega) λj hj=>?_;have O9:j<n:=by simp at hj;omega
   obtain⟨u,h3,h4⟩:=hc (off+j) (by omega);have he:((cs.drop off).take n)[j]=cs[off+j]'(by omega):=by simp
   rw[he]
   have hg:(((List.range n).map λj=>(w.cell? (at_ b (o+off+j))).getD undef).toArray.getD j undef)=u:=by
    simp[O9,show o+off+j=o+(off+j)by omega,h3]
   rw[hg];exact h4
  ·simp only[loadVar,Sem.run_bind,dS h1,Result.andThen_ok,Sem.run_ite,if_true,CL h2,run_loadCells w _ n _ PV,Sem.run_pure]
 | false=>
  simp only[ZS]at hk;split at hk
  ·rename_i c r' hd
   have FV:off<cs.length:=by
    rcases Nat.lt_or_ge off cs.length with h|h
    ·exact h
    ·rw[List.drop_eq_nil_of_le h]at hd;cases hd
   have X3:cs[off]=c:=by
    rw[List.drop_eq_getElem_cons FV]at hd;exact(List.cons.inj hd).1
   obtain⟨u,h3,h4⟩:=hc off FV;refine⟨c,u,hk,by rw[←X3];exact h4,?_⟩;simp only[loadVar,Sem.run_bind,dS h1,Result.andThen_ok,Sem.run_ite,Bool.false_eq_true,if_false,run_load,h3]
  ·cases hk
omit [iA]in
def ziG(w:World)(x:Addr)(u:Value)(b:Nat)(h:b≠x.block):(w.setCell x u).heap[b]?=w.heap[b]?:=by
 simp only[World.setCell,Array.getElem?_modify]
 grind
omit [iA]in
def zaS:∀(vs:List Value) (o:Nat) (w:World) (b b':Nat),b'≠b→(w.setCells b o vs).heap[b']?=w.heap[b']?
 | [],_,_,_,_,_=>rfl
 | v :: vs,o,w,b,b',h=>by
  rw[World.setCells,zaS vs _ _ b b' h,ziG _ _ _ _ (by simpa using h)]
def zql{w:World}{x:Addr}{u:Value}{b:Nat}{t:TN}(h:LF w b t):LF (w.setCell x u) b t:=by
 obtain⟨c,e,z,h1,h2⟩:=h
 by_cases hb:x.block=b
 ·refine⟨if x.spot.isSome then c else c.setIfInBounds x.off u,e,z,?_,h2⟩;simp only[World.setCell,Array.getElem?_modify,hb,if_true,h1,Option.map_some]
 ·exact⟨c,e,z,(ziG w x u b (Ne.symm hb)).trans h1,h2⟩
def zeI:∀(vs:List Value) (o:Nat) {w:World} {b b':Nat} {t:TN},LF w b' t→LF (w.setCells b o vs) b' t
 | [],_,_,_,_,_,h=>h
 | v :: vs,o,w,b,b',t,h=>by
  rw[World.setCells];exact zeI vs _ (zql h)
omit [iA]in
def zaV:∀(vs:List Value) (o:Nat) (w:World) (b:Nat),(w.setCells b o vs).heap.size=w.heap.size
 | [],_,_,_=>rfl
 | v :: vs,o,w,b=>by rw[World.setCells,zaV vs];simp
omit [iA]in
def zbj:∀(vs:List Value) (o:Nat) (w:World) (b:Nat),Wx w (w.setCells b o vs)
 | [],_,_,_=>Wx.refl _
 | v :: vs,o,w,b=>by
  rw[World.setCells];exact Wx.trans (b:=w.setCell ⟨b,o,none⟩ v) ⟨rfl,rfl,rfl,by simp⟩ (zbj vs _ _ _)
omit [iA]in
def zft(cs:List V)(off:Nat)(vs:List V)(fW:off+vs.length≤cs.length):(sJ cs off vs).length=cs.length∧
  ∀j (hj:j<cs.length) (ZW:j<(sJ cs off vs).length),(sJ cs off vs)[j]=if h:off≤j∧j<off+vs.length then vs[j - off]'(by omega)else cs[j]:=by
 have DV:(sJ cs off vs).length=cs.length:=by simp[sJ];omega
 refine⟨DV,λj hj ZW=>?_⟩;simp only[sJ,List.append_assoc]
 by_cases h1:j<off
 ·grind
 ·rw[List.getElem_append_right (by simp;omega)]
  grind
omit [iA]in
def zkc{P:Program}{t:TypeId}{n b o:Nat}{v:Value}(h2:sF P t=some n)(hs:v.cells.size=n)(h1:∀u∈v.cells.toList,u.oneCell'=true)
  (hc:∀j,j<n→(w.cell? (at_ b (o+j))).isSome=true) (hf:∀j,j<n→w.frozen? (at_ b (o+j))=false):
  (storeVar t (at_ b o) v).run P w= .ok () (w.setCells b o v.cells.toList):=by
 have mY:=run_storeCells_cells (P:=P) b o v.cells.toList 0 w (λj hj=>by rw[Nat.add_zero];exact hc j (by simpa[hs]using hj)) (λj hj=>by rw[Nat.add_zero];exact hf j (by simpa[hs]using hj)) h1;simp only[Nat.add_zero]at mY;simp[storeVar,CL h2,hs];exact mY
end
end Go.D
namespace Go.D
variable [iA]
section
variable {C:Cx} {w0:World} {outer own:Nat→Prop} {ρ:Nat→Option RI} {st st':St} {a:Act} {w:World} {h:Nat→Option rA}
def zfY{bad:Nat→Prop}{r off:Nat}{cs:List V}{ri:RI}{v:Value}(hρ:ρ r=some ri)(JV:aE w ρ bad ri (.box cs)){bad':Nat→Prop}(hv:VR w ρ bad' v (.bp r off)):
  v= .pointer (some (at_ ri.b (0+off)))∧vV w ρ bad ri.b 0 cs:=by
 cases hv with
 | bp _ _ ri' h1 h2=>
  rw[hρ]at h1;cases h1;refine⟨by rw[Nat.zero_add],λj hj=>?_⟩;obtain⟨_,u,h3,h4⟩:=JV.2 j hj;exact⟨u,by rw[Nat.zero_add];exact h3,h4⟩
omit [iA]in
def cT{α:Type}(l:List α)(j:Nat)(d:α)(hj:j<l.length):l.getD j d=l[j]:=by
 rw[List.getD_eq_getElem?_getD,List.getElem?_eq_getElem hj,Option.getD_some]
def zkR{bad:Nat→Prop}{r k off:Nat}{t:TN}{l:List (El t)}{ri:RI}{v:Value}(hρ:ρ r=some ri)(JV:aE w ρ bad ri (.arr t l)){x:El t}(hx:l[k]?=some x)
  {bad':Nat→Prop} (hv:VR w ρ bad' v (.ep r t k off)):v= .pointer (some (at_ ri.b (k *sz t+off)))∧vV w ρ bad ri.b (k *sz t) (enc t x)∧ri.nl=false:=by
 cases hv with
 | ep _ _ _ _ ri' h1 h2=>
  rw[hρ]at h1;cases h1;refine⟨rfl,λj hj=>?_,h2⟩
  rcases JV.2 with h|⟨h0,_,_,_,_,h4⟩
  ·rw[h2]at h;cases h.1
  ·obtain⟨hk,rfl⟩:=List.getElem?_eq_some_iff.1 hx;have ZW:j<sz t:=by rw[←cD t l[k]];exact hj
   obtain⟨u,h5,h6⟩:=h4 k hk j ZW;rw[cT _ _ _ hj]at h6;exact⟨u,h5,h6⟩
def ztM{bad:Nat→Prop}{cs:List V}{off:Nat}{v:Value}(hv:VR w ρ bad v (.fp cs off)):
  ∃b o,v= .pointer (some (at_ b (o+off)))∧vV w ρ bad b o cs:=by
 cases hv with
 | fp _ _ b o u h0 hb hu hv=>exact⟨b,o,rfl,λj hj=>⟨_,hu j hj,hv j hj⟩⟩
omit [iA]in
def OB.get{cs ds:List V}(h:OB cs ds):∀(j:Nat) (hj:j<cs.length) (ZW:j<ds.length),dI cs[j] ds[j]:=by
 induction h with
 | nil=>intro j hj;simp at hj
 | cons h1 h2 ih=>
  intro j hj ZW;cases j with
  | zero=>exact h1
  | succ j=>exact ih j (by simpa using hj) (by simpa using ZW)
omit [iA]in
def OB.len{cs ds:List V}(h:OB cs ds):cs.length=ds.length:=by
 induction h with
 | nil=>rfl
 | cons _ _ ih=>simp[ih]
variable {o:Oper} {i:Nat} (hr:bB C w0 outer own ρ st a w)
include hr
def zfv(t:TypeId)(x:Operand)(ho:o.op= .load t x){ag:Bool}{n b p off:Nat}{cs:List V}(h1:bF C.P t=some ag)(h2:sF C.P t=some n)
  (hx:a.eval x= .pointer (some (at_ b (p+off)))) (hc:vV w ρ (qA outer ρ st.h) b p cs) (hk:vG ag n cs off (λv=>UA C o.dst st v some)=some st'):
  EC C.P o a w (yC C w0 outer own i ρ st'):=by
 obtain⟨d,v,h3,h4,h5⟩:=zlG h1 h2 hc hk;refine kC (v:=v) (w':=w) ?_ (hr.after h4 h3);simp[execOp,ho,hx,Instr.loadAt,Instr.sureAddr,h5]
def zJ{r:Nat}{c:vF}{m:qH}(h1:st.h r=some ⟨c,m⟩):∃ri,ρ r=some ri∧aE w ρ (qA outer ρ st.h) ri c:=by
 obtain⟨ri,h2,h3,_⟩:=hr.heap.rows r _ h1;exact⟨ri,h2,h3⟩
def zwc(t:TypeId)(x:Operand)(ho:o.op= .load t x)(hk:oB C i o st some=some st'):EC C.P o a w (yC C w0 outer own i ρ st'):=by
 simp only[oB,ho]at hk;split at hk
 case h_2=>cases hk
 rename_i ag n h1 h2;have hx:=hr.opd x;split at hk
 ·rename_i r off OV;rw[OV]at hx;split at hk
  ·rename_i cs m AV;obtain⟨ri,hρ,JV⟩:=zJ hr AV;obtain⟨e1,e2⟩:=zfY hρ JV hx;exact zfv hr t x ho h1 h2 e1 e2 hk
  ·cases hk
 ·rename_i r t' k off OV;rw[OV]at hx;split at hk
  ·rename_i t'' l m AV;obtain⟨ri,hρ,JV⟩:=zJ hr AV
   by_cases ht:t''=t'
   ·subst ht;simp only[decide_true,VC,zef,Option.bind_eq_some_iff]at hk;obtain⟨y,hy,hk⟩:=hk;obtain⟨e1,e2,_⟩:=zkR hρ JV hy hx;exact zfv hr t x ho h1 h2 e1 e2 hk
   ·simp[ht]at hk
  ·cases hk
 ·rename_i cs off OV;rw[OV]at hx;obtain⟨b,p,e1,e2⟩:=ztM hx;exact zfv hr t x ho h1 h2 e1 e2 hk
 ·cases hk
def zuk(t:TypeId)(x y:Operand)(ho:o.op= .store t x y)(hk:oB C i o st some=some st'):EC C.P o a w (yC C w0 outer own i ρ st'):=by
 simp only[oB,ho]at hk;split at hk
 ·cases hk
 rename_i n h2;cases hb:(Nat.beq n (cellsOf (opd st.s y)).length&&lH (cellsOf (opd st.s y)))
 case false=>simp[hb]at hk
 simp only[hb,VC]at hk;simp only[Bool.and_eq_true]at hb;have hn:n=(cellsOf (opd st.s y)).length:=Nat.eq_of_beq_eq_true hb.1;obtain⟨hs,rX,YZ⟩:=zcu (hr.opd y) hb.2;have hx:=hr.opd x;split at hk
 ·rename_i r off OV;rw[OV]at hx;split at hk
  ·rename_i cs AV;cases fW:Nat.ble (off+n) cs.length
   case false=>simp[fW]at hk
   simp only[fW,VC]at hk;have fW:=Nat.le_of_ble_eq_true fW;obtain⟨ri,hρ,JV⟩:=zJ hr AV;obtain⟨e1,e2⟩:=zfY hρ JV hx;rw[Nat.zero_add]at e1
   have PV:∀j,j<n→(w.cell? (at_ ri.b (off+j))).isSome=true:=λj hj=>by
    obtain⟨_,u,h3,_⟩:=JV.2 (off+j) (by omega);rw[h3];rfl
   have wW:∀j,j<n→w.frozen? (at_ ri.b (off+j))=false:=λj hj=>(JV.2 (off+j) (by omega)).1;have zV:=zkc (P:=C.P) h2 (hs.trans hn.symm) YZ PV wW;generalize hW:w.setCells ri.b off (a.eval y).cells.toList=W at zV
   have JW:=hr.heap.write AV hρ JV.1 W (by rw[←hW];exact zbj _ _ _ _) (by rw[←hW];exact zaV _ _ _ _)
    (fun b hb=>by rw [← hW];exact zaS _ _ _ _ _ hb) (.box (sJ cs off (cellsOf (opd st.s y)))) (fun vW=>by
     obtain⟨V2,ZZ⟩:=zft cs off (cellsOf (opd st.s y)) (by omega);refine⟨JV.1,λj hj=>?_⟩;have ZW:j<cs.length:=by omega
     refine⟨by rw[←hW,World.frozen?_setCells];exact(JV.2 j ZW).1,?_⟩;rw[ZZ j ZW hj];split
     ·rename_i oW;have:=World.cell?_setCells_in ri.b (a.eval y).cells.toList off w (λj hj=>PV j (by simpa[hs,hn]using hj)) (j - off) (by simp[hs];omega);refine⟨_,by rw[←hW,show at_ ri.b j=⟨ri.b,off+(j - off),none⟩by rw[at_];congr 1;omega];exact this,?_⟩;have h4:=rX (j - off) (by omega);rw[Array.getD_eq_getD_getElem?,Array.getElem?_eq_getElem (by omega),Option.getD_some]at h4;exact vW _ _ (by simpa using h4)
     ·rename_i SW;obtain⟨_,u,h3,h4⟩:=JV.2 j ZW;refine⟨u,?_,vW _ _ h4⟩;rw[←hW,World.cell?_setCells_out]
      ·exact h3
      ·intro _ _;simp only[at_,Array.length_toList,hs];omega)
   refine zjX (w':=W) ?_ ⟨ρ,((hr.turn JW.1 JW.2).put (.undef _) hk).1,λ_ _=>rfl,λ_ _ h=>h⟩;simp[execOp,ho,e1,Instr.storeAt,Instr.sureAddr,zV]
  ·cases hk
 ·rename_i r t' k off OV;rw[OV]at hx;split at hk
  ·rename_i t'' l AV;obtain⟨ri,hρ,JV⟩:=zJ hr AV
   by_cases ht:t''=t'
   case neg=>simp[ht]at hk
   subst ht;simp only[decide_true,VC]at hk;split at hk
   ·cases hk
   rename_i vs' ids dZ;cases OY:ids.any (Nat.beq r)
   case true=>simp[OY]at hk
   simp only[OY,ZS,zef,oT,Option.bind_eq_some_iff]at hk;obtain⟨y0,nY,hk⟩:=hk;cases fW:Nat.ble (off+n) (sz t'')
   case false=>simp[fW]at hk
   simp only[fW,VC,Option.bind_eq_some_iff]at hk;have fW:=Nat.le_of_ble_eq_true fW;obtain⟨z,hz,hk⟩:=hk;obtain⟨e1,e2,UV⟩:=zkR hρ JV nY hx;obtain⟨L1,P9⟩:=List.getElem?_eq_some_iff.1 nY;obtain⟨W2,W1⟩:=hr.heap.mark ids
   have X2:sC st.h ids r=some ⟨.arr t'' l, .own⟩:=by
    rw[DF,if_neg,AV];intro hm;have:ids.any (Nat.beq r)=true:=List.any_eq_true.2 ⟨r,hm,Nat.beq_refl r⟩;rw[this]at OY;cases OY
   obtain⟨_,hρ1,b6,_⟩:=W2.rows r _ X2;rw[hρ]at hρ1;cases hρ1;obtain⟨hfl,hfv⟩:=zbH hr.heap (vs:=λj=>(a.eval y).cells.getD j undef) rX dZ
   rcases b6.2 with X1|⟨_,ce,c1,c2,c3,c4⟩
   ·rw[UV]at X1;cases X1.1
   have JY:=b6.1;have hkn:(k+1) *sz t''≤ri.cap *sz t'':=Nat.mul_le_mul_right _ (by omega);rw[Nat.add_mul,Nat.one_mul]at hkn;have PV:∀j,j<n→(w.cell? (at_ ri.b (k *sz t''+off+j))).isSome=true:=λj hj=>(c3 (k *sz t''+off+j) (by omega)).2;have wW:∀j,j<n→w.frozen? (at_ ri.b (k *sz t''+off+j))=false:=λj hj=>(c3 (k *sz t''+off+j) (by omega)).1;have zV:=zkc (P:=C.P) h2 (hs.trans hn.symm) YZ PV wW;generalize hW:w.setCells ri.b (k *sz t''+off) (a.eval y).cells.toList=W at zV
   have oW:∀j,j<n→W.cell? (at_ ri.b (k *sz t''+off+j))=some ((a.eval y).cells.getD j undef):=λj hj=>by
    have:=World.cell?_setCells_in ri.b (a.eval y).cells.toList (k *sz t''+off) w (λj hj=>PV j (by simpa[hs,hn]using hj)) j (by simp[hs];omega);rw[hW]at this;refine this.trans ?_;rw[Array.getD_eq_getD_getElem?,Array.getElem?_eq_getElem (by omega)];simp
   have SW:∀j,(j<k *sz t''+off∨k *sz t''+off+n≤j)→W.cell? (at_ ri.b j)=w.cell? (at_ ri.b j):=λj hj=>by
    rw[←hW,World.cell?_setCells_out];intro _ _;simp only[at_,Array.length_toList,hs];omega
   have JW:=W2.write X2 hρ UV W (by rw[←hW];exact zbj _ _ _ _) (by rw[←hW];exact zaV _ _ _ _)
    (fun b hb=>by rw [← hW];exact zaS _ _ _ _ _ hb) (.arr t'' (l.set k z)) (fun vW=>by
     refine⟨by simpa using JY, .inr ⟨UV,by rw[←hW];exact zeI _ _ ce,c1,c2,λj hj=>⟨by rw[←hW,World.frozen?_setCells];exact(c3 j hj).1,?_⟩,λi' ZV j hj=>?_⟩⟩
     ·by_cases hjj:k *sz t''+off≤j∧j<k *sz t''+off+n
      ·have:=oW (j - (k *sz t''+off)) (by omega);rw[show k *sz t''+off+(j - (k *sz t''+off))=j by omega]at this;rw[this];rfl
      ·rw[SW j (by omega)];exact(c3 j hj).2
     ·have hi2:i'<l.length:=by simpa using ZV
      by_cases Q9:i'=k
      ·subst Q9;have dW:=IF t'' hz;obtain⟨V2,ZZ⟩:=zft (enc t'' y0) off vs' (by rw[cD];omega);have LZ:j<(sJ (enc t'' y0) off vs').length:=by rw[V2,cD];exact hj
       have Y3:(l.set i' z)[i']=z:=by simp
       rw[Y3,cT _ _ _ (by rw[cD];exact hj)];have Q8:=(dW.get j LZ (by rw[cD];exact hj));rw[ZZ j (by rw[cD];exact hj) LZ]at Q8;split at Q8
       ·rename_i hjin;refine⟨_,by have:=oW (j - off) (by omega);rw[show i' *sz t''+off+(j - off)=i' *sz t''+j by omega]at this;exact this,?_⟩;exact vW _ _ (VR.sub Q8 (hfv (j - off) (by omega)).1)
       ·obtain⟨u,h5,h6⟩:=c4 i' hi2 j hj;rw[P9,cT _ _ _ (by rw[cD];exact hj)]at h6;exact⟨u,by rw[SW _ (by omega)];exact h5,vW _ _ (VR.sub Q8 h6)⟩
      ·obtain⟨u,h5,h6⟩:=c4 i' hi2 j hj;have Y3:(l.set k z)[i']=l[i']:=by rw[List.getElem_set_ne (Ne.symm Q9)]
       rw[Y3];refine⟨u,?_,vW _ _ h6⟩;rw[SW]
       ·exact h5
       ·rcases Nat.lt_or_gt_of_ne Q9 with FV | hgt
        ·left;have:(i'+1) *sz t''≤k *sz t'':=Nat.mul_le_mul_right _ FV;rw[Nat.add_mul,Nat.one_mul]at this;omega
        ·right;have:(k+1) *sz t''≤i' *sz t'':=Nat.mul_le_mul_right _ hgt;rw[Nat.add_mul,Nat.one_mul]at this;omega)
   have d6:bB C w0 outer own ρ {st with h:=zA (sC st.h ids) r (some ⟨.arr t'' (l.set k z), .own⟩)} a W:=
    hr.turn JW.1 λu d hu=>JW.2 u d (W1 u d hu)
   refine zjX (w':=W) ?_ ⟨ρ,(d6.put (.undef _) hk).1,λ_ _=>rfl,λ_ _ h=>h⟩;simp[execOp,ho,e1,Instr.storeAt,Instr.sureAddr,zV]
  ·cases hk
 ·cases hk
end
end Go.D
namespace Go.D
variable [iA]
section
variable {C:Cx} {w0:World} {outer own:Nat→Prop} {ρ:Nat→Option RI} {st st':St} {a:Act} {w:World} {h:Nat→Option rA}
omit [iA]in
def mS(k:IntKind)(n:Int):uE k (k.wrap n):=by
 cases k<;>simp only[uE,IntKind.wrap,IntKind.min,IntKind.max,IntKind.signed,IntKind.bits]<;>simp<;>(try split)<;>omega
variable {o:Oper} {i:Nat} (hr:bB C w0 outer own ρ st a w)
include hr
def zrm(x:Operand)(ho:o.op= .nilCheck x)(hk:oB C i o st some=some st'):EC C.P o a w (yC C w0 outer own i ρ st'):=by
 simp only[oB,ho]at hk;have hx:=hr.opd x
 have zV:∀v,a.eval x=v→(match v with| .pointer (some _)=>True| .func (.func _) _ _=>True|_=>False)→(execOp a.eval o).run C.P w= .ok (.value v) w:=λv e1 e2=>by
  unfold execOp;simp only[ho,e1];split at e2<;>first|rfl|cases e2
 split at hk
 ·rename_i r off OV;rw[OV]at hx;cases aW:a.eval x<;>rw[aW]at hx<;>cases hx
  exact kC (zV _ aW trivial) (hr.after (.bp _ _ _ (by assumption) (by assumption)) hk)
 ·rename_i r t k off OV;rw[OV]at hx;cases aW:a.eval x<;>rw[aW]at hx<;>cases hx
  exact kC (zV _ aW trivial) (hr.after (.ep _ _ _ _ _ (by assumption) (by assumption)) hk)
 ·rename_i cs off OV;rw[OV]at hx;cases aW:a.eval x<;>rw[aW]at hx<;>cases hx
  exact kC (zV _ aW trivial) (hr.after (.fp _ _ _ _ _ (by assumption) (by assumption) (by assumption) (by assumption)) hk)
 ·rename_i f cs OV;rw[OV]at hx;cases aW:a.eval x<;>rw[aW]at hx<;>cases hx
  exact kC (zV _ aW trivial) (hr.after (.fn _ _ _ (by assumption) (by assumption)) hk)
 ·cases hk
def zqI(t:TypeId)(x:Operand)(f:Nat)(ho:o.op= .fieldAddr t x f)(hk:oB C i o st some=some st'):EC C.P o a w (yC C w0 outer own i ρ st'):=by
 simp only[oB,ho]at hk;split at hk
 ·cases hk
 rename_i off ft hf;unfold zdf at hf;split at hf
 case h_2=>cases hf
 rename_i fs hu;split at hf
 case h_2=>cases hf
 rename_i fld Z3;cases hf;split at hk
 case h_2=>cases hk
 rename_i n KV;have hx:=hr.opd x
 have zV:∀b p,a.eval x= .pointer (some (at_ b p))→(execOp a.eval o).run C.P w= .ok (.value (.pointer (some (at_ b (p+fld.offset))))) w:=λb p e1=>by
  simp[execOp,ho,e1,Instr.fieldAt,yF hu,Z3,Instr.sureAddr,fieldPlace,CL KV,BG]
 split at hk
 ·rename_i r o1 OV;rw[OV]at hx;cases aW:a.eval x<;>rw[aW]at hx<;>cases hx
  rename_i ri h1 h2;exact kC (zV _ _ aW) (hr.after (.bp _ _ _ (by assumption) (by assumption)) hk)
 ·rename_i r t' k o1 OV;rw[OV]at hx;cases aW:a.eval x<;>rw[aW]at hx<;>cases hx
  rename_i ri h1 h2;refine kC (zV _ _ aW) (hr.after ?_ hk);rw[Nat.add_assoc];exact .ep _ _ _ _ _ (by assumption) (by assumption)
 ·rename_i cs o1 OV;rw[OV]at hx;cases aW:a.eval x<;>rw[aW]at hx<;>cases hx
  rename_i b p u h0 hb hu' M1;refine kC (zV _ _ aW) (hr.after ?_ hk);rw[Nat.add_assoc];exact .fp _ _ _ _ _ (by assumption) (by assumption) (by assumption) (by assumption)
 ·cases hk
omit hr in
theorem zv3{ag:Bool}{n off:Nat}{t:TypeId}{cs:List V}{vs:Array Value}{bad:Nat→Prop}{R:Type}{K:V→Option R}{r:R}(h1:bF C.P t=some ag)(h2:sF C.P t=some n)
  (hs:vs.size=cs.length) (hv:∀j (hj:j<cs.length),VR w ρ bad (vs.getD j undef) cs[j]) (hk:vG ag n cs off K=some r):
  ∃d v,K d=some r∧VR w ρ bad v d∧(part t vs off).run C.P w= .ok v w:=by
 unfold vG at hk;cases ag with
 | true=>
  simp only[VC]at hk;cases hb:Nat.ble (off+n) cs.length
  case false=>simp[hb]at hk
  simp only[hb,VC]at hk;have fW:=Nat.le_of_ble_eq_true hb;refine⟨_, .agg (vs.extract off (off+n)),hk,?_,?_⟩
  ·refine .agg _ _ (by simp;omega) λj hj=>?_;have O9:j<n:=by simp at hj;omega
   simp_all
  ·simp[part,dS h1,CL h2]
 | false=>
  simp only[ZS]at hk;split at hk
  ·rename_i c r' hd
   have FV:off<cs.length:=by
    rcases Nat.lt_or_ge off cs.length with h|h
    ·exact h
    ·rw[List.drop_eq_nil_of_le h]at hd;cases hd
   have X3:cs[off]=c:=by
    rw[List.drop_eq_getElem_cons FV]at hd;exact(List.cons.inj hd).1
   have h3:=hv off FV;refine⟨c,vs.getD off undef,hk,by rw[←X3];exact h3,?_⟩;rw[Array.getD_eq_getD_getElem?,Array.getElem?_eq_getElem (by omega)];simp[part,dS h1,Array.getElem?_eq_getElem (show off<vs.size by omega)]
  ·cases hk
def zt7(t:TypeId)(x:Operand)(f:Nat)(ho:o.op= .field t x f)(hk:oB C i o st some=some st'):EC C.P o a w (yC C w0 outer own i ρ st'):=by
 simp only[oB,ho]at hk;have hx:=hr.opd x;split at hk
 case h_2=>cases hk
 rename_i off ft cs hf OV;rw[OV]at hx;unfold zdf at hf;split at hf
 case h_2=>cases hf
 rename_i fs hu;split at hf
 case h_2=>cases hf
 rename_i fld Z3;cases hf;split at hk
 case h_2=>cases hk
 rename_i ag n h1 h2;cases aW:a.eval x<;>rw[aW]at hx<;>cases hx
 rename_i vs hs hv;obtain⟨d,v,h3,h4,h5⟩:=zv3 (C:=C) (w:=w) h1 h2 hs hv hk;refine kC (v:=v) (w':=w) ?_ (hr.after h4 h3);simp[execOp,ho,aW,Instr.field,yF hu,Z3,asAgg,h5]
def zrZ(x:Operand)(ix:Nat)(ho:o.op= .extract x ix)(hk:oB C i o st some=some st'):EC C.P o a w (yC C w0 outer own i ρ st'):=by
 simp only[oB,ho]at hk;have hx:=hr.opd x;split at hk
 case h_2=>cases hk
 rename_i cs OV;rw[OV]at hx;split at hk
 case h_2=>cases hk
 rename_i c r' hd
 have FV:ix<cs.length:=by
  rcases Nat.lt_or_ge ix cs.length with h|h
  ·exact h
  ·rw[List.drop_eq_nil_of_le h]at hd;cases hd
 have X3:cs[ix]=c:=by
  rw[List.drop_eq_getElem_cons FV]at hd;exact(List.cons.inj hd).1
 cases aW:a.eval x<;>rw[aW]at hx<;>cases hx
 rename_i vs hs hv;have h3:=hv ix FV;rw[X3]at h3;refine kC (v:=vs.getD ix undef) (w':=w) ?_ (hr.after h3 hk);rw[Array.getD_eq_getD_getElem?,Array.getElem?_eq_getElem (by omega)];simp[execOp,ho,aW,Instr.extract,Array.getElem?_eq_getElem (show ix<vs.size by omega)]
def zwf(op:UnOp)(t:TypeId)(x:Operand)(ho:o.op= .unOp op t x)(hk:oB C i o st some=some st'):EC C.P o a w (yC C w0 outer own i ρ st'):=by
 simp only[oB,ho]at hk;have hx:=hr.opd x;split at hk
 case h_2=>cases hk
 rename_i d hd;unfold unV at hd;split at hd
 ·rename_i k n OV;rw[OV]at hx;cases op<;>cases hd
  cases aW:a.eval x<;>rw[aW]at hx<;>cases hx
  refine kC (v:= .int k (k.wrap (0 - n))) (w':=w) ?_ (hr.after (.int _ _ (mS _ _)) hk);simp[execOp,ho,aW,Op.unary,Op.intArith]
 ·rename_i b OV;rw[OV]at hx;cases op<;>cases hd
  cases aW:a.eval x<;>rw[aW]at hx<;>cases hx
  refine kC (v:= .bool (!b)) (w':=w) ?_ (hr.after (.bool _) hk);simp[execOp,ho,aW,Op.unary]
 ·cases hd
end
end Go.D

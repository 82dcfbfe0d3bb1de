/-
 The plain semantics of whole bodies: regions, branches that meet again, loops. What meets again meets by a tuple of plain data.
-/
import Derived.Test.YtkpkommmdacjlaaGreatL4
set_option linter.all false
namespace Go.D
open Option renaming bind→ob
noncomputable section
variable [aA]
inductive Ty where
 | v (t:TN)
 | sl (t:TN)
 | raw
 | cells (t:TN)
  | pt (t:TN)
  | c1 (g:Nat) (t:TN)
 | p1 (g:Nat) (t:TN)
 | c2 (g h:Nat) (t:TN)
@[reducible] def Ty.T:Ty→Type
 | .v t=>El t
 | .sl t=>List (El t)
 | .raw=>V
 | .cells t=>El t
 | .pt t=>El t
 | .c1 _ t=>El t
 | .p1 _ t=>El t
 | .c2 _ _ t=>El t×El t
def GF(t:TN)(a:El t):V:=bif t.isAgg then .agg (enc t a)else match enc t a with
 | c :: _=>c
 | []=> .undef
def uB:(t:Ty)→t.T→V
 | .v t,a=>GF t a
 | .sl t,l=> .sl t l
 | .raw,v=>v
 | .cells t,a=> .agg (enc t a)
 | .pt t,a=> .fp (enc t a) 0
 | .c1 g t,a=> .fn g [.fp (enc t a) 0]
 | .p1 g t,a=> .fp [.fn g [.fp (enc t a) 0]] 0
 | .c2 g h t,a=> .fn g [.fp [.fn h [.fp (enc t a.1) 0]] 0, .fp (enc t a.2) 0]
def CC:(t:Ty)→V→Option t.T
 | .v t,v=>match v with
  | .agg cs=>bif t.isAgg then zB t cs else none
  | v=>bif t.isAgg then none else zB t [v]
 | .sl t,v=>BA t v
 | .raw,v=>some v
 | .cells t,v=>match v with
  | .agg cs=>zB t cs
  | _=>none
 | .pt t,v=>match v with
  | .fp cs 0=>zB t cs
  | _=>none
 | .c1 g t,v=>match v with
  | .fn g' [.fp cs 0]=>bif Nat.beq g' g then zB t cs else none
  | _=>none
 | .p1 g t,v=>match v with
  | .fp [.fn g' [.fp cs 0]] 0=>bif Nat.beq g' g then zB t cs else none
  | _=>none
 | .c2 g h t,v=>match v with
  | .fn g' [.fp [.fn h' [.fp cs 0]] 0, .fp ds 0]=>bif Nat.beq g' g&&Nat.beq h' h then ob (zB t cs) λx=>ob (zB t ds) λy=>some (x,y)else none
  | _=>none
inductive rB where
 | slot (s:Nat) (ty:Ty)
 | own (s:Nat) (t:TN) (tr:Bool:=false)
 | box (s:Nat) (t:TN) (own:List Nat)
  | drop (s:Nat)
@[reducible] def rB.T:rB→Type
 | .slot _ ty=>ty.T
 | .own _ t _=>List (El t)
 | .box _ t _=>El t
 | .drop _=>Unit
@[reducible] def iC:List rB→Type
 | []=>Unit
 | [c]=>c.T
 | c :: d :: r=>c.T×iC (d :: r)
@[reducible] def MA:List Ty→Type
 | []=>Unit
 | [c]=>c.T
 | c :: d :: r=>c.T×MA (d :: r)
def DB:(ts:List Ty)→List V→Option (MA ts)
 | [],[]=>some ()
 | [t],[v]=>CC t v
 | t :: d :: r,v :: vs=>ob (CC t v) λx=>ob (DB (d :: r) vs) λy=>some (x,y)
 | _,_=>none
def CA:(ts:List Ty)→MA ts→List V
 | [],_=>[]
 | [t],x=>[uB t x]
 | t :: d :: r,x=>uB t x.1 :: CA (d :: r) x.2
def NQ:(t:Ty)→t.T→List V
 | .v t,a=>enc t a
 | .sl t,l=>[.sl t l]
 | .raw,v=>[v]
 | .cells t,a=>enc t a
 | .pt t,a=>[.fp (enc t a) 0]
 | .c1 g t,a=>[.fn g [.fp (enc t a) 0]]
 | .p1 g t,a=>[.fp [.fn g [.fp (enc t a) 0]] 0]
 | .c2 g h t,a=>[.fn g [.fp [.fn h [.fp (enc t a.1) 0]] 0, .fp (enc t a.2) 0]]
def tC:(ts:List Ty)→MA ts→List V
 | [],_=>[]
 | [t],x=>NQ t x
 | t :: d :: r,x=>NQ t x.1++tC (d :: r) x.2
def XE:(t:Ty)→List V→Option (t.T×List V)
 | .v t,vs=>(zB t (vs.take (sz t))).bind λa=>some (a,vs.drop (sz t))
 | .sl t,v :: vs=>(BA t v).bind λl=>some (l,vs)
 | .sl _,[]=>none
 | .raw,v :: vs=>some (v,vs)
 | .raw,[]=>none
 | .cells t,vs=>(zB t (vs.take (sz t))).bind λa=>some (a,vs.drop (sz t))
 | .pt _,_=>none
 | .c1 _ _,_=>none
 | .p1 _ _,_=>none
 | .c2 _ _ _,_=>none
def fI:(ts:List Ty)→List V→Option (MA ts)
 | [],[]=>some ()
 | [t],vs=>(XE t vs).bind λx=>match x.2 with
  | []=>some x.1
  | _=>none
 | t :: d :: r,vs=>(XE t vs).bind λx=>(fI (d :: r) x.2).bind λy=>some (x.1,y)
 | [],_ :: _=>none
structure JI where
 cs:List rB
 kill:List (Nat×Nat)
 pre:List Nat
structure An where
 c:List (Nat×JI)
 b:List (Nat×JI)
 l:List (Nat×JI)
 r:List (Nat×JI)
 d:List (Nat×List Nat)
inductive Ex where
 | normal
 | exit (id:Nat)
 | ret
def FU:Nat:=Classical.choose (⟨2^64,rfl⟩:∃n:Nat,n=2^64)
omit [aA]in
def zcB:FU=2^64:=Classical.choose_spec (⟨2^64,rfl⟩:∃n:Nat,n=2^64)
section
variable {R:Type}
def yA{σ:Type}:Nat→(σ→(σ→Option R)→Option R)→σ→Option R
 | 0,_,_=>none
 | n+1,f,x=>f x (yA n f)
def fA{σ:Type}(k:σ→Option R)(b:(σ→Option R)→Option R):Option R:=b k
def KA{α:Type}(k:Nat):List (Nat×α)→Option α
 | []=>none
 | (j,x) :: r=>bif Nat.beq j k then some x else KA k r
def nR(tr:Bool)(h:Nat→Option gA)(t:TN):Option Nat→Bool
 | none=>true
 | some r=>match h r with
  | some ⟨_,m⟩=>AB tr t m
  | none=>false
def WL:(c:rB)→St→(c.T→St→Option R)→Option R
 | .slot s ty,st,k=>match cE st.h (st.s s)with
  | some (v,ids)=>ob (CC ty v) λx=>k x {st with h:=eB st.h ids}
  | none=>none
 | .own s t tr,st,k=>match kH st.h t (st.s s)with
  | some (l,r)=>bif nR tr st.h t r then k l {st with h:=VD st.h r}else none
  | none=>none
 | .box s t own,st,k=>match st.s s with
  | .bp r 0=>match st.h r with
   | some ⟨.box cs, .own⟩=>match qC own 0 cs (cA st.h r none)with
    | some (cs',h')=>ob (zB t cs') λx=>k x {st with h:=h'}
    | none=>none
   | _=>none
  | _=>none
 | .drop _,st,k=>k () st
def HE:(cs:List rB)→St→(iC cs→Option R)→Option R
 | [],_,k=>k ()
 | [c],st,k=>WL c st λx _=>k x
 | c :: d :: r,st,k=>WL c st λx st'=>HE (d :: r) st' λy=>k (x,y)
def jF:V→Option Nat
 | .ow r=>some r
 | .ov r _ _ _=>some r
 | _=>none
def zF:(c:rB)→Nat→c.T→(Nat→V)→Nat→V
 | .slot s ty,_,x,f=>cA f s (uB ty x)
 | .own s _ _,id,_,f=>cA f s (.ow id)
 | .box ..,_,_,f=>f
 | .drop _,_,_,f=>f
def GE:(cs:List rB)→Nat→iC cs→(Nat→V)→Nat→V
 | [],_,_,f=>f
 | [c],id,x,f=>zF c id x f
 | c :: d :: r,id,x,f=>zF c id x.1 (GE (d :: r) (id+128) x.2 f)
def NG(sl:Nat→V):(c:rB)→Nat→c.T→(Nat→Option gA)→Nat→Option gA
 | .slot ..,_,_,h=>h
 | .own _ t tr,id,x,h=>cA h id (some ⟨.arr t x,zD tr⟩)
 | .box s t own,id,x,h=>match sl s with
  | .bp r 0=>cA (HA own id h 0 (enc t x)) r (some ⟨.box (zA own id 0 (enc t x)), .own⟩)
  | _=>h
 | .drop _,_,_,h=>h
def oJ(sl:Nat→V):(cs:List rB)→Nat→iC cs→(Nat→Option gA)→Nat→Option gA
 | [],_,_,h=>h
 | [c],id,x,h=>NG sl c id x h
 | c :: d :: r,id,x,h=>NG sl c id x.1 (oJ sl (d :: r) (id+128) x.2 h)
def dJ(kill:List (Nat×Nat))(i:Nat):Bool:=kill.any λp=>Nat.ble p.1 i&&Nat.ble i p.2
def zC:List rB→Nat→Bool
 | [],_=>false
 | .slot s _ :: r,i=>Nat.beq s i||zC r i
 | .own s _ _ :: r,i=>Nat.beq s i||zC r i
 | .box .. :: r,i=>zC r i
 | .drop _ :: r,i=>zC r i
def cG(st:St)(r:Nat):rB→Bool
 | .slot .. =>false
 | .own s _ _=>match jF (st.s s)with | some r'=>Nat.beq r r' | none=>false
 | .box s _ _ | .drop s=>match st.s s with
  | .bp b 0=>Nat.beq r b||match st.h b with
   | some ⟨.box cs,_⟩=>cs.any λc=>match jF c with | some r'=>Nat.beq r r' | none=>false
   | _=>false
  | _=>false
def tH(cs:List rB)(st:St)(r:Nat):Bool:=cs.any (cG st r)
def kF(j:JI)(base:St):Nat→Option gA:=λr=>match base.h r with
 | some ⟨c,m⟩=>bif m.isOwn then bif tH j.cs base r then none else some ⟨c,m⟩else some ⟨c,m⟩
 | none=>none
def install(j:JI)(base:St)(x:iC j.cs):St:=
 { s:=GE j.cs base.nx x fun i=>bif dJ j.kill i then .undef else base.s i
   h:=oJ base.s j.cs base.nx x (kF j base)
   nx:=base.nx+128 *j.cs.length}
def LB(j:JI)(st:St):St:=
 { st with h:=fun r=>match st.h r with
   | some ⟨c,m⟩=>bif m.isOwn then bif tH j.cs st r then some ⟨c,m⟩else some ⟨c,m.locked⟩else some ⟨c,m⟩
   | none=>none}
def unlock(base st:St):St:=
 { st with h:=fun r=>match st.h r with
   | some ⟨c, .lock⟩=>match base.h r with
    | some ⟨_,m⟩=>bif m.isOwn then some ⟨c, .own⟩else some ⟨c, .lock⟩
    | _=>some ⟨c, .lock⟩
   | some ⟨c, .tlk⟩=>match base.h r with
    | some ⟨_,m⟩=>bif m.isOwn then some ⟨c, .tre⟩else some ⟨c, .tlk⟩
    | _=>some ⟨c, .tlk⟩
   | x=>x}
def yT(st:St)(s:Nat):Option (List Nat):=
 bif Nat.ble 1000000 s then
  match st.s (s - 1000000)with
  | .bp r _=>match st.h r with
   | some ⟨.box cs,_⟩=>match ZC st.h cs with
    | some (_,ids)=>some ids
    | none=>none
   | _=>none
  | _=>none
 else match cE st.h (st.s s)with
  | some (_,ids)=>some ids
  | none=>none
def PG(pre:List Nat)(st:St):Option St:=
 match pre with
 | []=>some st
 | s :: r=>match yT st s with
  | some ids=>PG r {st with h:=eB st.h ids}
  | none=>none
def wG:Code→Option Nat
 | .region id _ _=>some id
 | .seq a b=>match wG a with
  | some i=>some i
  | none=>wG b
 | .cond _ a _=>wG a
 | .block _ b | .loop b | .scope b=>wG b
 | _=>none
def eT(t:Nat)(a b:Code):Nat:=t *65536+match wG a with
 | some i=>i+1
 | none=>match wG b with
  | some i=>i+1
  | none=>0
def JI.has(j:JI)(i:Nat):Bool:=dJ j.kill i||zC j.cs i
def zbN(kill:List (Nat×Nat))(j:JI)(p:Nat×Nat):Bool:=kill.any (λq=>Nat.ble q.1 p.1&&Nat.ble p.2 q.2)||(Nat.beq p.1 p.2&&zC j.cs p.1)
def ziU(j:JI):rB→Bool
 | .slot s _=>j.has s
 | .own s _ _=>j.has s
 | .box .. | .drop _=>true
def fits(j:JI):Option JI→Bool
 | none=>true
 | some i=>i.kill.all (zbN j.kill j)&&i.cs.all (ziU j)
def Code.within(an:An)(j:JI):Code→Bool
 | .region id ops _=>ops.toList.all (λo=>match o.dst with | some d=>j.has d | none=>true)&&fits j (KA id an.r)
 | .seq a b=>Code.within an j a&&Code.within an j b
 | .cond (.tmp t) a b=>Code.within an j a&&Code.within an j b&&fits j (KA (eT t a b) an.c)
 | .cond _ a b=>Code.within an j a&&Code.within an j b
 | .block id b=>Code.within an j b&&fits j (KA id an.b)
 | .loop b=>Code.within an j b&&match wG b with
  | some rid=>fits j (KA rid an.l)
  | none=>true
 | .scope b=>Code.within an j b
 | _=>true
def cL(j:JI):Bool:=j.cs.all λc=>match c with
 | .box s _ _ | .drop s=>!(j.has s)
 | _=>true
def oF:List rB→Bool
 | []=>true
 | .slot s _ :: r=>!(zC r s)&&oF r
 | .own s _ _ :: r=>!(zC r s)&&oF r
 | .box .. :: r=>oF r
 | .drop _ :: r=>oF r
def LE(an:An)(j:JI)(c:Code):Bool:=Code.within an j c&&cL j&&oF j.cs
variable (C:Cx)
def sG(ops:Array Oper)(nx:Nat):List (Nat×Oper)→St→(St→Option R)→Option R
 | [],st,K=>K st
 | (i,o) :: rest,st,K=>
  match o.guard with
  | none=>OA C (nx+128 *i) o st λst'=>sG ops nx rest st' K
  | some (j,want)=>match(ops[j]?).bind (·.dst)with
   | none=>none
   | some dj=>match st.s dj with
    | .tup []=>DA C o.dst st (.tup []) λst'=>sG ops nx rest st' K
    | .bool t=>
     let G:Bool→Option R:=λb=>
      let st:={st with s:=cA st.s dj (.bool b)}
      gd (b==want) (OA C (nx+128 *i) o st λst'=>sG ops nx rest st' K) (DA C o.dst st (.tup []) λst'=>sG ops nx rest st' K)
     cond t (G true) (G false)
    | _=>none
def OD{α:Type}:Nat→List α→List (Nat×α)
 | _,[]=>[]
 | i,x :: r=>(i,x) :: OD (i+1) r
structure TB where
 i:Nat
 dst:Option Nat
 ls:List Nat
 rd:List Nat
 wr:List Nat
def cC(r:Nat)(l:List Nat):Bool:=l.any (Nat.beq r)
def yL:Option gA→Option gA
 | some ⟨c, .own⟩=>some ⟨c, .lock⟩
 | some ⟨_, .tre⟩=>none
 | some ⟨_, .tlk⟩=>none
 | x=>x
def pE(rd wr:List Nat)(h:Nat→Option gA):Nat→Option gA:=λr=>bif cC r wr then h r else bif cC r rd then yL (h r)else none
def wH(ls:List Nat)(s:Nat→V):Nat→V:=λt=>bif cC t ls then s t else .undef
def sF(b r:Nat):Bool:=Nat.ble b r&&Nat.blt r (b+128)
def yH(b:Nat)(wr:List Nat)(h h':Nat→Option gA):Nat→Option gA:=λr=>bif cC r wr||sF b r then h' r else h r
def yI(dst:Option Nat)(s s':Nat→V):Nat→V:=match dst with
 | none=>s
 | some d=>cA s d (s' d)
def XD(b:Nat)(o:Oper)(ls rd wr:List Nat)(st:St)(K:St→Option R):Option R:=
 OA C b o {s:=wH ls st.s,h:=pE rd wr st.h,nx:=st.nx} λst'=>K {s:=yI o.dst st.s st'.s,h:=yH b wr st.h st'.h,nx:=st.nx}
def ZF:V→List Nat
 | .ow r=>[r]
 | .ov r _ _ _=>[r]
 | .bp r _=>[r]
 | .ep r _ _ _=>[r]
 | _=>[]
def jT:V→List Nat
 | .agg cs=>cs.flatMap ZF
 | v=>ZF v
def zcs(h:Nat→Option gA):V→List Nat
 | .bp r _=>r :: match h r with
  | some ⟨.box cs,_⟩=>cs.flatMap ZF
  | _=>[]
 | v=>jT v
def zcl(h:Nat→Option gA)(r:Nat):Bool:=match h r with
 | some ⟨_, .ro⟩=>true
 | _=>false
def mQ(h:Nat→Option gA)(l:List Nat):List Nat×List Nat:=(l.filter (zcl h),l.filter λr=>!zcl h r)
def zbK(h:Nat→Option gA)(r:Nat):Bool:=match h r with
 | some ⟨_, .tre⟩=>true
 | some ⟨_, .tlk⟩=>true
 | _=>false
def ET(o:Oper)(st:St):List Nat×List Nat:=
 match o.op with
 | .load _ a=>(ZF (opd st.s a),[])
 | .store _ a x=>match opd st.s a with
  | .ep r _ _ _=>let p:=mQ st.h (jT (opd st.s x));(p.1,r :: p.2)
  | v=>([],ZF v)
 | .slice _ x _ _ _=>(ZF (opd st.s x),[])
 | .indexAddr _ x _=>(ZF (opd st.s x),[])
 | .convert _ _ x=>(ZF (opd st.s x),[])
 | .buildSlice _ _ ps=>mQ st.h (ps.toList.flatMap λp=>jT (opd st.s p.2))
 | .makeFunc _ _ cs=>mQ st.h (cs.toList.flatMap λx=>zcs st.h (opd st.s x))
 | .call {callee:= .builtin .append,args,argTypes:=_}=>match args.toList with
  | [x,y]=>(ZF (opd st.s y),ZF (opd st.s x))
  | _=>([],[])
 | .call {callee:= .builtin _,args,argTypes:=_}=>(args.toList.flatMap λx=>ZF (opd st.s x),[])
 | .call {callee:=_,args,argTypes:=_}=>mQ st.h (args.toList.flatMap λx=>zcs st.h (opd st.s x))
 | _=>([],[])
def NF(o:Oper)(st:St):List Nat×List Nat:=((ET o st).1.filter λr=>!(zbK st.h r),(ET o st).2++(ET o st).1.filter (zbK st.h))
def UI(o:Oper):List Nat:=o.op.operands.toList.filterMap λx=>match x with
 | .tmp t=>some t
 | _=>none
def QQ(d:Option Nat)(l:List Nat):Bool:=match d with
 | some d=>cC d l
 | none=>false
def kG(nx:Nat)(e1 e:TB):Bool:=
 !(QQ e1.dst e.ls)&&!(QQ e.dst e1.ls)&&!(QQ e1.dst e.dst.toList)&&
 e1.wr.all (λr=>!(cC r e.rd)&&!(cC r e.wr))&&e.wr.all (λr=>!(cC r e1.rd))&&
 e.rd.all (λr=>!(sF (nx+128 *e1.i) r))&&e.wr.all (λr=>!(sF (nx+128 *e1.i) r))&&
 e1.rd.all (λr=>!(sF (nx+128 *e.i) r))&&e1.wr.all (λr=>!(sF (nx+128 *e.i) r))
def dG(mask nx:Nat)(rs:List TB)(e:TB):Bool:=rs.all λe1=>Nat.testBit mask e1.i||kG nx e1 e
def BN(ms:List Nat)(es:List Edge):Nat:=es.foldl (λs e=>bif Region.binds .any e then s|||(2^e.on|||ms.getD e.on 0)else s) 0
def QB:List Nat→List Oper→List Nat
 | ms,[]=>ms
 | ms,o :: r=>QB (ms++[BN ms o.after.toList]) r
def zbB(i:Nat)(o:Oper):Bool:=o.after.toList.all λe=>!(Region.binds .any e)||Nat.blt e.on i
def lG(ops:Array Oper)(ms:List Nat)(nx:Nat):List (Nat×Oper)→List TB→St→(St→Option R)→Option R
 | [],_,st,K=>K st
 | (i,o) :: rest,rs,st,K=>
  gd (zbB i o) (
  match o.guard with
  | none=>
   let f:=NF o st;let e:TB:=⟨i,o.dst,UI o,f.1,f.2⟩
   gd (dG (ms.getD i 0) nx rs e) (XD C (nx+128 *i) o e.ls e.rd e.wr st λst'=>lG ops ms nx rest (e :: rs) st' K) none
  | some (j,want)=>match(ops[j]?).bind (·.dst)with
   | none=>none
   | some dj=>
    let skip:St→Option R:=λst=>
     let e:TB:=⟨i,o.dst,[dj],[],[]⟩
     gd (dG (ms.getD i 0) nx rs e) (DA C o.dst st (.tup []) λst'=>lG ops ms nx rest (e :: rs) st' K) none
    match st.s dj with
    | .tup []=>skip st
    | .bool t=>
     let G:Bool→Option R:=λb=>
      let st:={st with s:=cA st.s dj (.bool b)}
      gd (b==want) (
       let f:=NF o st;let e:TB:=⟨i,o.dst,dj :: UI o,f.1,f.2⟩
       gd (dG (ms.getD i 0) nx rs e) (XD C (nx+128 *i) o e.ls e.rd e.wr st λst'=>lG ops ms nx rest (e :: rs) st' K) none) (skip st)
     cond t (G true) (G false)
    | _=>none) none
def zcG(pre:List Nat)(ops:Array Oper)(st:St)(K:St→Option R):Option R:=
 match PG pre st with
 | none=>none
 | some st=>lG C ops (QB [] ops.toList) st.nx (OD 0 ops.toList) [] st λst'=>K {st' with nx:=st.nx+128 *ops.size}
def RN(pre:List Nat)(draw:Bool)(ops:Array Oper)(st:St)(K:St→Option R):Option R:=
 gd (draw) (zcG C pre ops st K) (
 sG C ops st.nx (OD 0 ops.toList) st λst'=>K {st' with nx:=st.nx+128 *ops.size})
def mD (an:An):Code→St→(Ex→St→Option R)→Option R
 | .skip,st,K=>K .normal st
 | .region id ops d,st,K=>match KA id an.r with
  | none=>RN C ((KA id an.d).getD []) d ops st (K .normal)
  | some j=>match PG j.pre st with
   | none=>none
   | some st=>gd (LE an j (.region id ops d)) (
     fA (λy:iC j.cs=>K .normal (install j st y)) λk=>RN C ((KA id an.d).getD []) d ops (LB j st) λst'=>HE j.cs st' k) none
 | .seq a b,st,K=>mD an a st λe st'=>match e with
  | .normal=>mD an b st' K
  | e=>K e st'
 | .cond (.tmp t) a b,st,K=>match st.s t with
  | .bool x=>match KA (eT t a b) an.c with
   | none=>cond x (mD an a st K) (mD an b st K)
   | some j=>match PG j.pre st with
    | none=>none
    | some st=>gd (LE an j a&&LE an j b) (
      fA (λy:iC j.cs=>K .normal (install j st y)) λk=>
       let K':Ex→St→Option R:=λe st'=>match e with
        | .normal=>HE j.cs st' k
        | e=>K e (unlock st st')
       cond x (mD an a (LB j st) K') (mD an b (LB j st) K')) none
  | _=>none
 | .block id b,st,K=>match KA id an.b with
  | none=>mD an b st λe st'=>match e with
   | .exit id'=>gd (Nat.beq id' id) (K .normal st') (K e st')
   | e=>K e st'
  | some j=>match PG j.pre st with
   | none=>none
   | some st=>gd (LE an j b) (
     fA (λy:iC j.cs=>K .normal (install j st y)) λk=>
      mD an b (LB j st) λe st'=>match e with
       | .normal=>HE j.cs st' k
       | .exit id'=>gd (Nat.beq id' id) (HE j.cs st' k) (K e (unlock st st'))
       | e=>K e (unlock st st')) none
 | .loop b,st,K=>match wG b with
  | none=>none
  | some rid=>match KA rid an.l with
   | none=>none
   | some j=>match PG j.pre st with
    | none=>none
    | some st=>gd (LE an j b) (
      HE j.cs (LB j st) λx0=>yA FU (λ(x:iC j.cs) (k:iC j.cs→Option R)=>
       mD an b (LB j (install j st x)) λe st'=>match e with
        | .normal=>HE j.cs st' k
        | e=>K e (unlock (install j st x) st')) x0) none
 | .exit id,st,K=>K (.exit id) st
 | .ret,st,K=>K .ret st
 | _,_,_=>none
def yE(P:Program)(st:St):List ResultVar→List (Bool×Nat)→Option (List V)
 | [],[]=>some []
 | .tmp t :: r,(ag,n) :: sh=>match st.s t,yE P st r sh with
  | .agg cs,some vs=>bif ag&&Nat.beq n cs.length then some (cs++vs)else none
  | v,some vs=>bif !ag&&Nat.beq n 1&&v.leaf then some (v :: vs)else none
  | _,none=>none
 | .cell a t :: r,(ag,n) :: sh=>match st.s a,yE P st r sh,MC P t,BC P t with
  | .bp b 0,some vs,some ag',some n'=>match st.h b with
   | some ⟨.box cs,_⟩=>bif (ag==ag')&&Nat.beq n n'&&Nat.beq n cs.length&&(ag||Nat.beq n 1)then some (cs++vs)else none
   | _=>none
  | _,_,_,_=>none
 | _,_=>none
def CD(st:St):List IA→List V→Nat→Option (List V)
 | .plain :: ks,_ :: as,k=>CD st ks as (k+1)
 | .mv _ :: ks,_ :: as,k=>CD st ks as (k+1)
 | .ms :: ks,_ :: as,k=>CD st ks as (k+1)
 | .ptr _ :: ks, .agg cs0 :: as,k=>match st.h (128 *k+127),CD st ks as (k+1)with
  | some ⟨.box cs, .own⟩,some vs=>bif Nat.beq cs.length cs0.length then some (cs++vs)else none
  | _,_=>none
 | [],[],_=>some []
 | _,_,_=>none
def QA:List IA→List Ty→Bool
 | [],[]=>true
 | .plain :: ks,_ :: ts=>QA ks ts
 | .ptr ow :: ks, .cells t :: ts=>Nat.ble (sz t) 127&&noTre ow&&QA ks ts
 | .mv ow :: ks, .v t :: ts=>t.isAgg&&Nat.ble (sz t) 127&&noTre ow&&QA ks ts
 | .ms :: ks, .sl _ :: ts=>QA ks ts
 | _,_=>false
def GN(fn:Func)(body:Code)(an:An)(ks:List IA)(own:List Nat)(shape:List (Bool×Nat))(ts:List Ty)(as:List V):Option (MA ts):=
 mD C an body {s:=λi=>match(UA ks 0 as).drop i with | v :: _=>v | []=> .undef,h:=pA ks 0 as,nx:=128 *ks.length} λe st=>
  match e with
  | .exit _=>none
  | _=>match yE C.P st fn.results.toList shape,CD st ks as 0 with
   | some vs,some us=>match qC own 0 (vs++us) st.h with
    | some (rs,_)=>fI ts rs
    | none=>none
   | _,_=>none
end
end
end Go.D
namespace Go.D
variable [aA]
section
variable {C:Cx} {w0:World} {outer:Nat→Prop} {own:Ow} {ρ:Nat→Option RI} {st st':St} {a:Act} {w:World} {R:Type}
omit [aA]in
def zJ(ow:List Nat):∀(cs:List V) (p:Nat) (h:Nat→Option gA) (x:List V×(Nat→Option gA)),qC ow p cs h=some x→x.1.length=cs.length
 | [],p,h,x,ht=>by simp[qC]at ht;subst ht;rfl
 | c :: cs,p,h,x,ht=>by
  simp only[qC]at ht;cases hb:ow.any (Nat.beq p)
  ·simp only[hb,cond_false]at ht;split at ht
   case h_2=>cases ht
   split at ht
   case h_2=>cases ht
   rename_i hr;have k:=zJ ow cs (p+1) _ _ hr;cases ht;simpa using k
  ·simp only[hb,cond_true]at ht;split at ht
   ·split at ht
    case h_2=>cases ht
    rename_i t0 l0 m0 _;cases EV:AB (ZD ow p) t0 m0
    case false=>simp[EV]at ht
    simp only[EV,cond_true]at ht;split at ht
    case h_2=>cases ht
    rename_i hr;have k:=zJ ow cs (p+1) _ _ hr;cases ht;simpa using k
   ·split at ht
    case h_2=>cases ht
    rename_i hr;have k:=zJ ow cs (p+1) _ _ hr;cases ht;simpa using k
   ·split at ht
    case h_2=>cases ht
    rename_i t0 l0 m0 _;cases EV:AB (ZD ow p) t0 m0
    case false=>simp[EV]at ht
    simp only[EV,cond_true]at ht;split at ht
    case h_2=>cases ht
    rename_i hr;have k:=zJ ow cs (p+1) _ _ hr;cases ht;simpa using k
   ·cases ht
def KG(w:World)(ρ:Nat→Option RI)(bad:Nat→Prop)(g:Nat→Option gA)(tv:Nat→Value)(sl:Nat→V):(c:rB)→Nat→c.T→Prop
 | .slot s ty,_,x=>VR w ρ bad (tv s) (uB ty x)∧vB (uB ty x)
 | .own s t tr,id,x=>VR w ρ bad (tv s) (.ow id)∧g id=some ⟨.arr t x,zD tr⟩
 | .drop _,_,_=>True
 | .box s t ow,id,x=>∃r,sl s= .bp r 0∧g r=some ⟨.box (zA ow id 0 (enc t x)), .own⟩∧∀q,q<128→g (id+q)=HA ow id (λ_=>none) 0 (enc t x) (id+q)
omit [aA]in
def zmK{v:V}{ds:List V}(h:ZA [v] ds):∃d,ds=[d]∧dE v d:=by
 cases h with
 | cons h1 h2=>cases h2;exact⟨_,rfl,h1⟩
omit [aA]in
def zhO(t:TN)(x:El t):0<(enc t x).length:=by rw[WA];exact xF t
def vN{t:TN}{cs:List V}{x:El t}{bad:Nat→Prop}{u:Value}(hd:zB t cs=some x)(hv:VR w ρ bad u (.fp cs 0)):VR w ρ bad u (.fp (enc t x) 0):=by
 have hs:=LC t hd;cases hv with
 | fp _ off b o u h0 hb hu hv=>
 exact .fp _ _ b o u (zhO t x) hb (λj hj=>hu j (by rw[hs.len];exact hj)) λj hj=>VR.sub (hs.get j (by rw[hs.len];exact hj) hj) (hv j (by rw[hs.len];exact hj))
def iU{bad:Nat→Prop}{u:Value}{g:Nat}{c d:V}(h:∀u',VR w ρ bad u' c→VR w ρ bad u' d)(hv:VR w ρ bad u (.fn g [c])):VR w ρ bad u (.fn g [d]):=by
 cases hv with
 | fn _ _ caps hs hv=>
 exact .fn _ _ caps hs λj hj=>by
  have:j=0:=by simp at hj;omega
  subst this;exact h _ (hv 0 (by simp))
def fn2{bad:Nat→Prop}{u:Value}{g:Nat}{c d c' d':V}(h:∀u',VR w ρ bad u' c→VR w ρ bad u' d)(h':∀u',VR w ρ bad u' c'→VR w ρ bad u' d')(hv:VR w ρ bad u (.fn g [c,c'])):VR w ρ bad u (.fn g [d,d']):=by
 cases hv with
 | fn _ _ caps hs hv=>
 exact .fn _ _ caps hs λj hj=>by
  match j,hj with
  | 0,_=>exact h _ (hv 0 (by simp))
  | 1,_=>exact h' _ (hv 1 (by simp))
def fp1{bad:Nat→Prop}{u:Value}{c d:V}(h:∀u',VR w ρ bad u' c→VR w ρ bad u' d)(hv:VR w ρ bad u (.fp [c] 0)):VR w ρ bad u (.fp [d] 0):=by
 cases hv with
 | fp _ off b o u h0 hb hu hv=>
 exact .fp _ _ b o u (by simp) hb (λj hj=>hu j hj) λj hj=>by
  have:j=0:=by simp at hj;omega
  subst this;exact h _ (hv 0 (by simp))
def zbb(ty:Ty)(v:V)(x:ty.T){bad:Nat→Prop}{u:Value}(hd:CC ty v=some x)(hv:VR w ρ bad u v):VR w ρ bad u (uB ty x):=by
 cases ty with
 | v t=>
  simp only[CC]at hd;split at hd
  ·rename_i cs;cases RV:t.isAgg
   case false=>simp[RV]at hd
   simp only[RV,cond_true]at hd;have hs:=LC t hd;simp only[uB,GF,RV,cond_true];cases hv with
   | agg _ vs h1 h2=>
   refine .agg _ _ (by rw[h1];exact hs.len) λj hj=>VR.sub (hs.get j (by rw[hs.len];exact hj) hj) (h2 j (by rw[hs.len];exact hj))
  ·cases RV:t.isAgg
   case true=>simp[RV]at hd
   simp only[RV,cond_false]at hd;obtain⟨d,h1,h2⟩:=zmK (LC t hd);simp only[uB,GF,RV,cond_false,h1];exact VR.sub h2 hv
 | sl t=>exact VR.sub (GA hd) hv
 | raw=>simp only[CC,Option.some.injEq]at hd;subst hd;exact hv
 | cells t=>
  simp only[CC]at hd;split at hd
  ·have hs:=LC t hd;simp only[uB];cases hv with
   | agg _ vs h1 h2=>
   exact .agg _ _ (by rw[h1];exact hs.len) λj hj=>VR.sub (hs.get j (by rw[hs.len];exact hj) hj) (h2 j (by rw[hs.len];exact hj))
  ·cases hd
 | pt t=>
  simp only[CC]at hd;split at hd
  ·exact vN hd hv
  ·cases hd
 | c1 g t=>
  simp only[CC]at hd;split at hd
  ·rename_i g' cs;cases hg:Nat.beq g' g
   case false=>rw[hg]at hd;cases hd
   rw[hg,cond_true]at hd;have:=Nat.eq_of_beq_eq_true hg;subst this;exact iU (λ_=>vN hd) hv
  ·cases hd
 | p1 g t=>
  simp only[CC]at hd;split at hd
  ·rename_i g' cs;cases hg:Nat.beq g' g
   case false=>rw[hg]at hd;cases hd
   rw[hg,cond_true]at hd;have:=Nat.eq_of_beq_eq_true hg;subst this;exact fp1 (λ_=>iU λ_=>vN hd) hv
  ·cases hd
 | c2 g h t=>
  simp only[CC]at hd;split at hd
  ·rename_i g' h' cs ds;cases W2:Nat.beq g' g&&Nat.beq h' h
   case false=>rw[W2]at hd;cases hd
   rw[W2,cond_true]at hd;rw[Bool.and_eq_true]at W2;have:=Nat.eq_of_beq_eq_true W2.1;have h2:=Nat.eq_of_beq_eq_true W2.2;subst this h2;obtain⟨a,ha,hd⟩:=Option.bind_eq_some_iff.1 hd;obtain⟨b,hb,hd⟩:=Option.bind_eq_some_iff.1 hd;cases hd;exact fn2 (λ_=>fp1 λ_=>iU λ_=>vN ha) (λ_=>vN hb) hv
  ·cases hd
omit [aA]in
def eN(t:TN)(x:El t):vB (.fp (enc t x) 0):=λS=> .fp _ _ λj hj=>by
 have:=oH S t x j;rw[List.getD_eq_getElem?_getD,List.getElem?_eq_getElem hj]at this;exact this
omit [aA]in
def XR{g:Nat}{c:V}(h:vB c):vB (.fn g [c]):=λS=> .fn _ _ λj hj=>by
 have:j=0:=by simp at hj;omega
 subst this;exact h S
omit [aA]in
def zfJ{g:Nat}{c d:V}(h:vB c)(h':vB d):vB (.fn g [c,d]):=λS=> .fn _ _ λj hj=>by
 match j,hj with
 | 0,_=>exact h S
 | 1,_=>exact h' S
omit [aA]in
def zam{c:V}(h:vB c):vB (.fp [c] 0):=λS=> .fp _ _ λj hj=>by
 have:j=0:=by simp at hj;omega
 subst this;exact h S
omit [aA]in
def zeJ(ty:Ty)(v:V)(x:ty.T)(hd:CC ty v=some x)(hv:vB v):vB (uB ty x):=by
 cases ty with
 | v t=>
  intro S;simp only[uB,GF];cases RV:t.isAgg
  ·simp only[cond_false];split
   ·rename_i c r he;have:=oH S t x 0;rw[he]at this;exact this
   ·exact .undef
  ·refine .agg _ λj hj=>?_;have:=oH S t x j;rw[List.getD_eq_getElem?_getD,List.getElem?_eq_getElem hj]at this;exact this
 | sl t=>exact eH _ _
 | raw=>simp only[CC,Option.some.injEq]at hd;subst hd;exact hv
 | cells t=>
  intro S;simp only[uB];refine .agg _ λj hj=>?_;have:=oH S t x j;rw[List.getD_eq_getElem?_getD,List.getElem?_eq_getElem hj]at this;exact this
 | pt t=>exact eN t x
 | c1 g t=>exact XR (eN t x)
 | p1 g t=>exact zam (XR (eN t x))
 | c2 g h t=>exact zfJ (zam (XR (eN t x.1))) (eN t x.2)
structure Ex1(w0:World)(outer:Nat→Prop)(own:Ow)(w:World)(tv:Nat→Value)(c:rB)(id:Nat)(ρ:Nat→Option RI)(g:Nat→Option gA)(st1:St)(x:c.T)(st2:St)(ρ':Nat→Option RI)(g':Nat→Option gA):Prop where
 slots:st2.s=st1.s
 heap:EA w0 outer own ρ' g' w
 lies:OE st2.h g'
 less:∀q,st1.h q=none→st2.h q=none
 left:∀n,OB n st1.h st2.h
 out:∀q,Out id 128 q→ρ' q=ρ q∧(st1.h q=none→g' q=g q)
 ext:∀q qi,ρ q=some qi→ρ' q=some qi
 keep:∀u d,VR w ρ (bA outer ρ g) u d→VR w ρ' (bA outer ρ' g') u d
 ok:KG w ρ' (bA outer ρ' g') g' tv st1.s c id x
 gone:∀s t ow r,c= .box s t ow→st1.s s= .bp r 0→st2.h r=none∧Out id 128 r
def zch{tv:Nat→Value}(c:rB)(id:Nat)(st1:St)(k:c.T→St→Option R){r:R}{g:Nat→Option gA}(he:WL c st1 k=some r)(hh:EA w0 outer own ρ g w)(hl:OE st1.h g)
  (hv:∀s,VR w ρ (bA outer ρ g) (tv s) (st1.s s)) (hρ:∀q,q<128→ρ (id+q)=none) (hn:∀q,q<128→st1.h (id+q)=none):
  ∃x st2 ρ' g',k x st2=some r∧Ex1 w0 outer own w tv c id ρ g st1 x st2 ρ' g':=by
 have UV:∀q row,st1.h q=some row→Out id 128 q:=λq row hq h3=>by
  have:=hn (q - id) (by omega);rw[show id+(q - id)=q by omega,hq]at this;cases this
 have h0:ρ id=none:=hρ 0 (by omega);have C0:st1.h id=none:=hn 0 (by omega);cases c with
 | drop s=>exact⟨(),st1,ρ,g,he,rfl,hh,hl,λ_ h=>h,λn=>OB.refl n _,λq _=>⟨rfl,λ_=>rfl⟩,λ_ _ h=>h,λ_ _ h=>h,trivial,λs t ow r h=>by cases h⟩
 | slot s ty=>
  simp only[WL]at he;split at he
  case h_2=>cases he
  rename_i v ids lX;obtain⟨x,hx,he⟩:=Option.bind_eq_some_iff.1 he;obtain⟨k1,k2⟩:=za8 hl lX;have k2:∀r∈ids,∃row,st1.h r=some row:=k2;obtain⟨m1,m2⟩:=hh.mark ids;obtain⟨f1,f2⟩:=wT hh (hv s) k1;have mZ:∀r,st1.h r=none→r∉ids:=λr hn hm=>by obtain⟨row,h5⟩:=k2 r hm;rw[hn]at h5;cases h5
  exact⟨x,_,ρ,eB g ids,he,rfl,m1,fS hl ids,λq hq=>by show eB st1.h ids q=none;rw[pD,if_neg (mZ q hq)];exact hq,λn=>FI _ (TO lX),
   λq _=>⟨rfl,λhq=>by rw[pD,if_neg (mZ q hq)]⟩,λ_ _ h=>h,m2,⟨zbb ty v x hx f1,zeJ ty v x hx f2⟩,λs t ow r h=>by cases h⟩
 | own s t tr=>
  simp only[WL]at he;split at he
  case h_2=>cases he
  rename_i l ro LV;cases EV:nR tr st1.h t ro
  case false=>simp[EV]at he
  simp only[EV,cond_true]at he;have O6:=LV;have DW:=hv s
  -- a row that has moved
  have moved:∀(q:Nat) (m:cB) (l0:List (El t)) (ri':RI),ro=some q→st1.h q=some ⟨.arr t l0,m⟩→EA w0 outer own (cA ρ id (some ri')) (cA (cA g q none) id (some ⟨.arr t l,zD tr⟩)) w→
    (∀u d,VR w ρ (bA outer ρ g) u d→VR w (cA ρ id (some ri')) (bA outer (cA ρ id (some ri')) (cA (cA g q none) id (some ⟨.arr t l,zD tr⟩))) u d)→
    VR w (cA ρ id (some ri')) (bA outer (cA ρ id (some ri')) (cA (cA g q none) id (some ⟨.arr t l,zD tr⟩))) (tv s) (.ow id)→
    ∃x st2 ρ' g',k x st2=some r∧Ex1 w0 outer own w tv (.own s t tr) id ρ g st1 x st2 ρ' g':=by
   rintro q m l0 ri' rfl hq n1 n2 n3;have J4:=UV q _ hq;refine⟨l,_,_,_,he,rfl,n1,λp row hp=>?_,λp hp=>?_,λn=>SR O6,λp hp=>⟨kA _ _ _ _ ?_,λW0=>?_⟩,λp pi hp=>?_,n2,⟨n3,tA _ _ _⟩,λs t ow r h=>by cases h⟩
   ·have hp:cA st1.h q none p=some row:=hp
    by_cases QW:p=q
    ·subst QW;rw[tA]at hp;cases hp
    ·rw[kA _ _ _ _ QW]at hp;rw[kA _ _ _ _ (by rintro rfl;rw[C0]at hp;cases hp),kA _ _ _ _ QW];exact hl _ _ hp
   ·show cA st1.h q none p=none
    by_cases QW:p=q
    ·subst QW;exact tA _ _ _
    ·rw[kA _ _ _ _ QW];exact hp
   ·rintro rfl;exact hp ⟨Nat.le_refl _,by omega⟩
   ·rw[kA _ _ _ _ (by rintro rfl;exact hp ⟨Nat.le_refl _,by omega⟩),kA];rintro rfl;rw[hq]at W0;cases W0
   ·rw[kA];exact hp;rintro rfl;rw[h0]at hp;cases hp
  unfold kH at LV;split at LV
  ·rename_i HV;simp only[Option.some.injEq,Prod.mk.injEq]at LV;obtain⟨rfl,rfl⟩:=LV;rw[HV]at DW;have Y9:tv s= .slice none 0 0:=by generalize tv s=x at DW;cases DW;rfl
   obtain⟨n1,n2⟩:=hh.empty t (zD tr) (zix tr) h0;refine⟨[],_,_,_,he,rfl,n1,λp row hp=>?_,λp hp=>hp,λn=>OB.refl n _,λp hp=>⟨kA _ _ _ _ ?_,λW0=>kA _ _ _ _ ?_⟩,λp pi hp=>?_,n2,⟨?_,tA _ _ _⟩,λs t ow r h=>by cases h⟩
   ·have hp:st1.h p=some row:=hp;rw[kA _ _ _ _ (by rintro rfl;rw[C0]at hp;cases hp)];exact hl _ _ hp
   ·rintro rfl;exact hp ⟨Nat.le_refl _,by omega⟩
   ·rintro rfl;exact hp ⟨Nat.le_refl _,by omega⟩
   ·rw[kA];exact hp;rintro rfl;rw[h0]at hp;cases hp
   ·rw[Y9];exact .owN _ ⟨0,0,0,true⟩ none (tA _ _ _) rfl rfl
  ·rename_i q HV;split at LV
   case h_2=>cases LV
   rename_i t' l1 m sV;cases hm:m.isOwn
   case false=>simp[hm]at LV
   simp only[hm,cond_true]at LV;split at LV
   case isFalse=>cases LV
   rename_i e1;subst e1;simp only[XF,Option.some.injEq,Prod.mk.injEq]at LV;obtain⟨rfl,rfl⟩:=LV;have aZ:AB tr t' m=true:=by simpa[nR,sV]using EV
   rw[HV]at DW;obtain⟨ri,hρq,_⟩:=hh.rows q _ (hl _ _ sV);obtain⟨n1,n2⟩:=hh.rename (zD tr) (hl _ _ sV) (DL aZ) (zb0 aZ) hρq h0;refine moved q m l1 ri rfl sV n1 n2 ?_
   rcases DW.ow_inv hρq with⟨e1,e2,e3,e4⟩ | ⟨ao,e1,e2,e3⟩
   ·rw[e1];exact .ow _ ri (tA _ _ _) e3 e4 e2
   ·rw[e1];exact .owN _ ri ao (tA _ _ _) e3 e2
  ·rename_i q t0 len HV;split at LV
   case h_2=>cases LV
   rename_i t' l1 m sV;cases hm:m.isOwn
   case false=>simp[hm]at LV
   simp only[hm,cond_true]at LV;split at LV
   case isFalse=>cases LV
   rename_i e1;subst e1;simp only[XF,Option.some.injEq,Prod.mk.injEq]at LV;obtain⟨rfl,rfl⟩:=LV;have aZ:AB tr t' m=true:=by simpa[nR,sV]using EV
   rw[HV]at DW;obtain⟨ri,n1,n2,n3⟩:=hh.cut (zD tr) (hl _ _ sV) (DL aZ) (zb0 aZ) h0 DW;exact moved q m l1 ri rfl sV n1 n2 n3
  ·cases LV
 | box s t ow=>
  simp only[WL]at he;split at he
  case h_2=>cases he
  rename_i q HV;split at he
  case h_2=>cases he
  rename_i cs sV;split at he
  case h_2=>cases he
  rename_i cs' h' AZ;obtain⟨x,hx,he⟩:=Option.bind_eq_some_iff.1 he;have hs:=LC t hx;have J4:=UV q _ sV;have I1:=hl _ _ sV;obtain⟨ri,hρq,FV,_⟩:=hh.rows q _ I1
  have tV:cs.length≤128:=by
   have h1:=zJ _ _ _ _ _ AZ;have h2:=hs.len;rw[WA]at h2;have:=cR t;simp only at h1;omega
  have yV:∀p,st1.h p=none→cA st1.h q none p=none:=λp hp=>by
   by_cases QW:p=q
   ·subst QW;exact tA _ _ _
   ·rw[kA _ _ _ _ QW];exact hp
  obtain⟨ρ1,g1,T,QX⟩:=SK ow id 128 cs 0 (cA st1.h q none) h' cs' (enc t x) ρ g (λj=>(w.cell? (iA ri.b j)).getD undef) AZ hs (by omega) hh
   (λj hj=>by obtain⟨_,y,f1,f2⟩:=FV.2 j hj;rw[f1];exact f2)
   (fun p row hp=>by
    by_cases QW:p=q
    ·subst QW;rw[tA]at hp;cases hp
    ·rw[kA _ _ _ _ QW]at hp;exact hl _ _ hp)
   (λp hp=>yV _ (hn p hp)) (λp _ hp=>hρ p hp)
  have P6:g1 q=some ⟨.box cs, .own⟩:=by rw[(T.out q J4).2 (tA _ _ _)];exact I1
  have hρ1:ρ1 q=some ri:=T.ext _ _ hρq;obtain⟨n1,n2⟩:=T.heap.reread P6 (es:=zA ow id 0 (enc t x)) (by rw[SC];exact QX) (λri' h3 j hj=>by rw[hρ1]at h3;cases h3;exact T.vals j hj);have X2:h' q=none:=T.less q (tA _ _ _)
  refine⟨x,_,_,_,he,rfl,n1,λp row hp=>?_,λp hp=>T.less p (yV p hp),λn=>(AG (OB.refl n _) _ none (.inr ⟨_,sV,rfl⟩)).trans (UF (λr=>r<n) _ _ _ _ _ AZ),λp hp=>⟨(T.out p hp).1,λW0=>?_⟩,T.ext,λu d hu=>n2 _ _ (T.keep _ _ hu),
   ⟨q,HV,tA _ _ _,λp hp=>?_⟩,λs' t' ow' r' h1 h2=>?_⟩
  ·have hp:h' p=some row:=hp;rw[kA _ _ _ _ (by rintro rfl;rw[X2]at hp;cases hp)];exact T.lies _ _ hp
  ·rw[kA _ _ _ _ (by rintro rfl;rw[sV]at W0;cases W0),(T.out p hp).2 (yV p W0)]
  ·rw[kA _ _ _ _ (by rintro rfl;exact J4 ⟨by omega,by omega⟩)];exact T.new p (by omega) hp
  ·cases h1;rw[HV]at h2;cases h2;exact⟨X2,J4⟩
def nH(w:World)(ρ:Nat→Option RI)(bad:Nat→Prop)(g:Nat→Option gA)(tv:Nat→Value)(sl:Nat→V):(cs:List rB)→Nat→iC cs→Prop
 | [],_,_=>True
 | [c],id,x=>KG w ρ bad g tv sl c id x
 | c :: d :: r,id,x=>KG w ρ bad g tv sl c id x.1∧nH w ρ bad g tv sl (d :: r) (id+128) x.2
def KG.later{tv:Nat→Value}{sl:Nat→V}{c:rB}{id:Nat}{x:c.T}{ρ ρ':Nat→Option RI}{bad bad':Nat→Prop}{g g':Nat→Option gA}(h:KG w ρ bad g tv sl c id x)
  (hk:∀u d,VR w ρ bad u d→VR w ρ' bad' u d) (hg:∀q,q<128→g' (id+q)=g (id+q)) (hb:∀s t ow r,c= .box s t ow→sl s= .bp r 0→g' r=g r):KG w ρ' bad' g' tv sl c id x:=by
 cases c with
 | drop s=>trivial
 | slot s ty=>exact⟨hk _ _ h.1,h.2⟩
 | own s t tr=>exact⟨hk _ _ h.1,by rw[show id=id+0 from rfl,hg 0 (by omega)];exact h.2⟩
 | box s t ow=>
  obtain⟨r,h1,h2,h3⟩:=h;exact⟨r,h1,by rw[hb s t ow r rfl h1];exact h2,λq hq=>by rw[hg q hq];exact h3 q hq⟩
structure ExA(w0:World)(outer:Nat→Prop)(own:Ow)(w:World)(tv:Nat→Value)(cs:List rB)(id:Nat)(ρ:Nat→Option RI)(g:Nat→Option gA)(st1:St)(x:iC cs)(hn:Nat→Option gA)(ρ':Nat→Option RI)(g':Nat→Option gA):Prop where
 heap:EA w0 outer own ρ' g' w
 lies:OE hn g'
 left:∀n,OB n st1.h hn
 out:∀q,q<id→ρ' q=ρ q∧(st1.h q=none→g' q=g q)
 fresh:∀q,id+128 *cs.length≤q→ρ' q=none
 ext:∀q qi,ρ q=some qi→ρ' q=some qi
 keep:∀u d,VR w ρ (bA outer ρ g) u d→VR w ρ' (bA outer ρ' g') u d
 ok:nH w ρ' (bA outer ρ' g') g' tv st1.s cs id x
def zct{tv:Nat→Value}:∀(cs:List rB) (id:Nat) (st1:St) (k:iC cs→Option R) (r:R) (ρ:Nat→Option RI) (g:Nat→Option gA),HE cs st1 k=some r→EA w0 outer own ρ g w→OE st1.h g→
  (∀s,VR w ρ (bA outer ρ g) (tv s) (st1.s s))→(∀q,id≤q→ρ q=none)→(∀q,id≤q→st1.h q=none)→∃x hn ρ' g',k x=some r∧ExA w0 outer own w tv cs id ρ g st1 x hn ρ' g'
 | [],id,st1,k,r,ρ,g,he,hh,hl,hv,hρ,hn=>⟨(),st1.h,ρ,g,he,hh,hl,λn=>OB.refl n _,λq _=>⟨rfl,λ_=>rfl⟩,λq hq=>hρ q (by simpa using hq),λ_ _ h=>h,λ_ _ h=>h,trivial⟩
 | [c],id,st1,k,r,ρ,g,he,hh,hl,hv,hρ,hn=>by
  simp only[HE]at he;obtain⟨x,st2,ρ',g',h1,E⟩:=zch c id st1 _ he hh hl hv (λq hq=>hρ _ (by omega)) (λq hq=>hn _ (by omega));refine⟨x,st2.h,ρ',g',h1,E.heap,E.lies,E.left,λq hq=>E.out q (λh=>by omega),λq hq=>?_,E.ext,E.keep,E.ok⟩;simp at hq;rw[(E.out q (λh=>by omega)).1];exact hρ q (by omega)
 | c :: d :: cs,id,st1,k,r,ρ,g,he,hh,hl,hv,hρ,hn=>by
  simp only[HE]at he;obtain⟨x,st2,ρ1,g1,h1,E⟩:=zch c id st1 _ he hh hl hv (λq hq=>hρ _ (by omega)) (λq hq=>hn _ (by omega))
  obtain⟨y,S7,ρ',g',h2,F⟩:=zct (d :: cs) (id+128) st2 _ r ρ1 g1 h1 E.heap E.lies (λs=>by rw[E.slots];exact E.keep _ _ (hv s))
   (λq hq=>by rw[(E.out q (λh=>by omega)).1];exact hρ q (by omega)) (λq hq=>E.less q (hn q (by omega)))
  refine⟨(x,y),S7,ρ',g',h2,F.heap,F.lies,λn=>(E.left n).trans (F.left n),λq hq=>?_,λq hq=>?_,λq qi hq=>F.ext _ _ (E.ext _ _ hq),λu d hu=>F.keep _ _ (E.keep _ _ hu),?_,by rw[←E.slots];exact F.ok⟩
  ·have ho:Out id 128 q:=λh=>by omega
   exact⟨((F.out q (by omega)).1).trans (E.out q ho).1,λIW=>((F.out q (by omega)).2 (E.less q IW)).trans ((E.out q ho).2 IW)⟩
  ·exact F.fresh q (by simp at hq⊢;omega)
  ·refine E.ok.later F.keep (λq hq=>(F.out (id+q) (by omega)).2 (E.less _ (hn _ (by omega)))) λs t ow r h3 h4=>?_;obtain⟨h5,h6⟩:=E.gone s t ow r h3 h4
   have Z9:r<id:=by
    rcases Nat.lt_or_ge r id with h7 | h7
    ·exact h7
    ·obtain⟨ri,h8,_⟩:=(show VR w ρ (bA outer ρ g) (tv s) (.bp r 0) by rw[←h4];exact hv s).bp_inv;rw[hρ r h7]at h8;cases h8
   exact(F.out r (by omega)).2 h5
def oS{tv:Nat→Value}{sl:Nat→V}{ρ2:Nat→Option RI}{bad2:Nat→Prop}{g2:Nat→Option gA}:∀(cs:List rB) (M id:Nat) (x:iC cs) (h:Nat→Option gA) (q:Nat) (row:gA),
  nH w ρ2 bad2 g2 tv sl cs M x→oJ sl cs id x h q=some row→
  h q=some row∨(id≤q∧q<id+128 *cs.length∧(∃t l m,row=⟨.arr t l,m⟩)∧g2 (M+(q - id))=some row)∨
   (∃o ow es s,row=⟨.box (zA ow (id+o) 0 es), .own⟩∧g2 q=some ⟨.box (zA ow (M+o) 0 es), .own⟩∧o+128≤128 *cs.length∧(∀j (hj:j<es.length),vB es[j])∧es.length≤128∧sl s= .bp q 0):=by
 have one:∀(c:rB) (M id:Nat) (x:c.T) (h:Nat→Option gA) (q:Nat) (row:gA),KG w ρ2 bad2 g2 tv sl c M x→NG sl c id x h q=some row→
   h q=some row∨(id≤q∧q<id+128∧(∃t l m,row=⟨.arr t l,m⟩)∧g2 (M+(q - id))=some row)∨
   (∃ow es s,row=⟨.box (zA ow id 0 es), .own⟩∧g2 q=some ⟨.box (zA ow M 0 es), .own⟩∧(∀j (hj:j<es.length),vB es[j])∧es.length≤128∧sl s= .bp q 0):=by
  intro c M id x h q row hc hi;cases c with
  | drop s=>exact .inl hi
  | slot s ty=>exact .inl hi
  | own s t tr=>
   simp only[NG]at hi
   by_cases hq:q=id
   ·subst hq;rw[tA]at hi;cases hi;exact .inr (.inl ⟨Nat.le_refl _,by omega,⟨_,_,_,rfl⟩,by rw[Nat.sub_self];exact hc.2⟩)
   ·rw[kA _ _ _ _ hq]at hi;exact .inl hi
  | box s t ow=>
   obtain⟨r,h1,h2,h3⟩:=hc;simp only[NG,h1]at hi
   by_cases hq:q=r
   ·subst hq;rw[tA]at hi;cases hi;refine .inr (.inr ⟨ow,enc t x,s,rfl,h2,λj hj=>?_,by rw[WA];exact cR t,h1⟩);intro S;have:=oH S t x j;rw[List.getD_eq_getElem?_getD,List.getElem?_eq_getElem hj]at this;exact this
   ·rw[kA _ _ _ _ hq,PA]at hi;split at hi
    ·rename_i y hy;cases hi;obtain⟨t',l,e1,e2,e3⟩:=UB _ _ _ _ _ _ hy;have xV:=cR t;rw[WA]at e3;refine .inr (.inl ⟨by omega,by omega,⟨t',l,_,e1⟩,?_⟩);rw[h3 (q - id) (by omega),sK ow M id,show id+(q - id)=q by omega];exact hy
    ·exact .inl hi
 intro cs;induction cs with
 | nil=>intro M id x h q row _ hi;exact .inl hi
 | cons c cs ih=>
  intro M id x h q row hc hi;cases cs with
  | nil=>
   rcases one c M id x h q row hc hi with h1 | ⟨h1,h2,h3⟩ | ⟨ow,es,s,h1,h2,h3⟩
   ·exact .inl h1
   ·exact .inr (.inl ⟨h1,by simp only[List.length_cons,List.length_nil];omega,h3⟩)
   ·exact .inr (.inr ⟨0,ow,es,s,h1,h2,by simp only[List.length_cons];omega,h3⟩)
  | cons d r=>
   simp only[oJ]at hi
   rcases one c M id x.1 _ q row hc.1 hi with h1 | ⟨h1,h2,h3⟩ | ⟨ow,es,s,h1,h2,h3⟩
   ·rcases ih (M+128) (id+128) x.2 h q row hc.2 h1 with h4 | ⟨h4,h5,h6,h7⟩ | ⟨o,ow,es,s,h4,h5,h6,h7⟩
    ·exact .inl h4
    ·refine .inr (.inl ⟨by omega,by simp at h5⊢;omega,h6,?_⟩);rw[show M+(q - id)=M+128+(q - (id+128)) by omega];exact h7
    ·refine .inr (.inr ⟨o+128,ow,es,s,?_,?_,by simp at h6⊢;omega,h7⟩)
     ·rw[show id+(o+128)=id+128+o by omega];exact h4
     ·rw[show M+(o+128)=M+128+o by omega];exact h5
   ·exact .inr (.inl ⟨h1,by simp only[List.length_cons];omega,h3⟩)
   ·exact .inr (.inr ⟨0,ow,es,s,h1,h2,by simp only[List.length_cons];omega,h3⟩)
def zhc{tv:Nat→Value}{sl:Nat→V}{ρ2:Nat→Option RI}{bad2:Nat→Prop}{g2:Nat→Option gA}(f:Nat→V)(s:Nat):∀(cs:List rB) (M id:Nat) (x:iC cs),
  nH w ρ2 bad2 g2 tv sl cs M x→(zC cs s=false∧GE cs id x f s=f s)∨(VR w ρ2 bad2 (tv s) (GE cs id x f s)∧vB (GE cs id x f s))∨
   (∃o,GE cs id x f s= .ow (id+o)∧VR w ρ2 bad2 (tv s) (.ow (M+o))∧o<128 *cs.length):=by
 have one:∀(c:rB) (M id:Nat) (x:c.T) (f:Nat→V),KG w ρ2 bad2 g2 tv sl c M x→((∀r,zC (c :: r) s=zC r s)∧zF c id x f s=f s)∨(VR w ρ2 bad2 (tv s) (zF c id x f s)∧vB (zF c id x f s))∨
   (zF c id x f s= .ow id∧VR w ρ2 bad2 (tv s) (.ow M)):=by
  intro c M id x f hc;cases c with
  | slot s' ty=>
   by_cases hs:s=s'
   ·subst hs;simp only[zF,tA];exact .inr (.inl hc)
   ·simp only[zF];rw[kA _ _ _ _ hs];refine .inl ⟨λr=>?_,rfl⟩
    have:Nat.beq s' s=false:=by
     cases hb:Nat.beq s' s with
     | false=>rfl
     | true=>exact absurd (Nat.eq_of_beq_eq_true hb).symm hs
    simp[zC,this]
  | own s' t tr=>
   by_cases hs:s=s'
   ·subst hs;exact .inr (.inr ⟨tA _ _ _,hc.1⟩)
   ·simp only[zF];rw[kA _ _ _ _ hs];refine .inl ⟨λr=>?_,rfl⟩
    have:Nat.beq s' s=false:=by
     cases hb:Nat.beq s' s with
     | false=>rfl
     | true=>exact absurd (Nat.eq_of_beq_eq_true hb).symm hs
    simp[zC,this]
  | box s' t ow=>exact .inl ⟨λr=>rfl,rfl⟩
  | drop s'=>exact .inl ⟨λr=>rfl,rfl⟩
 intro cs;induction cs with
 | nil=>intro M id x _;exact .inl ⟨rfl,rfl⟩
 | cons c cs ih=>
  intro M id x hc;cases cs with
  | nil=>
   rcases one c M id x f hc with⟨h1,h2⟩ | h | ⟨h1,h2⟩
   ·exact .inl ⟨by rw[h1];rfl,h2⟩
   ·exact .inr (.inl h)
   ·exact .inr (.inr ⟨0,h1,h2,by simp only[List.length_cons];omega⟩)
  | cons d r=>
   simp only[GE]
   rcases one c M id x.1 (GE (d :: r) (id+128) x.2 f) hc.1 with⟨h1,h2⟩ | h | ⟨h1,h2⟩
   ·rw[h2]
    rcases ih (M+128) (id+128) x.2 hc.2 with⟨h3,h4⟩ | h3 | ⟨o,h3,h4,h5⟩
    ·exact .inl ⟨by rw[h1];exact h3,h4⟩
    ·exact .inr (.inl h3)
    ·exact .inr (.inr ⟨o+128,by rw[h3];congr 1;omega,by rw[show M+(o+128)=M+128+o by omega];exact h4,by simp only[List.length_cons]at h5⊢;omega⟩)
   ·exact .inr (.inl h)
   ·exact .inr (.inr ⟨0,h1,h2,by simp only[List.length_cons];omega⟩)
def nH.slots{tv:Nat→Value}{sl sl':Nat→V}{ρ2:Nat→Option RI}{bad2:Nat→Prop}{g2:Nat→Option gA}:∀(cs:List rB) (M:Nat) (x:iC cs),
  (∀s t ow,rB.box s t ow∈cs→sl' s=sl s)→nH w ρ2 bad2 g2 tv sl cs M x→nH w ρ2 bad2 g2 tv sl' cs M x:=by
 have one:∀(c:rB) (M:Nat) (x:c.T),(∀s t ow,c=rB.box s t ow→sl' s=sl s)→KG w ρ2 bad2 g2 tv sl c M x→KG w ρ2 bad2 g2 tv sl' c M x:=by
  intro c M x hs hc;cases c with
  | drop s=>trivial
  | slot s ty=>exact hc
  | own s t tr=>exact hc
  | box s t ow=>obtain⟨r,h1,h2⟩:=hc;exact⟨r,by rw[hs s t ow rfl];exact h1,h2⟩
 intro cs;induction cs with
 | nil=>intro M x _ _;trivial
 | cons c cs ih=>
  intro M x hs hc;cases cs with
  | nil=>exact one c M x (λs t ow h=>hs s t ow (by simp[h])) hc
  | cons d r=>exact⟨one c M x.1 (λs t ow h=>hs s t ow (by simp[h])) hc.1,ih (M+128) x.2 (λs t ow h=>hs s t ow (List.mem_cons_of_mem _ h)) hc.2⟩
omit [aA]in
def zax(sl:Nat→V):∀(cs:List rB) (id:Nat) (x:iC cs) (h:Nat→Option gA) (q:Nat) (row:gA),h q=some row→∃row',oJ sl cs id x h q=some row':=by
 have up:∀(h:Nat→Option gA) (i:Nat) (y:gA) (q:Nat),(∃row,h q=some row)→∃row',cA h i (some y) q=some row':=by
  intro h i y q hq
  by_cases hi:q=i
  ·subst hi;exact⟨y,tA _ _ _⟩
  ·rw[kA _ _ _ _ hi];exact hq
 have one:∀(c:rB) (id:Nat) (x:c.T) (h:Nat→Option gA) (q:Nat),(∃row,h q=some row)→∃row',NG sl c id x h q=some row':=by
  intro c id x h q hq;cases c with
  | drop s'=>exact hq
  | slot s' ty=>exact hq
  | own s' t tr=>exact up _ _ _ _ hq
  | box s' t ow=>
   simp only[NG];generalize sl s'=v;cases v with
   | bp r off=>
    cases off with
    | zero=>
     refine up _ _ _ _ ?_;rw[PA];cases HA ow id (λ_=>none) 0 (enc t x) q with
     | some y=>exact⟨_,rfl⟩
     | none=>exact hq
    | succ n=>exact hq
   | _=>exact hq
 intro cs;induction cs with
 | nil=>intro id x h q row hq;exact⟨row,hq⟩
 | cons c cs ih=>
  intro id x h q row hq;cases cs with
  | nil=>exact one c id x h q ⟨row,hq⟩
  | cons d r=>exact one c id x.1 _ q (ih (id+128) x.2 h q row hq)
def PR{j:JI}{b:St}{ρ':Nat→Option RI}{a':Act}{w':World}{k:iC j.cs→Option R}{r:R}(hb:AA C w0 outer own ρ b a w)(BY:∀q,b.nx≤q→ρ q=none)
  (hr:AA C w0 outer own ρ' st' a' w') (hf:∀q,st'.nx≤q→ρ' q=none) (D8:b.nx≤st'.nx) (Q6:∀q qi,ρ q=some qi→ρ' q=some qi)
  (bZ:∀s,j.has s=false→st'.s s=b.s s) (JW:OB b.nx (LB j b).h st'.h) (zW:cL j=true) (he:HE j.cs st' k=some r):
  ∃x,k x=some r∧∃ρ'',AA C w0 outer own ρ'' (install j b x) a' w'∧(∀q,(install j b x).nx≤q→ρ'' q=none)∧(∀q qi,ρ q=some qi→ρ'' q=some qi)∧OB b.nx b.h (install j b x).h:=by
 have K4:∀q row,b.h q=some row→ρ q≠none∧q<b.nx:=λq row hq=>by
  obtain⟨ri,h1,_⟩:=hb.heap.rows q row hq;refine⟨by rw[h1];simp,?_⟩
  rcases Nat.lt_or_ge q b.nx with h | h
  ·exact h
  ·rw[BY q h]at h1;cases h1
 have R6:∀q,st'.nx≤q→st'.h q=none:=λq hq=>by
  cases hg:st'.h q with
  | none=>rfl
  | some row=>obtain⟨ri,h3,_⟩:=hr.heap.rows _ _ hg;rw[hf q hq]at h3;cases h3
 obtain⟨x,hn,ρ2,g2,hx,E⟩:=zct (tv:=λs=>a'.tmps.getD s undef) j.cs st'.nx st' k r ρ' st'.h he hr.heap (λ_ _ h=>h) hr.slots hf R6;let M:=st'.nx;let L:=128 *j.cs.length;let ρ'':Nat→Option RI:=λq=>if q<b.nx then ρ q else if q<b.nx+L then ρ2 (M+(q - b.nx))else none
 let φ:Nat→Nat:=λq=>if q<b.nx then q else M+(q - b.nx)
 have hρ2:∀q qi,ρ q=some qi→ρ2 q=some qi:=λq qi hq=>E.ext _ _ (Q6 _ _ hq)
 have vV:∀q,ρ q≠none→q<b.nx:=λq hq=>by
  rcases Nat.lt_or_ge q b.nx with h | h
  ·exact h
  ·exact absurd (BY q h) hq
 have hρlow:∀q,q<b.nx→ρ'' q=ρ q:=λq hq=>by simp only[ρ'',hq,if_true]
 have TZ:∀q qi,ρ q=some qi→ρ'' q=some qi:=λq qi hq=>by rw[hρlow q (vV q (by rw[hq];simp))];exact hq
 have hρhi:∀o,o<L→ρ'' (b.nx+o)=ρ2 (M+o):=λo ho=>by
  have h1:¬(b.nx+o<b.nx):=by omega
  have h2:b.nx+o<b.nx+L:=by omega
  simp only[ρ'',h1,h2,if_false,if_true];congr 1;omega
 have hφlow:∀q,q<b.nx→φ q=q:=λq hq=>by simp only[φ,hq,if_true]
 have hφhi:∀q,b.nx≤q→φ q=M+(q - b.nx):=λq hq=>by
  have:¬q<b.nx:=by omega
  simp only[φ,this,if_false]
 have rY:nH w' ρ2 (bA outer ρ2 g2) g2 (λs=>a'.tmps.getD s undef) b.s j.cs M x:=by
  refine nH.slots j.cs M x (λs t ow hm=>?_) E.ok;have:=List.all_eq_true.1 zW _ hm;simp only[Bool.not_eq_true']at this;exact(bZ s this).symm
 -- the rows that stayed
 have AV:∀q row,kF j b q=some row→∃row0,b.h q=some row0∧row0.c=row.c∧∃row2,g2 q=some row2∧row2.c=row.c∧(row.m.isRo=false→row2.m.isRo=false)∧(row.m.isTre=true→row2.m.isTre=true):=λq row hq=>by
  unfold kF at hq;split at hq
  case h_2=>cases hq
  rename_i c m hc;cases hm:m.isOwn
  ·simp only[hm,cond_false,Option.some.injEq]at hq;subst hq;have h1:(LB j b).h q=some ⟨c,m⟩:=by simp[LB,hc,hm]
   exact⟨_,hc,rfl,_,E.lies _ _ (E.left (q+1) q _ (by omega) (JW q _ (K4 q _ hc).2 h1 hm) hm),rfl,λh=>h,λh=>h⟩
  ·simp only[hm,cond_true]at hq;cases hi:tH j.cs b q
   ·simp only[hi,cond_false,Option.some.injEq]at hq;subst hq;have h1:(LB j b).h q=some ⟨c,m.locked⟩:=by simp[LB,hc,hi,hm]
    have h2:m.locked.isOwn=false:=by cases m<;>rfl
    exact⟨_,hc,rfl,_,E.lies _ _ (E.left (q+1) q _ (by omega) (JW q _ (K4 q _ hc).2 h1 h2) h2),rfl,(λ_=>by cases m<;>first | rfl | cases hm),(λh=>by cases m<;>first | rfl | cases h)⟩
   ·simp[hi]at hq
 have sV:∀q row,(install j b x).h q=some row→∃row2,g2 (φ q)=some row2∧(row.m.isRo=false→row2.m.isRo=false)∧ρ'' q=ρ2 (φ q)∧(row.m.isTre=true→row2.m.isTre=true∧row2.c=row.c):=λq row hq=>by
  rcases oS j.cs M b.nx x (kF j b) q row rY hq with h1 | ⟨h1,h2,_,h4⟩ | ⟨o,ow,es,s,h1,h2,h3,h4,h5,h6⟩
  ·obtain⟨row0,k1,_,row2,k2,k5,k3,k4⟩:=AV q row h1;have UX:=(K4 q _ k1).2;obtain⟨ri,e1,_⟩:=hb.heap.rows q _ k1;exact⟨row2,by rw[hφlow q UX];exact k2,k3,by rw[hφlow q UX,hρlow q UX,e1,hρ2 q ri e1],λh=>⟨k4 h,k5⟩⟩
  ·refine⟨row,by rw[hφhi q h1];exact h4,λh=>h,?_,λh=>⟨h,rfl⟩⟩;have:=hρhi (q - b.nx) (by omega);rw[show b.nx+(q - b.nx)=q by omega]at this;rw[this,hφhi q h1]
  ·have X0:=hb.slots s;rw[h6]at X0;obtain⟨ri,e1,_⟩:=X0.bp_inv;have UX:=vV q (by rw[e1];simp);exact⟨_,by rw[hφlow q UX];exact h2,λ_=>rfl,by rw[hφlow q UX,hρlow q UX,e1,hρ2 q ri e1],λh=>by rw[h1]at h;cases h⟩
 have uV:∀c,bA outer ρ'' (install j b x).h c→bA outer ρ2 g2 c:=by
  rintro c (hc | ⟨q,row,ri,f1,f2,f3,f4,f5⟩)
  ·exact .inl hc
  ·obtain⟨row2,k1,k2,k3,_⟩:=sV q row f1;rw[k3]at f3;exact .inr ⟨_,row2,ri,k1,k2 f2,f3,f4,f5⟩
 -- what is said ahead holds behind
 have keepB:∀u d,VR w' ρ2 (bA outer ρ2 g2) u d→TA (λq=>ρ q≠none) d→VR w' ρ'' (bA outer ρ'' (install j b x).h) u d:=λu d hu hS=>
  hu.keep hS (λq qi hq h2=>by
   cases h3:ρ q with
   | none=>exact absurd h3 hq
   | some ri=>rw[hρ2 q ri h3]at h2;cases h2;exact TZ q _ h3) (λ_ _ _=>rfl) λc hc=> .inl (uV c hc)
 have hH:EA w0 outer own ρ'' (install j b x).h w':=by
  refine E.heap.sub φ E.heap.wx E.heap.old E.heap.outLt (λq row hq=>?_) (λq q' row row' h1 h2 h3=>?_) (pB.sub E.heap φ uV (λ_ h=>h) λq t l m hq hm=>by
   obtain⟨⟨c2,m2⟩,k1,_,k3,k4⟩:=sV q _ hq;obtain⟨k5,k6⟩:=k4 hm;simp only at k5 k6;subst k6;exact⟨⟨m2,k1,k5⟩,k3⟩)
  ·obtain⟨row2,k1,k2,k3,_⟩:=sV q row hq;obtain⟨ri,e1,e2,e3⟩:=E.heap.rows _ _ k1;refine⟨row2,ri,k1,by rw[k3];exact e1,e1,?_,λhn=>⟨(e3 hn).1.1,λhm=>(e3 hn).1.2 (k2 hm)⟩⟩
   rcases oS j.cs M b.nx x (kF j b) q row rY hq with h1 | ⟨h1,h2,⟨t,l,m3,h3⟩,h4⟩ | ⟨o,ow,es,s,h1,h2,h3,h4,h5,h6⟩
   ·obtain⟨row0,f1,f2,row2',f3,f4,_,_⟩:=AV q row h1;have UX:=(K4 q _ f1).2;rw[hφlow q UX,f3]at k1;cases k1;rw[f4]at e2;obtain⟨rc,rm⟩:=row;cases rc with
    | arr t l=>exact uM e2 uV ρ''
    | box cs=>
     obtain⟨ri0,g1,g3,_⟩:=hb.heap.rows q _ f1;rw[f2]at g3;refine⟨e2.1,λi hi=>?_⟩;obtain⟨x1,y,x2,x3⟩:=e2.2 i hi;obtain⟨_,y0,_,y3⟩:=g3.2 i hi;exact⟨x1,y,x2,keepB _ _ x3 y3.refs⟩
   ·subst h3;rw[hφhi q h1,h4]at k1;cases k1;exact uM e2 uV ρ''
   ·have X0:=hb.slots s;rw[h6]at X0;obtain⟨ri',e4,_⟩:=X0.bp_inv;have UX:=vV q (by rw[e4];simp);rw[hφlow q UX,h2]at k1;cases k1;subst h1;refine⟨e2.1,λi hi=>?_⟩;rw[SC]at hi;obtain⟨x1,y,x2,x3⟩:=e2.2 i (by rw[SC];exact hi);refine⟨x1,y,x2,?_⟩
    have:=zK (w:=w') (ρ:=ρ2) (ρ2:=ρ'') (bad:=bA outer ρ2 g2) (bad2:=bA outer ρ'' (install j b x).h) ow (M+o) (b.nx+o) es 0 (λi=>(w'.cell? (iA ri.b i)).getD undef) (λp _ hp _ _=>by
      rw[Nat.add_assoc,Nat.add_assoc];exact hρhi (o+p) (by omega)) h4 uV (λi hi=>by
      obtain⟨_,y,x2,x3⟩:=e2.2 i hi;rw[x2];exact x3) i (by rw[SC];exact hi)
    rw[x2]at this;exact this
  ·have cls:∀q row,(install j b x).h q=some row→φ q=q∧q<b.nx∨b.nx≤q∧φ q=M+(q - b.nx):=λq row _=>by
    rcases Nat.lt_or_ge q b.nx with h | h
    ·exact .inl ⟨hφlow q h,h⟩
    ·exact .inr ⟨h,hφhi q h⟩
   rcases cls q row h1 with⟨c1,c2⟩ | ⟨c1,c2⟩<;>rcases cls q' row' h2 with⟨c3,c4⟩ | ⟨c3,c4⟩<;>omega
 refine⟨x,hx,ρ'',⟨hH,λs=>?_,hr.size,hr.defers,hr.glob⟩,λq hq=>?_,TZ,λq row z0 hq hm=>?_⟩
 ·show VR w' ρ'' _ _ (GE j.cs b.nx x (λi=>bif dJ j.kill i then .undef else b.s i) s)
  rcases zhc (λi=>bif dJ j.kill i then .undef else b.s i) s j.cs M b.nx x rY with⟨h1,h2⟩ | ⟨h1,h2⟩ | ⟨o,h1,h2,h3⟩
  ·rw[h2];cases hk:dJ j.kill s
   ·simp only[cond_false];have S6:j.has s=false:=by simp[JI.has,hk,h1]
    have hv:=E.keep _ _ (hr.slots s);rw[bZ s S6]at hv;exact keepB _ _ hv (hb.slots s).refs
   ·simp only[cond_true];exact .undef _
  ·exact(h1.noRef h2 ρ'').mono (λ_ _ h=>h) (λ_ _ _=>rfl) λc hc=> .inl (uV c hc)
  ·rw[h1];have hq:=hρhi o h3;have h2:VR w' ρ2 (bA outer ρ2 g2) (a'.tmps.getD s undef) (.ow (M+o)):=h2;generalize a'.tmps.getD s undef=T at h2⊢;cases h2 with
   | ow _ ri e1 e2 e3 e4=>exact .ow _ ri (by rw[hq];exact e1) e2 e3 e4
   | owN _ ri ao e1 e2 e3=>exact .owN _ ri ao (by rw[hq];exact e1) e2 e3
 ·have h1:¬q<b.nx:=by simp only[install]at hq;omega
  have h2:¬q<b.nx+L:=by simp only[install]at hq;omega
  simp only[ρ'',h1,h2,if_false]
 ·have h1:(LB j b).h q=some row:=by
   simp only[LB,hq,hm,cond_false]
  have h2:kF j b q=some row:=by
   simp only[kF,hq,hm,cond_false]
  have h3:g2 q=some row:=E.lies _ _ (E.left (q+1) q _ (by omega) (JW q _ z0 h1 hm) hm);obtain⟨row',h4⟩:=zax b.s j.cs b.nx x _ q row h2;show oJ b.s j.cs b.nx x (kF j b) q=some row
  rcases oS j.cs M b.nx x (kF j b) q row' rY h4 with h5 | ⟨h5,_⟩ | ⟨o,ow,es,s,h5,h6,_⟩
  ·rw[h2]at h5;cases h5;exact h4
  ·omega
  ·rw[h3]at h6;cases h6;cases hm
end
end Go.D
namespace Go.D
variable [aA]
section
variable {C:Cx} {w0:World} {outer:Nat→Prop} {own:Ow} {ρ:Nat→Option RI} {st st' b:St} {a:Act} {w:World} {R:Type} {j:JI}
omit [aA]in
def zfq(j:JI)(st:St):UD (LB j st).h st.h:=λr row' hr=>by
 simp only[LB]at hr;split at hr
 ·rename_i c m hc;cases hm:m.isOwn
  ·simp only[hm,cond_false,Option.some.injEq]at hr;subst hr;exact⟨_,hc,rfl,id,id⟩
  ·simp only[hm,cond_true]at hr;cases hi:tH j.cs st r
   ·simp only[hi,cond_false,Option.some.injEq]at hr;subst hr;exact⟨_,hc,rfl,λ_=>CN hm,λh=>by cases m<;>first | rfl | cases h⟩
   ·simp only[hi,cond_true,Option.some.injEq]at hr;subst hr;exact⟨_,hc,rfl,id,id⟩
 ·cases hr
omit [aA]in
def zeF(b st:St):UD (unlock b st).h st.h:=λr row' hr=>by
 simp only[unlock]at hr;split at hr
 ·rename_i c hc;split at hr
  ·rename_i m _;cases hm:m.isOwn
   ·simp only[hm,cond_false,Option.some.injEq]at hr;subst hr;exact⟨_,hc,rfl,λ_=>rfl,λh=>by cases h⟩
   ·simp only[hm,cond_true,Option.some.injEq]at hr;subst hr;exact⟨_,hc,rfl,λ_=>rfl,λh=>by cases h⟩
  ·cases hr;exact⟨_,hc,rfl,λ_=>rfl,λh=>by cases h⟩
 ·rename_i c hc;split at hr
  ·rename_i m _;cases hm:m.isOwn
   ·simp only[hm,cond_false,Option.some.injEq]at hr;subst hr;exact⟨_,hc,rfl,λ_=>rfl,λ_=>rfl⟩
   ·simp only[hm,cond_true,Option.some.injEq]at hr;subst hr;exact⟨_,hc,rfl,λ_=>rfl,λ_=>rfl⟩
  ·cases hr;exact⟨_,hc,rfl,λ_=>rfl,λ_=>rfl⟩
 ·exact⟨row',hr,rfl,id,id⟩
def AA.lock(hr:AA C w0 outer own ρ st a w)(j:JI):AA C w0 outer own ρ (LB j st) a w:=by
 obtain⟨h1,h2⟩:=hr.heap.less (zfq j st);exact⟨h1,λi=>h2 _ _ (hr.slots i),hr.size,hr.defers,hr.glob⟩
def AA.unlock(hr:AA C w0 outer own ρ st a w)(b:St):AA C w0 outer own ρ (Go.D.unlock b st) a w:=by
 obtain⟨h1,h2⟩:=hr.heap.less (zeF b st);exact⟨h1,λi=>h2 _ _ (hr.slots i),hr.size,hr.defers,hr.glob⟩
omit [aA]in
def zeg{n:Nat}(hk:OB n (LB j b).h st'.h):OB n b.h (unlock b st').h:=λr row hn hr hm=>by
 have h1:(LB j b).h r=some row:=by
  simp only[LB,hr,hm,cond_false]
 have h2:=hk r row hn h1 hm;simp only[unlock,h2,hr];obtain⟨c,m⟩:=row;cases m with
 | own=>cases hm
 | ro=>rfl
 | lock=>rfl
 | tlk=>rfl
 | tre=>cases hm
omit [aA]in
def zfs(f:Nat→V)(s:Nat):∀(cs:List rB) (id:Nat) (x:iC cs),zC cs s=false→GE cs id x f s=f s:=by
 have one:∀(c:rB) (r:List rB) (id:Nat) (x:c.T) (f:Nat→V),zC (c :: r) s=false→zC r s=false∧zF c id x f s=f s:=by
  intro c r id x f h;cases c with
  | slot s' ty=>
   simp only[zC,Bool.or_eq_false_iff]at h;refine⟨h.2,kA _ _ _ _ ?_⟩;rintro rfl;simp at h
  | own s' t tr=>
   simp only[zC,Bool.or_eq_false_iff]at h;refine⟨h.2,kA _ _ _ _ ?_⟩;rintro rfl;simp at h
  | box s' t ow=>exact⟨h,rfl⟩
  | drop s'=>exact⟨h,rfl⟩
 intro cs;induction cs with
 | nil=>intro id x _;rfl
 | cons c cs ih=>
  intro id x h;cases cs with
  | nil=>exact(one c [] id x f h).2
  | cons d r=>
   obtain⟨h1,h2⟩:=one c (d :: r) id x.1 (GE (d :: r) (id+128) x.2 f) h;simp only[GE];rw[h2];exact ih (id+128) x.2 h1
omit [aA]in
def rM(j:JI)(b:St)(x:iC j.cs)(s:Nat)(h:j.has s=false):(install j b x).s s=b.s s:=by
 simp only[JI.has,Bool.or_eq_false_iff]at h;show GE j.cs b.nx x _ s=_
 rw[zfs _ _ _ _ _ h.2,h.1];rfl
end
end Go.D
namespace Go.D
variable [aA]
structure mB(C:Cx)(w0:World)(outer:Nat→Prop)(own:Ow)(D:Nat→Prop)(st:St)(a:Act)(ρ:Nat→Option RI)(st':St)(a':Act)(w':World)(ρ':Nat→Option RI):Prop where
 rel:AA C w0 outer own ρ' st' a' w'
 ext:∀q qi,ρ q=some qi→ρ' q=some qi
 slots:∀s,¬D s→st'.s s=st.s s
 keeps:OB st.nx st.h st'.h
 nx:st.nx≤st'.nx
 fresh:∀q,st'.nx≤q→ρ' q=none
 vals:∀s,¬D s→a'.tmps.getD s undef=a.tmps.getD s undef
section
variable {C:Cx} {w0:World} {outer D:Nat→Prop} {own:Ow} {R:Type}
def zhM{w:World}{ρ:Nat→Option RI}{bad:Nat→Prop}{v:Value}(h:VR w ρ bad v (.tup [])):v=undef:=by
 cases h with
 | tup _ vs hs hv=>
  have:vs= #[]:=by simpa using hs
  subst this;rfl
omit [aA]in
def zff{ops:Array Oper}{tmps:Array Value}{j dj:Nat}(h:(ops[j]?).bind (·.dst)=some dj)(vV:dj<tmps.size):
  yielded ops tmps j=match tmps.getD dj undef with | .bool b=>some b | _=>none:=by
 unfold yielded;rw[h];simp only[Option.bind_some,Array.getElem?_eq_getElem vV,Array.getD_eq_getD_getElem?,Option.getD_some];split<;>split<;>simp_all
omit [aA]in
def zgC(ops:Array Oper){k:Nat}(hk:k<ops.size):OD k (ops.toList.drop k)=(k,ops[k]) :: OD (k+1) (ops.toList.drop (k+1)):=by
 rw[List.drop_eq_getElem_cons (by simpa using hk)];rfl
omit [aA]in
def zgm(f:Nat→V)(i:Nat)(v:V)(h:f i=v):cA f i v=f:=by
 funext q
 by_cases hq:q=i
 ·subst hq;rw[tA,h]
 ·rw[kA _ _ _ _ hq]
omit [aA]in
def HS{P:Program}{a:Act}{w:World}{o:Oper}{post:Act→World→Prop}(h:yB P o a w post)(hd:∀a' w',post a' w'→a'.defers=[]):
  yB P o a w λa' w'=>post a' w'∧∃v,a'=a.put o.dst v:=by
 intro next Q hn;have h0:=h post Q λ_ _ h=>h;unfold Oper.wp at *;generalize (execOp a.eval o).run P w=x at *;have put:∀v w',post (a.put o.dst v) w'→next (a.put o.dst v) w':=λv w' hp=>hn _ _ ⟨hp,v,rfl⟩;cases x with
 | ok n w'=>
  have nodef:∀d w',post ({a with defers:=d :: a.defers}.put o.dst undef) w'→False:=λd w' hp=>by
   have:=hd _ _ hp
   revert this
   cases o.dst<;>simp[Act.put]
  cases n<;>simp only[Oper.upon]at h0⊢ <;>first
   | exact put _ _ h0
   | exact Calls.mono' h0 λe w'' he=>by cases e<;>first | exact put _ _ he | exact he
   | exact h0.mono λ_ _ he=>put _ _ he
   | exact(nodef _ _ h0).elim
   | exact h0
 | halt x w'=>cases x<;>simp only[Oper.upon]at h0⊢ <;>exact h0
omit [aA]in
def ZR{a:Act}{dst:Option Nat}{v:Value}{s:Nat}(h:dst≠some s):(a.put dst v).tmps.getD s undef=a.tmps.getD s undef:=by
 cases dst with
 | none=>rfl
 | some d=>
  simp only[Act.put,Array.getD_eq_getD_getElem?];rw[Array.getElem?_setIfInBounds_ne];rintro rfl;exact h rfl
def aT(hC:VC C)(hΦ:cD C){ops:Array Oper}{Q:Exit→Act→World→Prop}{K:St→Option R}{r:R}(nx:Nat)(hD:∀o∈ops,∀d,o.dst=some d→D d):∀(m k:Nat) (st:St) (a:Act) (w:World) (ρ:Nat→Option RI),
  k+m=ops.size→AA C w0 outer own ρ st a w→(∀q,nx+128 *k≤q→ρ q=none)→sG C ops nx (OD k (ops.toList.drop k)) st K=some r→
  (∀ st' a' w' ρ',AA C w0 outer own ρ' st' a' w'→(∀ q,nx+128 *ops.size≤q→ρ' q=none)→(∀ q qi,ρ q=some qi→ρ' q=some qi)→(∀ s,¬ D s→st'.s s=st.s s)→OB nx st.h st'.h→st'.nx=st.nx→(∀ s,¬ D s→a'.tmps.getD s undef=a.tmps.getD s undef)→
   K st'=some r→Q .normal a' w')→wpOps C.P ops Q (List.range' k m) a w
 | 0,k,st,a,w,ρ,hk,hr,hf,qV,rV=>by
  have:ops.toList.drop k=[]:=List.drop_eq_nil_of_le (by simp;omega);rw[this]at qV;exact rV st a w ρ hr (λq hq=>hf q (by omega)) (λ_ _ h=>h) (λ_ _=>rfl) (OB.refl _ _) rfl (λ_ _=>rfl) qV
 | m+1,k,st,a,w,ρ,hk,hr,hf,qV,rV=>by
  have vV:k<ops.size:=by omega
  have ho:ops[k]?=some ops[k]:=Array.getElem?_eq_getElem vV;rw[zgC ops vV]at qV;rw[List.range'_succ];simp only[wpOps,ho];have L4:∀d,(ops[k]).dst=some d→D d:=hD _ (Array.getElem_mem vV)
  -- a step
  have step:∀(st0:St),AA C w0 outer own ρ st0 a w→st0.h=st.h→st0.nx=st.nx→(∀s,¬D s→st0.s s=st.s s)→(OA C (nx+128 *k) ops[k] st0 λst'=>sG C ops nx (OD (k+1) (ops.toList.drop (k+1))) st' K)=some r→
    (ops[k]).wp C.P a w (wpOps C.P ops Q (List.range' (k+1) m)) Q:=by
   intro st0 nZ hh0 T6 NX qV;rw[MI]at qV;obtain⟨st1,h1,h2⟩:=Option.bind_eq_some_iff.1 qV;have L:=zac (n:=nx) (i:=nx+128 *k) (by omega) ops[k] st1 h1;refine HS (dT nZ hC hΦ ⟨_,hf⟩ (λq _=>hf _ (by omega)) h1) (λa' w' ⟨ρ',h,_⟩=>h.defers) _ Q λa1 w1 hA=>?_;obtain⟨⟨ρ1,tW,hE,hx⟩,v,hv⟩:=hA;refine aT hC hΦ nx hD m (k+1) st1 a1 w1 ρ1 (by omega) tW (λq hq=>by rw[hE q (by omega)];exact hf q (by omega)) h2 λst' a' w' ρ' p1 p2 p3 p4 p5 p6 p8 p7=>?_;refine rV st' a' w' ρ' p1 p2 (λq qi hq=>p3 _ _ (hx q qi hq)) (λs hs=>?_) ?_ (p6.trans (L.nx.trans T6)) (λs hs=>by rw[p8 s hs,hv];exact ZR (λe=>hs (L4 s e))) p7
   ·rw[p4 s hs,L.slots s (λe=>hs (L4 s e)),NX s hs]
   ·rw[←hh0];exact L.rows.trans p5
  have skip:(DA C (ops[k]).dst st (.tup []) λst'=>sG C ops nx (OD (k+1) (ops.toList.drop (k+1))) st' K)=some r→wpOps C.P ops Q (List.range' (k+1) m) (a.put (ops[k]).dst undef) w:=by
   intro qV;rw[pL]at qV;obtain⟨st1,h1,h2⟩:=Option.bind_eq_some_iff.1 qV;have L:=SP (π:=λr=>r<nx) (V.tup []) st1 h1;obtain⟨p1,_,_⟩:=hr.put (v:=undef) (d:= .tup []) (.tup [] #[] rfl λj hj=>by simp at hj) h1;refine aT hC hΦ nx hD m (k+1) st1 _ w ρ (by omega) p1 (λq hq=>hf q (by omega)) h2 λst' a' w' ρ' q1 q2 q3 q4 q5 q6 q8 q7=>?_;refine rV st' a' w' ρ' q1 q2 q3 (λs hs=>?_) (L.rows.trans q5) (q6.trans L.nx) (λs hs=>by rw[q8 s hs];exact ZR (λe=>hs (L4 s e))) q7;rw[q4 s hs,L.slots s (λe=>hs (L4 s e))]
  simp only[sG]at qV;split at qV
  ·rename_i hg;rw[if_pos (by simp[Region.wanted,hg])];exact .inl (step st hr rfl rfl (λ_ _=>rfl) qV)
  ·rename_i j want hg;split at qV
   ·cases qV
   rename_i dj tY
   have hDj:D dj:=by
    obtain⟨oj,h1,h2⟩:=Option.bind_eq_some_iff.1 tY;exact hD oj (Array.mem_of_getElem? h1) dj h2
   have hv:=hr.slots dj
   have hyn:∀v,a.tmps.getD dj undef=v→(∀b,v≠ .bool b)→yielded ops a.tmps j=none:=λv hv hn=>by
    unfold yielded;rw[tY];simp only[Option.bind_some];split
    ·rename_i b hb;rw[Array.getD_eq_getD_getElem?,hb]at hv;exact absurd hv.symm (hn b)
    ·rfl
   split at qV
   ·rename_i hs;rw[hs]at hv;have hy:=hyn _ (zhM hv) (λb h=>by cases h);rw[if_neg (by simp[Region.wanted,hg,hy])];exact skip qV
   ·rename_i t hs;rw[hs]at hv
    have hb:a.tmps.getD dj undef= .bool t:=by
     generalize a.tmps.getD dj undef=v at hv;cases hv;rfl
    have KW:dj<a.tmps.size:=by
     rcases Nat.lt_or_ge dj a.tmps.size with h | h
     ·exact h
     ·rw[Array.getD_eq_getD_getElem?,Array.getElem?_eq_none h]at hb;cases hb
    have hy:yielded ops a.tmps j=some t:=by rw[zff tY KW,hb]
    have YW:({st with s:=cA st.s dj (.bool t)}:St)=st:=by rw[zgm _ _ _ hs]
    have hw:Region.wanted ops[k] (yielded ops a.tmps)=(t==want):=by
     simp only[Region.wanted,hg,hy];cases t<;>cases want<;>rfl
    rw[hw]
    have qV:(bif t==want then OA C (nx+128 *k) ops[k] {st with s:=cA st.s dj (.bool t)} λst'=>sG C ops nx (OD (k+1) (ops.toList.drop (k+1))) st' K
      else DA C (ops[k]).dst {st with s:=cA st.s dj (.bool t)} (.tup []) λst'=>sG C ops nx (OD (k+1) (ops.toList.drop (k+1))) st' K)=some r:=by
     cases t<;>exact qV
    rw[YW]at qV;cases M4:t==want
    ·rw[M4]at qV;simp only[Bool.false_eq_true,if_false];exact skip qV
    ·rw[M4]at qV;simp only[if_true];exact .inl (step st hr rfl rfl (λ_ _=>rfl) qV)
   ·cases qV
end
end Go.D
namespace Go.D
variable [aA]
def JD(D:Nat→Prop):Option JI→Prop
 | none=>True
 | some j=>∀s,j.has s=true→D s
def gF(an:An)(D:Nat→Prop):Code→Prop
 | .region id ops _=>(∀o∈ops,∀d,o.dst=some d→D d)∧JD D (KA id an.r)
 | .seq a b=>gF an D a∧gF an D b
 | .cond (.tmp t) a b=>gF an D a∧gF an D b∧JD D (KA (eT t a b) an.c)
 | .cond _ a b=>gF an D a∧gF an D b
 | .block id b=>gF an D b∧JD D (KA id an.b)
 | .loop b=>gF an D b∧match wG b with
  | some rid=>JD D (KA rid an.l)
  | none=>True
 | .scope b=>gF an D b
 | _=>True
omit [aA]in
def PM:∀(cs:List rB) (s:Nat),zC cs s=true→∃c∈cs,(∃ty,c= .slot s ty)∨∃t tr,c= .own s t tr
 | [],s,h=>by simp[zC]at h
 | .slot s' ty :: r,s,h=>by
  simp only[zC,Bool.or_eq_true]at h
  rcases h with h | h
  ·have:=Nat.eq_of_beq_eq_true h;subst this;exact⟨_,by simp, .inl ⟨ty,rfl⟩⟩
  ·obtain⟨c,h1,h2⟩:=PM r s h;exact⟨c,by simp[h1],h2⟩
 | .own s' t tr :: r,s,h=>by
  simp only[zC,Bool.or_eq_true]at h
  rcases h with h | h
  ·have:=Nat.eq_of_beq_eq_true h;subst this;exact⟨_,by simp, .inr ⟨t,tr,rfl⟩⟩
  ·obtain⟨c,h1,h2⟩:=PM r s h;exact⟨c,by simp[h1],h2⟩
 | .drop s' :: r,s,h=>by
  obtain⟨c,h1,h2⟩:=PM r s h;exact⟨c,by simp[h1],h2⟩
 | .box s' t ow :: r,s,h=>by
  obtain⟨c,h1,h2⟩:=PM r s h;exact⟨c,by simp[h1],h2⟩
omit [aA]in
def kQ(j:JI)(o:Option JI)(h:fits j o=true):JD (λs=>j.has s=true) o:=by
 cases o with
 | none=>trivial
 | some i=>
  simp only[fits,Bool.and_eq_true,List.all_eq_true]at h;intro s hs;simp only[JI.has,Bool.or_eq_true]at hs
  rcases hs with hs | hs
  ·obtain⟨p,hp,Z7⟩:=List.any_eq_true.1 hs;simp only[Bool.and_eq_true,Nat.ble_eq]at Z7;have h1:=h.1 p hp;simp only[zbN,Bool.or_eq_true,Bool.and_eq_true]at h1
   rcases h1 with h1 | ⟨h1,h2⟩
   ·obtain⟨q,hq,X0⟩:=List.any_eq_true.1 h1;simp only[Bool.and_eq_true,Nat.ble_eq]at X0;have:dJ j.kill s=true:=List.any_eq_true.2 ⟨q,hq,by simp only[Bool.and_eq_true,Nat.ble_eq];omega⟩;simp[JI.has,this]
   ·have:=Nat.eq_of_beq_eq_true h1;have C1:s=p.1:=by omega
    subst C1;simp[JI.has,h2]
  ·obtain⟨c,h1,h2⟩:=PM _ _ hs;have h3:=h.2 c h1
   rcases h2 with⟨ty,rfl⟩ | ⟨t,tr,rfl⟩<;>exact h3
omit [aA]in
def IE(an:An)(j:JI):∀(c:Code),Code.within an j c=true→gF an (λs=>j.has s=true) c
 | .region id ops d,h=>by
  simp only[Code.within,Bool.and_eq_true,List.all_eq_true]at h;refine⟨λo ho d hd=>?_,kQ j _ h.2⟩;have:=h.1 o (by simpa using ho);rw[hd]at this;exact this
 | .seq a b,h=>by
  simp only[Code.within,Bool.and_eq_true]at h;exact⟨IE an j a h.1,IE an j b h.2⟩
 | .cond c a b,h=>by
  cases c with
  | tmp t=>
   simp only[Code.within,Bool.and_eq_true]at h;exact⟨IE an j a h.1.1,IE an j b h.1.2,kQ j _ h.2⟩
  | _=>
   simp only[Code.within,Bool.and_eq_true]at h;exact⟨IE an j a h.1,IE an j b h.2⟩
 | .block id b,h=>by
  simp only[Code.within,Bool.and_eq_true]at h;exact⟨IE an j b h.1,kQ j _ h.2⟩
 | .loop b,h=>by
  simp only[Code.within,Bool.and_eq_true]at h;refine⟨IE an j b h.1,?_⟩;have h2:=h.2;split
  ·rename_i rid hr;rw[hr]at h2;exact kQ j _ h2
  ·trivial
 | .scope b,h=>IE an j b h
 | .skip,_=>trivial
 | .exit _,_=>trivial
 | .ret,_=>trivial
 | .label _,_=>trivial
 | .goto _,_=>trivial
 | .refuse _,_=>trivial
 | .rangeFunc _ _ _ _,_=>trivial
end Go.D

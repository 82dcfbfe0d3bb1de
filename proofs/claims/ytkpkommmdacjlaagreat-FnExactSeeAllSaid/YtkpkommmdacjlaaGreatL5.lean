/-
 The plain semantics of whole bodies: regions, branches that meet again, loops. What meets again meets by a tuple of plain data.
-/
import Derived.Test.YtkpkommmdacjlaaGreatL4
set_option linter.all false
namespace Go.D
open Option renaming bind→ob
noncomputable section
variable [aA]
inductive Ty where
 | v (t:TN)
 | sl (t:TN)
 | raw
 | cells (t:TN)
  | pt (t:TN)
  | c1 (g:Nat) (t:TN)
 | p1 (g:Nat) (t:TN)
 | c2 (g h:Nat) (t:TN)
@[reducible] def Ty.T:Ty→Type
 | .v t=>El t
 | .sl t=>List (El t)
 | .raw=>V
 | .cells t=>El t
 | .pt t=>El t
 | .c1 _ t=>El t
 | .p1 _ t=>El t
 | .c2 _ _ t=>El t×El t
def zE(t:TN)(a:El t):V:=bif t.isAgg then .agg (enc t a)else match enc t a with
 | c :: _=>c
 | []=> .undef
def rB:(t:Ty)→t.T→V
 | .v t,a=>zE t a
 | .sl t,l=> .sl t l
 | .raw,v=>v
 | .cells t,a=> .agg (enc t a)
 | .pt t,a=> .fp (enc t a) 0
 | .c1 g t,a=> .fn g [.fp (enc t a) 0]
 | .p1 g t,a=> .fp [.fn g [.fp (enc t a) 0]] 0
 | .c2 g h t,a=> .fn g [.fp [.fn h [.fp (enc t a.1) 0]] 0, .fp (enc t a.2) 0]
def pC:(t:Ty)→V→Option t.T
 | .v t,v=>match v with
  | .agg cs=>bif t.isAgg then vB t cs else none
  | v=>bif t.isAgg then none else vB t [v]
 | .sl t,v=>yA t v
 | .raw,v=>some v
 | .cells t,v=>match v with
  | .agg cs=>vB t cs
  | _=>none
 | .pt t,v=>match v with
  | .fp cs 0=>vB t cs
  | _=>none
 | .c1 g t,v=>match v with
  | .fn g' [.fp cs 0]=>bif Nat.beq g' g then vB t cs else none
  | _=>none
 | .p1 g t,v=>match v with
  | .fp [.fn g' [.fp cs 0]] 0=>bif Nat.beq g' g then vB t cs else none
  | _=>none
 | .c2 g h t,v=>match v with
  | .fn g' [.fp [.fn h' [.fp cs 0]] 0, .fp ds 0]=>bif Nat.beq g' g&&Nat.beq h' h then ob (vB t cs) λx=>ob (vB t ds) λy=>some (x,y)else none
  | _=>none
inductive nB where
 | slot (s:Nat) (ty:Ty)
 | own (s:Nat) (t:TN) (tr:Bool:=false)
 | box (s:Nat) (t:TN) (own:List Nat)
  | drop (s:Nat)
@[reducible] def nB.T:nB→Type
 | .slot _ ty=>ty.T
 | .own _ t _=>List (El t)
 | .box _ t _=>El t
 | .drop _=>Unit
@[reducible] def UB:List nB→Type
 | []=>Unit
 | [c]=>c.T
 | c :: d :: r=>c.T×UB (d :: r)
@[reducible] def LA:List Ty→Type
 | []=>Unit
 | [c]=>c.T
 | c :: d :: r=>c.T×LA (d :: r)
def zB:(ts:List Ty)→List V→Option (LA ts)
 | [],[]=>some ()
 | [t],[v]=>pC t v
 | t :: d :: r,v :: vs=>ob (pC t v) λx=>ob (zB (d :: r) vs) λy=>some (x,y)
 | _,_=>none
def zA:(ts:List Ty)→LA ts→List V
 | [],_=>[]
 | [t],x=>[rB t x]
 | t :: d :: r,x=>rB t x.1 :: zA (d :: r) x.2
def nN:(t:Ty)→t.T→List V
 | .v t,a=>enc t a
 | .sl t,l=>[.sl t l]
 | .raw,v=>[v]
 | .cells t,a=>enc t a
 | .pt t,a=>[.fp (enc t a) 0]
 | .c1 g t,a=>[.fn g [.fp (enc t a) 0]]
 | .p1 g t,a=>[.fp [.fn g [.fp (enc t a) 0]] 0]
 | .c2 g h t,a=>[.fn g [.fp [.fn h [.fp (enc t a.1) 0]] 0, .fp (enc t a.2) 0]]
def fC:(ts:List Ty)→LA ts→List V
 | [],_=>[]
 | [t],x=>nN t x
 | t :: d :: r,x=>nN t x.1++fC (d :: r) x.2
def cE:(t:Ty)→List V→Option (t.T×List V)
 | .v t,vs=>(vB t (vs.take (sz t))).bind λa=>some (a,vs.drop (sz t))
 | .sl t,v :: vs=>(yA t v).bind λl=>some (l,vs)
 | .sl _,[]=>none
 | .raw,v :: vs=>some (v,vs)
 | .raw,[]=>none
 | .cells t,vs=>(vB t (vs.take (sz t))).bind λa=>some (a,vs.drop (sz t))
 | .pt _,_=>none
 | .c1 _ _,_=>none
 | .p1 _ _,_=>none
 | .c2 _ _ _,_=>none
def zG:(ts:List Ty)→List V→Option (LA ts)
 | [],[]=>some ()
 | [t],vs=>(cE t vs).bind λx=>match x.2 with
  | []=>some x.1
  | _=>none
 | t :: d :: r,vs=>(cE t vs).bind λx=>(zG (d :: r) x.2).bind λy=>some (x.1,y)
 | [],_ :: _=>none
structure JI where
 cs:List nB
 kill:List (Nat×Nat)
 pre:List Nat
structure An where
 c:List (Nat×JI)
 b:List (Nat×JI)
 l:List (Nat×JI)
 r:List (Nat×JI)
 d:List (Nat×List Nat)
inductive Ex where
 | normal
 | exit (id:Nat)
 | ret
def FU:Nat:=Classical.choose (⟨2^64,rfl⟩:∃n:Nat,n=2^64)
omit [aA]in
def vP:FU=2^64:=Classical.choose_spec (⟨2^64,rfl⟩:∃n:Nat,n=2^64)
section
variable {R:Type}
def KA{σ:Type}:Nat→(σ→(σ→Option R)→Option R)→σ→Option R
 | 0,_,_=>none
 | n+1,f,x=>f x (KA n f)
def DA{σ:Type}(k:σ→Option R)(b:(σ→Option R)→Option R):Option R:=b k
def JA{α:Type}(k:Nat):List (Nat×α)→Option α
 | []=>none
 | (j,x) :: r=>bif Nat.beq j k then some x else JA k r
def FN(tr:Bool)(h:Nat→Option fA)(t:TN):Option Nat→Bool
 | none=>true
 | some r=>match h r with
  | some ⟨_,m⟩=>xB tr t m
  | none=>false
def BJ:(c:nB)→St→(c.T→St→Option R)→Option R
 | .slot s ty,st,k=>match sD st.h (st.s s)with
  | some (v,ids)=>ob (pC ty v) λx=>k x {st with h:=dB st.h ids}
  | none=>none
 | .own s t tr,st,k=>match NF st.h t (st.s s)with
  | some (l,r)=>bif FN tr st.h t r then k l {st with h:=nD st.h r}else none
  | none=>none
 | .box s t own,st,k=>match st.s s with
  | .bp r 0=>match st.h r with
   | some ⟨.box cs, .own⟩=>match cC own 0 cs (cA st.h r none)with
    | some (cs',h')=>ob (vB t cs') λx=>k x {st with h:=h'}
    | none=>none
   | _=>none
  | _=>none
 | .drop _,st,k=>k () st
def PD:(cs:List nB)→St→(UB cs→Option R)→Option R
 | [],_,k=>k ()
 | [c],st,k=>BJ c st λx _=>k x
 | c :: d :: r,st,k=>BJ c st λx st'=>PD (d :: r) st' λy=>k (x,y)
def iE:V→Option Nat
 | .ow r=>some r
 | .ov r _ _ _=>some r
 | _=>none
def xE:(c:nB)→Nat→c.T→(Nat→V)→Nat→V
 | .slot s ty,_,x,f=>cA f s (rB ty x)
 | .own s _ _,id,_,f=>cA f s (.ow id)
 | .box ..,_,_,f=>f
 | .drop _,_,_,f=>f
def OD:(cs:List nB)→Nat→UB cs→(Nat→V)→Nat→V
 | [],_,_,f=>f
 | [c],id,x,f=>xE c id x f
 | c :: d :: r,id,x,f=>xE c id x.1 (OD (d :: r) (id+128) x.2 f)
def yF(sl:Nat→V):(c:nB)→Nat→c.T→(Nat→Option fA)→Nat→Option fA
 | .slot ..,_,_,h=>h
 | .own _ t tr,id,x,h=>cA h id (some ⟨.arr t x,WC tr⟩)
 | .box s t own,id,x,h=>match sl s with
  | .bp r 0=>cA (FA own id h 0 (enc t x)) r (some ⟨.box (wA own id 0 (enc t x)), .own⟩)
  | _=>h
 | .drop _,_,_,h=>h
def pH(sl:Nat→V):(cs:List nB)→Nat→UB cs→(Nat→Option fA)→Nat→Option fA
 | [],_,_,h=>h
 | [c],id,x,h=>yF sl c id x h
 | c :: d :: r,id,x,h=>yF sl c id x.1 (pH sl (d :: r) (id+128) x.2 h)
def fH(kill:List (Nat×Nat))(i:Nat):Bool:=kill.any λp=>Nat.ble p.1 i&&Nat.ble i p.2
def mC:List nB→Nat→Bool
 | [],_=>false
 | .slot s _ :: r,i=>Nat.beq s i||mC r i
 | .own s _ _ :: r,i=>Nat.beq s i||mC r i
 | .box .. :: r,i=>mC r i
 | .drop _ :: r,i=>mC r i
def RE(st:St)(r:Nat):nB→Bool
 | .slot .. =>false
 | .own s _ _=>match iE (st.s s)with | some r'=>Nat.beq r r' | none=>false
 | .box s _ _ | .drop s=>match st.s s with
  | .bp b 0=>Nat.beq r b||match st.h b with
   | some ⟨.box cs,_⟩=>cs.any λc=>match iE c with | some r'=>Nat.beq r r' | none=>false
   | _=>false
  | _=>false
def YF(cs:List nB)(st:St)(r:Nat):Bool:=cs.any (RE st r)
def jE(j:JI)(base:St):Nat→Option fA:=λr=>match base.h r with
 | some ⟨c,m⟩=>bif m.isOwn then bif YF j.cs base r then none else some ⟨c,m⟩else some ⟨c,m⟩
 | none=>none
def install(j:JI)(base:St)(x:UB j.cs):St:=
 { s:=OD j.cs base.nx x fun i=>bif fH j.kill i then .undef else base.s i
   h:=pH base.s j.cs base.nx x (jE j base)
   nx:=base.nx+128 *j.cs.length}
def EB(j:JI)(st:St):St:=
 { st with h:=fun r=>match st.h r with
   | some ⟨c,m⟩=>bif m.isOwn then bif YF j.cs st r then some ⟨c,m⟩else some ⟨c,m.locked⟩else some ⟨c,m⟩
   | none=>none}
def unlock(base st:St):St:=
 { st with h:=fun r=>match st.h r with
   | some ⟨c, .lock⟩=>match base.h r with
    | some ⟨_,m⟩=>bif m.isOwn then some ⟨c, .own⟩else some ⟨c, .lock⟩
    | _=>some ⟨c, .lock⟩
   | some ⟨c, .tlk⟩=>match base.h r with
    | some ⟨_,m⟩=>bif m.isOwn then some ⟨c, .tre⟩else some ⟨c, .tlk⟩
    | _=>some ⟨c, .tlk⟩
   | x=>x}
def sP(st:St)(s:Nat):Option (List Nat):=
 bif Nat.ble 1000000 s then
  match st.s (s - 1000000)with
  | .bp r _=>match st.h r with
   | some ⟨.box cs,_⟩=>match HC st.h cs with
    | some (_,ids)=>some ids
    | none=>none
   | _=>none
  | _=>none
 else match sD st.h (st.s s)with
  | some (_,ids)=>some ids
  | none=>none
def AF(pre:List Nat)(st:St):Option St:=
 match pre with
 | []=>some st
 | s :: r=>match sP st s with
  | some ids=>AF r {st with h:=dB st.h ids}
  | none=>none
def lF:Code→Option Nat
 | .region id _ _=>some id
 | .seq a b=>match lF a with
  | some i=>some i
  | none=>lF b
 | .cond _ a _=>lF a
 | .block _ b | .loop b | .scope b=>lF b
 | _=>none
def bP(t:Nat)(a b:Code):Nat:=t *65536+match lF a with
 | some i=>i+1
 | none=>match lF b with
  | some i=>i+1
  | none=>0
def JI.has(j:JI)(i:Nat):Bool:=fH j.kill i||mC j.cs i
def ES(kill:List (Nat×Nat))(j:JI)(p:Nat×Nat):Bool:=kill.any (λq=>Nat.ble q.1 p.1&&Nat.ble p.2 q.2)||(Nat.beq p.1 p.2&&mC j.cs p.1)
def zeh(j:JI):nB→Bool
 | .slot s _=>j.has s
 | .own s _ _=>j.has s
 | .box .. | .drop _=>true
def fits(j:JI):Option JI→Bool
 | none=>true
 | some i=>i.kill.all (ES j.kill j)&&i.cs.all (zeh j)
def Code.within(an:An)(j:JI):Code→Bool
 | .region id ops _=>ops.toList.all (λo=>match o.dst with | some d=>j.has d | none=>true)&&fits j (JA id an.r)
 | .seq a b=>Code.within an j a&&Code.within an j b
 | .cond (.tmp t) a b=>Code.within an j a&&Code.within an j b&&fits j (JA (bP t a b) an.c)
 | .cond _ a b=>Code.within an j a&&Code.within an j b
 | .block id b=>Code.within an j b&&fits j (JA id an.b)
 | .loop b=>Code.within an j b&&match lF b with
  | some rid=>fits j (JA rid an.l)
  | none=>true
 | .scope b=>Code.within an j b
 | _=>true
def aJ(j:JI):Bool:=j.cs.all λc=>match c with
 | .box s _ _ | .drop s=>!(j.has s)
 | _=>true
def pE:List nB→Bool
 | []=>true
 | .slot s _ :: r=>!(mC r s)&&pE r
 | .own s _ _ :: r=>!(mC r s)&&pE r
 | .box .. :: r=>pE r
 | .drop _ :: r=>pE r
def TD(an:An)(j:JI)(c:Code):Bool:=Code.within an j c&&aJ j&&pE j.cs
variable (C:Cx)
def dF(ops:Array Oper)(nx:Nat):List (Nat×Oper)→St→(St→Option R)→Option R
 | [],st,K=>K st
 | (i,o) :: rest,st,K=>
  match o.guard with
  | none=>OA C (nx+128 *i) o st λst'=>dF ops nx rest st' K
  | some (j,want)=>match(ops[j]?).bind (·.dst)with
   | none=>none
   | some dj=>match st.s dj with
    | .tup []=>AA C o.dst st (.tup []) λst'=>dF ops nx rest st' K
    | .bool t=>
     let G:Bool→Option R:=λb=>
      let st:={st with s:=cA st.s dj (.bool b)}
      gd (b==want) (OA C (nx+128 *i) o st λst'=>dF ops nx rest st' K) (AA C o.dst st (.tup []) λst'=>dF ops nx rest st' K)
     cond t (G true) (G false)
    | _=>none
def jD{α:Type}:Nat→List α→List (Nat×α)
 | _,[]=>[]
 | i,x :: r=>(i,x) :: jD (i+1) r
structure MB where
 i:Nat
 dst:Option Nat
 ls:List Nat
 rd:List Nat
 wr:List Nat
def RB(r:Nat)(l:List Nat):Bool:=l.any (Nat.beq r)
def hJ:Option fA→Option fA
 | some ⟨c, .own⟩=>some ⟨c, .lock⟩
 | some ⟨_, .tre⟩=>none
 | some ⟨_, .tlk⟩=>none
 | x=>x
def yD(rd wr:List Nat)(h:Nat→Option fA):Nat→Option fA:=λr=>bif RB r wr then h r else bif RB r rd then hJ (h r)else none
def cG(ls:List Nat)(s:Nat→V):Nat→V:=λt=>bif RB t ls then s t else .undef
def rE(b r:Nat):Bool:=Nat.ble b r&&Nat.blt r (b+128)
def fG(b:Nat)(wr:List Nat)(h h':Nat→Option fA):Nat→Option fA:=λr=>bif RB r wr||rE b r then h' r else h r
def JG(dst:Option Nat)(s s':Nat→V):Nat→V:=match dst with
 | none=>s
 | some d=>cA s d (s' d)
def pD(b:Nat)(o:Oper)(ls rd wr:List Nat)(st:St)(K:St→Option R):Option R:=
 OA C b o {s:=cG ls st.s,h:=yD rd wr st.h,nx:=st.nx} λst'=>K {s:=JG o.dst st.s st'.s,h:=fG b wr st.h st'.h,nx:=st.nx}
def NE:V→List Nat
 | .ow r=>[r]
 | .ov r _ _ _=>[r]
 | .bp r _=>[r]
 | .ep r _ _ _=>[r]
 | _=>[]
def fP:V→List Nat
 | .agg cs=>cs.flatMap NE
 | v=>NE v
def nT(h:Nat→Option fA):V→List Nat
 | .bp r _=>r :: match h r with
  | some ⟨.box cs,_⟩=>cs.flatMap NE
  | _=>[]
 | v=>fP v
def iT(h:Nat→Option fA)(r:Nat):Bool:=match h r with
 | some ⟨_, .ro⟩=>true
 | _=>false
def RM(h:Nat→Option fA)(l:List Nat):List Nat×List Nat:=(l.filter (iT h),l.filter λr=>!iT h r)
def BS(h:Nat→Option fA)(r:Nat):Bool:=match h r with
 | some ⟨_, .tre⟩=>true
 | some ⟨_, .tlk⟩=>true
 | _=>false
def xP(o:Oper)(st:St):List Nat×List Nat:=
 match o.op with
 | .load _ a=>(NE (opd st.s a),[])
 | .store _ a x=>match opd st.s a with
  | .ep r _ _ _=>let p:=RM st.h (fP (opd st.s x));(p.1,r :: p.2)
  | v=>([],NE v)
 | .slice _ x _ _ _=>(NE (opd st.s x),[])
 | .indexAddr _ x _=>(NE (opd st.s x),[])
 | .convert _ _ x=>(NE (opd st.s x),[])
 | .buildSlice _ _ ps=>RM st.h (ps.toList.flatMap λp=>fP (opd st.s p.2))
 | .makeFunc _ _ cs=>RM st.h (cs.toList.flatMap λx=>nT st.h (opd st.s x))
 | .call {callee:= .builtin .append,args,argTypes:=_}=>match args.toList with
  | [x,y]=>(NE (opd st.s y),NE (opd st.s x))
  | _=>([],[])
 | .call {callee:= .builtin _,args,argTypes:=_}=>(args.toList.flatMap λx=>NE (opd st.s x),[])
 | .call {callee:=_,args,argTypes:=_}=>RM st.h (args.toList.flatMap λx=>nT st.h (opd st.s x))
 | _=>([],[])
def DE(o:Oper)(st:St):List Nat×List Nat:=((xP o st).1.filter λr=>!(BS st.h r),(xP o st).2++(xP o st).1.filter (BS st.h))
def aH(o:Oper):List Nat:=o.op.operands.toList.filterMap λx=>match x with
 | .tmp t=>some t
 | _=>none
def pN(d:Option Nat)(l:List Nat):Bool:=match d with
 | some d=>RB d l
 | none=>false
def WE(nx:Nat)(e1 e:MB):Bool:=
 !(pN e1.dst e.ls)&&!(pN e.dst e1.ls)&&!(pN e1.dst e.dst.toList)&&
 e1.wr.all (λr=>!(RB r e.rd)&&!(RB r e.wr))&&e.wr.all (λr=>!(RB r e1.rd))&&
 e.rd.all (λr=>!(rE (nx+128 *e1.i) r))&&e.wr.all (λr=>!(rE (nx+128 *e1.i) r))&&
 e1.rd.all (λr=>!(rE (nx+128 *e.i) r))&&e1.wr.all (λr=>!(rE (nx+128 *e.i) r))
def SE(mask nx:Nat)(rs:List MB)(e:MB):Bool:=rs.all λe1=>Nat.testBit mask e1.i||WE nx e1 e
def EK(ms:List Nat)(es:List Edge):Nat:=es.foldl (λs e=>bif Region.binds .any e then s|||(2^e.on|||ms.getD e.on 0)else s) 0
def JB:List Nat→List Oper→List Nat
 | ms,[]=>ms
 | ms,o :: r=>JB (ms++[EK ms o.after.toList]) r
def rS(i:Nat)(o:Oper):Bool:=o.after.toList.all λe=>!(Region.binds .any e)||Nat.blt e.on i
def XE(ops:Array Oper)(ms:List Nat)(nx:Nat):List (Nat×Oper)→List MB→St→(St→Option R)→Option R
 | [],_,st,K=>K st
 | (i,o) :: rest,rs,st,K=>
  gd (rS i o) (
  match o.guard with
  | none=>
   let f:=DE o st;let e:MB:=⟨i,o.dst,aH o,f.1,f.2⟩
   gd (SE (ms.getD i 0) nx rs e) (pD C (nx+128 *i) o e.ls e.rd e.wr st λst'=>XE ops ms nx rest (e :: rs) st' K) none
  | some (j,want)=>match(ops[j]?).bind (·.dst)with
   | none=>none
   | some dj=>
    let skip:St→Option R:=λst=>
     let e:MB:=⟨i,o.dst,[dj],[],[]⟩
     gd (SE (ms.getD i 0) nx rs e) (AA C o.dst st (.tup []) λst'=>XE ops ms nx rest (e :: rs) st' K) none
    match st.s dj with
    | .tup []=>skip st
    | .bool t=>
     let G:Bool→Option R:=λb=>
      let st:={st with s:=cA st.s dj (.bool b)}
      gd (b==want) (
       let f:=DE o st;let e:MB:=⟨i,o.dst,dj :: aH o,f.1,f.2⟩
       gd (SE (ms.getD i 0) nx rs e) (pD C (nx+128 *i) o e.ls e.rd e.wr st λst'=>XE ops ms nx rest (e :: rs) st' K) none) (skip st)
     cond t (G true) (G false)
    | _=>none) none
def zT(pre:List Nat)(ops:Array Oper)(st:St)(K:St→Option R):Option R:=
 match AF pre st with
 | none=>none
 | some st=>XE C ops (JB [] ops.toList) st.nx (jD 0 ops.toList) [] st λst'=>K {st' with nx:=st.nx+128 *ops.size}
def QK(pre:List Nat)(draw:Bool)(ops:Array Oper)(st:St)(K:St→Option R):Option R:=
 gd (draw) (zT C pre ops st K) (
 dF C ops st.nx (jD 0 ops.toList) st λst'=>K {st' with nx:=st.nx+128 *ops.size})
def PC (an:An):Code→St→(Ex→St→Option R)→Option R
 | .skip,st,K=>K .normal st
 | .region id ops d,st,K=>match JA id an.r with
  | none=>QK C ((JA id an.d).getD []) d ops st (K .normal)
  | some j=>match AF j.pre st with
   | none=>none
   | some st=>gd (TD an j (.region id ops d)) (
     DA (λy:UB j.cs=>K .normal (install j st y)) λk=>QK C ((JA id an.d).getD []) d ops (EB j st) λst'=>PD j.cs st' k) none
 | .seq a b,st,K=>PC an a st λe st'=>match e with
  | .normal=>PC an b st' K
  | e=>K e st'
 | .cond (.tmp t) a b,st,K=>match st.s t with
  | .bool x=>match JA (bP t a b) an.c with
   | none=>cond x (PC an a st K) (PC an b st K)
   | some j=>match AF j.pre st with
    | none=>none
    | some st=>gd (TD an j a&&TD an j b) (
      DA (λy:UB j.cs=>K .normal (install j st y)) λk=>
       let K':Ex→St→Option R:=λe st'=>match e with
        | .normal=>PD j.cs st' k
        | e=>K e (unlock st st')
       cond x (PC an a (EB j st) K') (PC an b (EB j st) K')) none
  | _=>none
 | .block id b,st,K=>match JA id an.b with
  | none=>PC an b st λe st'=>match e with
   | .exit id'=>gd (Nat.beq id' id) (K .normal st') (K e st')
   | e=>K e st'
  | some j=>match AF j.pre st with
   | none=>none
   | some st=>gd (TD an j b) (
     DA (λy:UB j.cs=>K .normal (install j st y)) λk=>
      PC an b (EB j st) λe st'=>match e with
       | .normal=>PD j.cs st' k
       | .exit id'=>gd (Nat.beq id' id) (PD j.cs st' k) (K e (unlock st st'))
       | e=>K e (unlock st st')) none
 | .loop b,st,K=>match lF b with
  | none=>none
  | some rid=>match JA rid an.l with
   | none=>none
   | some j=>match AF j.pre st with
    | none=>none
    | some st=>gd (TD an j b) (
      PD j.cs (EB j st) λx0=>KA FU (λ(x:UB j.cs) (k:UB j.cs→Option R)=>
       PC an b (EB j (install j st x)) λe st'=>match e with
        | .normal=>PD j.cs st' k
        | e=>K e (unlock (install j st x) st')) x0) none
 | .exit id,st,K=>K (.exit id) st
 | .ret,st,K=>K .ret st
 | _,_,_=>none
def GD(P:Program)(st:St):List ResultVar→List (Bool×Nat)→Option (List V)
 | [],[]=>some []
 | .tmp t :: r,(ag,n) :: sh=>match st.s t,GD P st r sh with
  | .agg cs,some vs=>bif ag&&Nat.beq n cs.length then some (cs++vs)else none
  | v,some vs=>bif !ag&&Nat.beq n 1&&v.leaf then some (v :: vs)else none
  | _,none=>none
 | .cell a t :: r,(ag,n) :: sh=>match st.s a,GD P st r sh,xC P t,oC P t with
  | .bp b 0,some vs,some ag',some n'=>match st.h b with
   | some ⟨.box cs,_⟩=>bif (ag==ag')&&Nat.beq n n'&&Nat.beq n cs.length&&(ag||Nat.beq n 1)then some (cs++vs)else none
   | _=>none
  | _,_,_,_=>none
 | _,_=>none
def aD(st:St):List GA→List V→Nat→Option (List V)
 | .plain :: ks,_ :: as,k=>aD st ks as (k+1)
 | .mv _ :: ks,_ :: as,k=>aD st ks as (k+1)
 | .ms :: ks,_ :: as,k=>aD st ks as (k+1)
 | .ptr _ :: ks, .agg cs0 :: as,k=>match st.h (128 *k+127),aD st ks as (k+1)with
  | some ⟨.box cs, .own⟩,some vs=>bif Nat.beq cs.length cs0.length then some (cs++vs)else none
  | _,_=>none
 | [],[],_=>some []
 | _,_,_=>none
def RA:List GA→List Ty→Bool
 | [],[]=>true
 | .plain :: ks,_ :: ts=>RA ks ts
 | .ptr ow :: ks, .cells t :: ts=>Nat.ble (sz t) 127&&noTre ow&&RA ks ts
 | .mv ow :: ks, .v t :: ts=>t.isAgg&&Nat.ble (sz t) 127&&noTre ow&&RA ks ts
 | .ms :: ks, .sl _ :: ts=>RA ks ts
 | _,_=>false
def IK(fn:Func)(body:Code)(an:An)(ks:List GA)(own:List Nat)(shape:List (Bool×Nat))(ts:List Ty)(as:List V):Option (LA ts):=
 PC C an body {s:=λi=>match(UA ks 0 as).drop i with | v :: _=>v | []=> .undef,h:=lA ks 0 as,nx:=128 *ks.length} λe st=>
  match e with
  | .exit _=>none
  | _=>match GD C.P st fn.results.toList shape,aD st ks as 0 with
   | some vs,some us=>match cC own 0 (vs++us) st.h with
    | some (rs,_)=>zG ts rs
    | none=>none
   | _,_=>none
end
end
end Go.D
namespace Go.D
variable [aA]
section
variable {C:Cx} {w0:World} {outer:Nat→Prop} {own:Ow} {ρ:Nat→Option RI} {st st':St} {a:Act} {w:World} {R:Type}
omit [aA]in
def wH(ow:List Nat):∀(cs:List V) (p:Nat) (h:Nat→Option fA) (x:List V×(Nat→Option fA)),cC ow p cs h=some x→x.1.length=cs.length
 | [],p,h,x,ht=>by simp[cC]at ht;subst ht;rfl
 | c :: cs,p,h,x,ht=>by
  simp only[cC]at ht;cases hb:ow.any (Nat.beq p)
  ·simp only[hb,cond_false]at ht;split at ht
   case h_2=>cases ht
   split at ht
   case h_2=>cases ht
   rename_i hr;have k:=wH ow cs (p+1) _ _ hr;cases ht;simpa using k
  ·simp only[hb,cond_true]at ht;split at ht
   ·split at ht
    case h_2=>cases ht
    rename_i t0 l0 m0 _;cases QV:xB (qD ow p) t0 m0
    case false=>simp[QV]at ht
    simp only[QV,cond_true]at ht;split at ht
    case h_2=>cases ht
    rename_i hr;have k:=wH ow cs (p+1) _ _ hr;cases ht;simpa using k
   ·split at ht
    case h_2=>cases ht
    rename_i hr;have k:=wH ow cs (p+1) _ _ hr;cases ht;simpa using k
   ·split at ht
    case h_2=>cases ht
    rename_i t0 l0 m0 _;cases QV:xB (qD ow p) t0 m0
    case false=>simp[QV]at ht
    simp only[QV,cond_true]at ht;split at ht
    case h_2=>cases ht
    rename_i hr;have k:=wH ow cs (p+1) _ _ hr;cases ht;simpa using k
   ·cases ht
def vF(w:World)(ρ:Nat→Option RI)(bad:Nat→Prop)(g:Nat→Option fA)(tv:Nat→Value)(sl:Nat→V):(c:nB)→Nat→c.T→Prop
 | .slot s ty,_,x=>VR w ρ bad (tv s) (rB ty x)∧tB (rB ty x)
 | .own s t tr,id,x=>VR w ρ bad (tv s) (.ow id)∧g id=some ⟨.arr t x,WC tr⟩
 | .drop _,_,_=>True
 | .box s t ow,id,x=>∃r,sl s= .bp r 0∧g r=some ⟨.box (wA ow id 0 (enc t x)), .own⟩∧∀q,q<128→g (id+q)=FA ow id (λ_=>none) 0 (enc t x) (id+q)
omit [aA]in
def zhc{v:V}{ds:List V}(h:YA [v] ds):∃d,ds=[d]∧tD v d:=by
 cases h with
 | cons h1 h2=>cases h2;exact⟨_,rfl,h1⟩
omit [aA]in
def zdn(t:TN)(x:El t):0<(enc t x).length:=by rw[WA];exact wE t
def BK{t:TN}{cs:List V}{x:El t}{bad:Nat→Prop}{u:Value}(hd:vB t cs=some x)(hv:VR w ρ bad u (.fp cs 0)):VR w ρ bad u (.fp (enc t x) 0):=by
 have hs:=wC t hd;cases hv with
 | fp _ off b o u h0 hb hu hv=>
 exact .fp _ _ b o u (zdn t x) hb (λj hj=>hu j (by rw[hs.len];exact hj)) λj hj=>VR.sub (hs.get j (by rw[hs.len];exact hj) hj) (hv j (by rw[hs.len];exact hj))
def UP{bad:Nat→Prop}{u:Value}{g:Nat}{c d:V}(h:∀u',VR w ρ bad u' c→VR w ρ bad u' d)(hv:VR w ρ bad u (.fn g [c])):VR w ρ bad u (.fn g [d]):=by
 cases hv with
 | fn _ _ caps hs hv=>
 exact .fn _ _ caps hs λj hj=>by
  have:j=0:=by simp at hj;omega
  subst this;exact h _ (hv 0 (by simp))
def fn2{bad:Nat→Prop}{u:Value}{g:Nat}{c d c' d':V}(h:∀u',VR w ρ bad u' c→VR w ρ bad u' d)(h':∀u',VR w ρ bad u' c'→VR w ρ bad u' d')(hv:VR w ρ bad u (.fn g [c,c'])):VR w ρ bad u (.fn g [d,d']):=by
 cases hv with
 | fn _ _ caps hs hv=>
 exact .fn _ _ caps hs λj hj=>by
  match j,hj with
  | 0,_=>exact h _ (hv 0 (by simp))
  | 1,_=>exact h' _ (hv 1 (by simp))
def UT{bad:Nat→Prop}{u:Value}{c d:V}(h:∀u',VR w ρ bad u' c→VR w ρ bad u' d)(hv:VR w ρ bad u (.fp [c] 0)):VR w ρ bad u (.fp [d] 0):=by
 cases hv with
 | fp _ off b o u h0 hb hu hv=>
 exact .fp _ _ b o u (by simp) hb (λj hj=>hu j hj) λj hj=>by
  have:j=0:=by simp at hj;omega
  subst this;exact h _ (hv 0 (by simp))
def LR(ty:Ty)(v:V)(x:ty.T){bad:Nat→Prop}{u:Value}(hd:pC ty v=some x)(hv:VR w ρ bad u v):VR w ρ bad u (rB ty x):=by
 cases ty with
 | v t=>
  simp only[pC]at hd;split at hd
  ·rename_i cs;cases cW:t.isAgg
   case false=>simp[cW]at hd
   simp only[cW,cond_true]at hd;have hs:=wC t hd;simp only[rB,zE,cW,cond_true];cases hv with
   | agg _ vs h1 h2=>
   refine .agg _ _ (by rw[h1];exact hs.len) λj hj=>VR.sub (hs.get j (by rw[hs.len];exact hj) hj) (h2 j (by rw[hs.len];exact hj))
  ·cases cW:t.isAgg
   case true=>simp[cW]at hd
   simp only[cW,cond_false]at hd;obtain⟨d,h1,h2⟩:=zhc (wC t hd);simp only[rB,zE,cW,cond_false,h1];exact VR.sub h2 hv
 | sl t=>exact VR.sub (EA hd) hv
 | raw=>simp only[pC,Option.some.injEq]at hd;subst hd;exact hv
 | cells t=>
  simp only[pC]at hd;split at hd
  ·have hs:=wC t hd;simp only[rB];cases hv with
   | agg _ vs h1 h2=>
   exact .agg _ _ (by rw[h1];exact hs.len) λj hj=>VR.sub (hs.get j (by rw[hs.len];exact hj) hj) (h2 j (by rw[hs.len];exact hj))
  ·cases hd
 | pt t=>
  simp only[pC]at hd;split at hd
  ·exact BK hd hv
  ·cases hd
 | c1 g t=>
  simp only[pC]at hd;split at hd
  ·rename_i g' cs;cases hg:Nat.beq g' g
   case false=>rw[hg]at hd;cases hd
   rw[hg,cond_true]at hd;have:=Nat.eq_of_beq_eq_true hg;subst this;exact UP (λ_=>BK hd) hv
  ·cases hd
 | p1 g t=>
  simp only[pC]at hd;split at hd
  ·rename_i g' cs;cases hg:Nat.beq g' g
   case false=>rw[hg]at hd;cases hd
   rw[hg,cond_true]at hd;have:=Nat.eq_of_beq_eq_true hg;subst this;exact UT (λ_=>UP λ_=>BK hd) hv
  ·cases hd
 | c2 g h t=>
  simp only[pC]at hd;split at hd
  ·rename_i g' h' cs ds;cases C3:Nat.beq g' g&&Nat.beq h' h
   case false=>rw[C3]at hd;cases hd
   rw[C3,cond_true]at hd;rw[Bool.and_eq_true]at C3;have:=Nat.eq_of_beq_eq_true C3.1;have h2:=Nat.eq_of_beq_eq_true C3.2;subst this h2;obtain⟨a,ha,hd⟩:=Option.bind_eq_some_iff.1 hd;obtain⟨b,hb,hd⟩:=Option.bind_eq_some_iff.1 hd;cases hd;exact fn2 (λ_=>UT λ_=>UP λ_=>BK ha) (λ_=>BK hb) hv
  ·cases hd
omit [aA]in
def sK(t:TN)(x:El t):tB (.fp (enc t x) 0):=λS=> .fp _ _ λj hj=>by
 have:=TF S t x j;rw[List.getD_eq_getElem?_getD,List.getElem?_eq_getElem hj]at this;exact this
omit [aA]in
def jO{g:Nat}{c:V}(h:tB c):tB (.fn g [c]):=λS=> .fn _ _ λj hj=>by
 have:j=0:=by simp at hj;omega
 subst this;exact h S
omit [aA]in
def zbw{g:Nat}{c d:V}(h:tB c)(h':tB d):tB (.fn g [c,d]):=λS=> .fn _ _ λj hj=>by
 match j,hj with
 | 0,_=>exact h S
 | 1,_=>exact h' S
omit [aA]in
def VQ{c:V}(h:tB c):tB (.fp [c] 0):=λS=> .fp _ _ λj hj=>by
 have:j=0:=by simp at hj;omega
 subst this;exact h S
omit [aA]in
def zaQ(ty:Ty)(v:V)(x:ty.T)(hd:pC ty v=some x)(hv:tB v):tB (rB ty x):=by
 cases ty with
 | v t=>
  intro S;simp only[rB,zE];cases cW:t.isAgg
  ·simp only[cond_false];split
   ·rename_i c r he;have:=TF S t x 0;rw[he]at this;exact this
   ·exact .undef
  ·refine .agg _ λj hj=>?_;have:=TF S t x j;rw[List.getD_eq_getElem?_getD,List.getElem?_eq_getElem hj]at this;exact this
 | sl t=>exact IF _ _
 | raw=>simp only[pC,Option.some.injEq]at hd;subst hd;exact hv
 | cells t=>
  intro S;simp only[rB];refine .agg _ λj hj=>?_;have:=TF S t x j;rw[List.getD_eq_getElem?_getD,List.getElem?_eq_getElem hj]at this;exact this
 | pt t=>exact sK t x
 | c1 g t=>exact jO (sK t x)
 | p1 g t=>exact VQ (jO (sK t x))
 | c2 g h t=>exact zbw (VQ (jO (sK t x.1))) (sK t x.2)
structure ZT(w0:World)(outer:Nat→Prop)(own:Ow)(w:World)(tv:Nat→Value)(c:nB)(id:Nat)(ρ:Nat→Option RI)(g:Nat→Option fA)(st1:St)(x:c.T)(st2:St)(ρ':Nat→Option RI)(g':Nat→Option fA):Prop where
 slots:st2.s=st1.s
 heap:BA w0 outer own ρ' g' w
 lies:WD st2.h g'
 less:∀q,st1.h q=none→st2.h q=none
 left:∀n,HB n st1.h st2.h
 out:∀q,Out id 128 q→ρ' q=ρ q∧(st1.h q=none→g' q=g q)
 ext:∀q qi,ρ q=some qi→ρ' q=some qi
 keep:∀u d,VR w ρ (bA outer ρ g) u d→VR w ρ' (bA outer ρ' g') u d
 ok:vF w ρ' (bA outer ρ' g') g' tv st1.s c id x
 gone:∀s t ow r,c= .box s t ow→st1.s s= .bp r 0→st2.h r=none∧Out id 128 r
def eT{tv:Nat→Value}(c:nB)(id:Nat)(st1:St)(k:c.T→St→Option R){r:R}{g:Nat→Option fA}(he:BJ c st1 k=some r)(hh:BA w0 outer own ρ g w)(hl:WD st1.h g)
  (hv:∀s,VR w ρ (bA outer ρ g) (tv s) (st1.s s)) (hρ:∀q,q<128→ρ (id+q)=none) (hn:∀q,q<128→st1.h (id+q)=none):
  ∃x st2 ρ' g',k x st2=some r∧ZT w0 outer own w tv c id ρ g st1 x st2 ρ' g':=by
 have gW:∀q row,st1.h q=some row→Out id 128 q:=λq row hq h3=>by
  have:=hn (q - id) (by omega);rw[show id+(q - id)=q by omega,hq]at this;cases this
 have h0:ρ id=none:=hρ 0 (by omega);have K0:st1.h id=none:=hn 0 (by omega);cases c with
 | drop s=>exact⟨(),st1,ρ,g,he,rfl,hh,hl,λ_ h=>h,λn=>HB.refl n _,λq _=>⟨rfl,λ_=>rfl⟩,λ_ _ h=>h,λ_ _ h=>h,trivial,λs t ow r h=>by cases h⟩
 | slot s ty=>
  simp only[BJ]at he;split at he
  case h_2=>cases he
  rename_i v ids wX;obtain⟨x,hx,he⟩:=Option.bind_eq_some_iff.1 he;obtain⟨k1,k2⟩:=IR hl wX;have k2:∀r∈ids,∃row,st1.h r=some row:=k2;obtain⟨m1,m2⟩:=hh.mark ids;obtain⟨f1,f2⟩:=rP hh (hv s) k1;have wZ:∀r,st1.h r=none→r∉ids:=λr hn hm=>by obtain⟨row,h5⟩:=k2 r hm;rw[hn]at h5;cases h5
  exact⟨x,_,ρ,dB g ids,he,rfl,m1,qO hl ids,λq hq=>by show dB st1.h ids q=none;rw[SC,if_neg (wZ q hq)];exact hq,λn=>RG _ (XL wX),
   λq _=>⟨rfl,λhq=>by rw[SC,if_neg (wZ q hq)]⟩,λ_ _ h=>h,m2,⟨LR ty v x hx f1,zaQ ty v x hx f2⟩,λs t ow r h=>by cases h⟩
 | own s t tr=>
  simp only[BJ]at he;split at he
  case h_2=>cases he
  rename_i l ro XV;cases QV:FN tr st1.h t ro
  case false=>simp[QV]at he
  simp only[QV,cond_true]at he;have O6:=XV;have PW:=hv s
  -- a row that has moved
  have moved:∀(q:Nat) (m:aB) (l0:List (El t)) (ri':RI),ro=some q→st1.h q=some ⟨.arr t l0,m⟩→BA w0 outer own (cA ρ id (some ri')) (cA (cA g q none) id (some ⟨.arr t l,WC tr⟩)) w→
    (∀u d,VR w ρ (bA outer ρ g) u d→VR w (cA ρ id (some ri')) (bA outer (cA ρ id (some ri')) (cA (cA g q none) id (some ⟨.arr t l,WC tr⟩))) u d)→
    VR w (cA ρ id (some ri')) (bA outer (cA ρ id (some ri')) (cA (cA g q none) id (some ⟨.arr t l,WC tr⟩))) (tv s) (.ow id)→
    ∃x st2 ρ' g',k x st2=some r∧ZT w0 outer own w tv (.own s t tr) id ρ g st1 x st2 ρ' g':=by
   rintro q m l0 ri' rfl hq n1 n2 n3;have P4:=gW q _ hq;refine⟨l,_,_,_,he,rfl,n1,λp row hp=>?_,λp hp=>?_,λn=>fO O6,λp hp=>⟨jA _ _ _ _ ?_,λD1=>?_⟩,λp pi hp=>?_,n2,⟨n3,qA _ _ _⟩,λs t ow r h=>by cases h⟩
   ·have hp:cA st1.h q none p=some row:=hp
    by_cases bX:p=q
    ·subst bX;rw[qA]at hp;cases hp
    ·rw[jA _ _ _ _ bX]at hp;rw[jA _ _ _ _ (by rintro rfl;rw[K0]at hp;cases hp),jA _ _ _ _ bX];exact hl _ _ hp
   ·show cA st1.h q none p=none
    by_cases bX:p=q
    ·subst bX;exact qA _ _ _
    ·rw[jA _ _ _ _ bX];exact hp
   ·rintro rfl;exact hp ⟨Nat.le_refl _,by omega⟩
   ·rw[jA _ _ _ _ (by rintro rfl;exact hp ⟨Nat.le_refl _,by omega⟩),jA];rintro rfl;rw[hq]at D1;cases D1
   ·rw[jA];exact hp;rintro rfl;rw[h0]at hp;cases hp
  unfold NF at XV;split at XV
  ·rename_i SV;simp only[Option.some.injEq,Prod.mk.injEq]at XV;obtain⟨rfl,rfl⟩:=XV;rw[SV]at PW;have N9:tv s= .slice none 0 0:=by generalize tv s=x at PW;cases PW;rfl
   obtain⟨n1,n2⟩:=hh.empty t (WC tr) (zdY tr) h0;refine⟨[],_,_,_,he,rfl,n1,λp row hp=>?_,λp hp=>hp,λn=>HB.refl n _,λp hp=>⟨jA _ _ _ _ ?_,λD1=>jA _ _ _ _ ?_⟩,λp pi hp=>?_,n2,⟨?_,qA _ _ _⟩,λs t ow r h=>by cases h⟩
   ·have hp:st1.h p=some row:=hp;rw[jA _ _ _ _ (by rintro rfl;rw[K0]at hp;cases hp)];exact hl _ _ hp
   ·rintro rfl;exact hp ⟨Nat.le_refl _,by omega⟩
   ·rintro rfl;exact hp ⟨Nat.le_refl _,by omega⟩
   ·rw[jA];exact hp;rintro rfl;rw[h0]at hp;cases hp
   ·rw[N9];exact .owN _ ⟨0,0,0,true⟩ none (qA _ _ _) rfl rfl
  ·rename_i q SV;split at XV
   case h_2=>cases XV
   rename_i t' l1 m EV;cases hm:m.isOwn
   case false=>simp[hm]at XV
   simp only[hm,cond_true]at XV;split at XV
   case isFalse=>cases XV
   rename_i e1;subst e1;simp only[LE,Option.some.injEq,Prod.mk.injEq]at XV;obtain⟨rfl,rfl⟩:=XV;have lZ:xB tr t' m=true:=by simpa[FN,EV]using QV
   rw[SV]at PW;obtain⟨ri,hρq,_⟩:=hh.rows q _ (hl _ _ EV);obtain⟨n1,n2⟩:=hh.rename (WC tr) (hl _ _ EV) (mJ lZ) (QS lZ) hρq h0;refine moved q m l1 ri rfl EV n1 n2 ?_
   rcases PW.ow_inv hρq with⟨e1,e2,e3,e4⟩ | ⟨ao,e1,e2,e3⟩
   ·rw[e1];exact .ow _ ri (qA _ _ _) e3 e4 e2
   ·rw[e1];exact .owN _ ri ao (qA _ _ _) e3 e2
  ·rename_i q t0 len SV;split at XV
   case h_2=>cases XV
   rename_i t' l1 m EV;cases hm:m.isOwn
   case false=>simp[hm]at XV
   simp only[hm,cond_true]at XV;split at XV
   case isFalse=>cases XV
   rename_i e1;subst e1;simp only[LE,Option.some.injEq,Prod.mk.injEq]at XV;obtain⟨rfl,rfl⟩:=XV;have lZ:xB tr t' m=true:=by simpa[FN,EV]using QV
   rw[SV]at PW;obtain⟨ri,n1,n2,n3⟩:=hh.cut (WC tr) (hl _ _ EV) (mJ lZ) (QS lZ) h0 PW;exact moved q m l1 ri rfl EV n1 n2 n3
  ·cases XV
 | box s t ow=>
  simp only[BJ]at he;split at he
  case h_2=>cases he
  rename_i q SV;split at he
  case h_2=>cases he
  rename_i cs EV;split at he
  case h_2=>cases he
  rename_i cs' h' KZ;obtain⟨x,hx,he⟩:=Option.bind_eq_some_iff.1 he;have hs:=wC t hx;have P4:=gW q _ EV;have S1:=hl _ _ EV;obtain⟨ri,hρq,PV,_⟩:=hh.rows q _ S1
  have FV:cs.length≤128:=by
   have h1:=wH _ _ _ _ _ KZ;have h2:=hs.len;rw[WA]at h2;have:=xN t;simp only at h1;omega
  have KV:∀p,st1.h p=none→cA st1.h q none p=none:=λp hp=>by
   by_cases bX:p=q
   ·subst bX;exact qA _ _ _
   ·rw[jA _ _ _ _ bX];exact hp
  obtain⟨ρ1,g1,T,dY⟩:=WI ow id 128 cs 0 (cA st1.h q none) h' cs' (enc t x) ρ g (λj=>(w.cell? (gA ri.b j)).getD undef) KZ hs (by omega) hh
   (λj hj=>by obtain⟨_,y,f1,f2⟩:=PV.2 j hj;rw[f1];exact f2)
   (fun p row hp=>by
    by_cases bX:p=q
    ·subst bX;rw[qA]at hp;cases hp
    ·rw[jA _ _ _ _ bX]at hp;exact hl _ _ hp)
   (λp hp=>KV _ (hn p hp)) (λp _ hp=>hρ p hp)
  have P6:g1 q=some ⟨.box cs, .own⟩:=by rw[(T.out q P4).2 (qA _ _ _)];exact S1
  have hρ1:ρ1 q=some ri:=T.ext _ _ hρq;obtain⟨n1,n2⟩:=T.heap.reread P6 (es:=wA ow id 0 (enc t x)) (by rw[CC];exact dY) (λri' h3 j hj=>by rw[hρ1]at h3;cases h3;exact T.vals j hj);have D3:h' q=none:=T.less q (qA _ _ _)
  refine⟨x,_,_,_,he,rfl,n1,λp row hp=>?_,λp hp=>T.less p (KV p hp),λn=>(pF (HB.refl n _) _ none (.inr ⟨_,EV,rfl⟩)).trans (IE (λr=>r<n) _ _ _ _ _ KZ),λp hp=>⟨(T.out p hp).1,λD1=>?_⟩,T.ext,λu d hu=>n2 _ _ (T.keep _ _ hu),
   ⟨q,SV,qA _ _ _,λp hp=>?_⟩,λs' t' ow' r' h1 h2=>?_⟩
  ·have hp:h' p=some row:=hp;rw[jA _ _ _ _ (by rintro rfl;rw[D3]at hp;cases hp)];exact T.lies _ _ hp
  ·rw[jA _ _ _ _ (by rintro rfl;rw[EV]at D1;cases D1),(T.out p hp).2 (KV p D1)]
  ·rw[jA _ _ _ _ (by rintro rfl;exact P4 ⟨by omega,by omega⟩)];exact T.new p (by omega) hp
  ·cases h1;rw[SV]at h2;cases h2;exact⟨D3,P4⟩
def QF(w:World)(ρ:Nat→Option RI)(bad:Nat→Prop)(g:Nat→Option fA)(tv:Nat→Value)(sl:Nat→V):(cs:List nB)→Nat→UB cs→Prop
 | [],_,_=>True
 | [c],id,x=>vF w ρ bad g tv sl c id x
 | c :: d :: r,id,x=>vF w ρ bad g tv sl c id x.1∧QF w ρ bad g tv sl (d :: r) (id+128) x.2
def vF.later{tv:Nat→Value}{sl:Nat→V}{c:nB}{id:Nat}{x:c.T}{ρ ρ':Nat→Option RI}{bad bad':Nat→Prop}{g g':Nat→Option fA}(h:vF w ρ bad g tv sl c id x)
  (hk:∀u d,VR w ρ bad u d→VR w ρ' bad' u d) (hg:∀q,q<128→g' (id+q)=g (id+q)) (hb:∀s t ow r,c= .box s t ow→sl s= .bp r 0→g' r=g r):vF w ρ' bad' g' tv sl c id x:=by
 cases c with
 | drop s=>trivial
 | slot s ty=>exact⟨hk _ _ h.1,h.2⟩
 | own s t tr=>exact⟨hk _ _ h.1,by rw[show id=id+0 from rfl,hg 0 (by omega)];exact h.2⟩
 | box s t ow=>
  obtain⟨r,h1,h2,h3⟩:=h;exact⟨r,h1,by rw[hb s t ow r rfl h1];exact h2,λq hq=>by rw[hg q hq];exact h3 q hq⟩
structure ExA(w0:World)(outer:Nat→Prop)(own:Ow)(w:World)(tv:Nat→Value)(cs:List nB)(id:Nat)(ρ:Nat→Option RI)(g:Nat→Option fA)(st1:St)(x:UB cs)(hn:Nat→Option fA)(ρ':Nat→Option RI)(g':Nat→Option fA):Prop where
 heap:BA w0 outer own ρ' g' w
 lies:WD hn g'
 left:∀n,HB n st1.h hn
 out:∀q,q<id→ρ' q=ρ q∧(st1.h q=none→g' q=g q)
 fresh:∀q,id+128 *cs.length≤q→ρ' q=none
 ext:∀q qi,ρ q=some qi→ρ' q=some qi
 keep:∀u d,VR w ρ (bA outer ρ g) u d→VR w ρ' (bA outer ρ' g') u d
 ok:QF w ρ' (bA outer ρ' g') g' tv st1.s cs id x
def oT{tv:Nat→Value}:∀(cs:List nB) (id:Nat) (st1:St) (k:UB cs→Option R) (r:R) (ρ:Nat→Option RI) (g:Nat→Option fA),PD cs st1 k=some r→BA w0 outer own ρ g w→WD st1.h g→
  (∀s,VR w ρ (bA outer ρ g) (tv s) (st1.s s))→(∀q,id≤q→ρ q=none)→(∀q,id≤q→st1.h q=none)→∃x hn ρ' g',k x=some r∧ExA w0 outer own w tv cs id ρ g st1 x hn ρ' g'
 | [],id,st1,k,r,ρ,g,he,hh,hl,hv,hρ,hn=>⟨(),st1.h,ρ,g,he,hh,hl,λn=>HB.refl n _,λq _=>⟨rfl,λ_=>rfl⟩,λq hq=>hρ q (by simpa using hq),λ_ _ h=>h,λ_ _ h=>h,trivial⟩
 | [c],id,st1,k,r,ρ,g,he,hh,hl,hv,hρ,hn=>by
  simp only[PD]at he;obtain⟨x,st2,ρ',g',h1,E⟩:=eT c id st1 _ he hh hl hv (λq hq=>hρ _ (by omega)) (λq hq=>hn _ (by omega));refine⟨x,st2.h,ρ',g',h1,E.heap,E.lies,E.left,λq hq=>E.out q (λh=>by omega),λq hq=>?_,E.ext,E.keep,E.ok⟩;simp at hq;rw[(E.out q (λh=>by omega)).1];exact hρ q (by omega)
 | c :: d :: cs,id,st1,k,r,ρ,g,he,hh,hl,hv,hρ,hn=>by
  simp only[PD]at he;obtain⟨x,st2,ρ1,g1,h1,E⟩:=eT c id st1 _ he hh hl hv (λq hq=>hρ _ (by omega)) (λq hq=>hn _ (by omega))
  obtain⟨y,L7,ρ',g',h2,F⟩:=oT (d :: cs) (id+128) st2 _ r ρ1 g1 h1 E.heap E.lies (λs=>by rw[E.slots];exact E.keep _ _ (hv s))
   (λq hq=>by rw[(E.out q (λh=>by omega)).1];exact hρ q (by omega)) (λq hq=>E.less q (hn q (by omega)))
  refine⟨(x,y),L7,ρ',g',h2,F.heap,F.lies,λn=>(E.left n).trans (F.left n),λq hq=>?_,λq hq=>?_,λq qi hq=>F.ext _ _ (E.ext _ _ hq),λu d hu=>F.keep _ _ (E.keep _ _ hu),?_,by rw[←E.slots];exact F.ok⟩
  ·have ho:Out id 128 q:=λh=>by omega
   exact⟨((F.out q (by omega)).1).trans (E.out q ho).1,λVW=>((F.out q (by omega)).2 (E.less q VW)).trans ((E.out q ho).2 VW)⟩
  ·exact F.fresh q (by simp at hq⊢;omega)
  ·refine E.ok.later F.keep (λq hq=>(F.out (id+q) (by omega)).2 (E.less _ (hn _ (by omega)))) λs t ow r h3 h4=>?_;obtain⟨h5,h6⟩:=E.gone s t ow r h3 h4
   have O9:r<id:=by
    rcases Nat.lt_or_ge r id with h7 | h7
    ·exact h7
    ·obtain⟨ri,h8,_⟩:=(show VR w ρ (bA outer ρ g) (tv s) (.bp r 0) by rw[←h4];exact hv s).bp_inv;rw[hρ r h7]at h8;cases h8
   exact(F.out r (by omega)).2 h5
def vO{tv:Nat→Value}{sl:Nat→V}{ρ2:Nat→Option RI}{bad2:Nat→Prop}{g2:Nat→Option fA}:∀(cs:List nB) (M id:Nat) (x:UB cs) (h:Nat→Option fA) (q:Nat) (row:fA),
  QF w ρ2 bad2 g2 tv sl cs M x→pH sl cs id x h q=some row→
  h q=some row∨(id≤q∧q<id+128 *cs.length∧(∃t l m,row=⟨.arr t l,m⟩)∧g2 (M+(q - id))=some row)∨
   (∃o ow es s,row=⟨.box (wA ow (id+o) 0 es), .own⟩∧g2 q=some ⟨.box (wA ow (M+o) 0 es), .own⟩∧o+128≤128 *cs.length∧(∀j (hj:j<es.length),tB es[j])∧es.length≤128∧sl s= .bp q 0):=by
 have one:∀(c:nB) (M id:Nat) (x:c.T) (h:Nat→Option fA) (q:Nat) (row:fA),vF w ρ2 bad2 g2 tv sl c M x→yF sl c id x h q=some row→
   h q=some row∨(id≤q∧q<id+128∧(∃t l m,row=⟨.arr t l,m⟩)∧g2 (M+(q - id))=some row)∨
   (∃ow es s,row=⟨.box (wA ow id 0 es), .own⟩∧g2 q=some ⟨.box (wA ow M 0 es), .own⟩∧(∀j (hj:j<es.length),tB es[j])∧es.length≤128∧sl s= .bp q 0):=by
  intro c M id x h q row hc hi;cases c with
  | drop s=>exact .inl hi
  | slot s ty=>exact .inl hi
  | own s t tr=>
   simp only[yF]at hi
   by_cases hq:q=id
   ·subst hq;rw[qA]at hi;cases hi;exact .inr (.inl ⟨Nat.le_refl _,by omega,⟨_,_,_,rfl⟩,by rw[Nat.sub_self];exact hc.2⟩)
   ·rw[jA _ _ _ _ hq]at hi;exact .inl hi
  | box s t ow=>
   obtain⟨r,h1,h2,h3⟩:=hc;simp only[yF,h1]at hi
   by_cases hq:q=r
   ·subst hq;rw[qA]at hi;cases hi;refine .inr (.inr ⟨ow,enc t x,s,rfl,h2,λj hj=>?_,by rw[WA];exact xN t,h1⟩);intro S;have:=TF S t x j;rw[List.getD_eq_getElem?_getD,List.getElem?_eq_getElem hj]at this;exact this
   ·rw[jA _ _ _ _ hq,QA]at hi;split at hi
    ·rename_i y hy;cases hi;obtain⟨t',l,e1,e2,e3⟩:=NB _ _ _ _ _ _ hy;have JV:=xN t;rw[WA]at e3;refine .inr (.inl ⟨by omega,by omega,⟨t',l,_,e1⟩,?_⟩);rw[h3 (q - id) (by omega),rI ow M id,show id+(q - id)=q by omega];exact hy
    ·exact .inl hi
 intro cs;induction cs with
 | nil=>intro M id x h q row _ hi;exact .inl hi
 | cons c cs ih=>
  intro M id x h q row hc hi;cases cs with
  | nil=>
   rcases one c M id x h q row hc hi with h1 | ⟨h1,h2,h3⟩ | ⟨ow,es,s,h1,h2,h3⟩
   ·exact .inl h1
   ·exact .inr (.inl ⟨h1,by simp only[List.length_cons,List.length_nil];omega,h3⟩)
   ·exact .inr (.inr ⟨0,ow,es,s,h1,h2,by simp only[List.length_cons];omega,h3⟩)
  | cons d r=>
   simp only[pH]at hi
   rcases one c M id x.1 _ q row hc.1 hi with h1 | ⟨h1,h2,h3⟩ | ⟨ow,es,s,h1,h2,h3⟩
   ·rcases ih (M+128) (id+128) x.2 h q row hc.2 h1 with h4 | ⟨h4,h5,h6,h7⟩ | ⟨o,ow,es,s,h4,h5,h6,h7⟩
    ·exact .inl h4
    ·refine .inr (.inl ⟨by omega,by simp at h5⊢;omega,h6,?_⟩);rw[show M+(q - id)=M+128+(q - (id+128)) by omega];exact h7
    ·refine .inr (.inr ⟨o+128,ow,es,s,?_,?_,by simp at h6⊢;omega,h7⟩)
     ·rw[show id+(o+128)=id+128+o by omega];exact h4
     ·rw[show M+(o+128)=M+128+o by omega];exact h5
   ·exact .inr (.inl ⟨h1,by simp only[List.length_cons];omega,h3⟩)
   ·exact .inr (.inr ⟨0,ow,es,s,h1,h2,by simp only[List.length_cons];omega,h3⟩)
def zcP{tv:Nat→Value}{sl:Nat→V}{ρ2:Nat→Option RI}{bad2:Nat→Prop}{g2:Nat→Option fA}(f:Nat→V)(s:Nat):∀(cs:List nB) (M id:Nat) (x:UB cs),
  QF w ρ2 bad2 g2 tv sl cs M x→(mC cs s=false∧OD cs id x f s=f s)∨(VR w ρ2 bad2 (tv s) (OD cs id x f s)∧tB (OD cs id x f s))∨
   (∃o,OD cs id x f s= .ow (id+o)∧VR w ρ2 bad2 (tv s) (.ow (M+o))∧o<128 *cs.length):=by
 have one:∀(c:nB) (M id:Nat) (x:c.T) (f:Nat→V),vF w ρ2 bad2 g2 tv sl c M x→((∀r,mC (c :: r) s=mC r s)∧xE c id x f s=f s)∨(VR w ρ2 bad2 (tv s) (xE c id x f s)∧tB (xE c id x f s))∨
   (xE c id x f s= .ow id∧VR w ρ2 bad2 (tv s) (.ow M)):=by
  intro c M id x f hc;cases c with
  | slot s' ty=>
   by_cases hs:s=s'
   ·subst hs;simp only[xE,qA];exact .inr (.inl hc)
   ·simp only[xE];rw[jA _ _ _ _ hs];refine .inl ⟨λr=>?_,rfl⟩
    have:Nat.beq s' s=false:=by
     cases hb:Nat.beq s' s with
     | false=>rfl
     | true=>exact absurd (Nat.eq_of_beq_eq_true hb).symm hs
    simp[mC,this]
  | own s' t tr=>
   by_cases hs:s=s'
   ·subst hs;exact .inr (.inr ⟨qA _ _ _,hc.1⟩)
   ·simp only[xE];rw[jA _ _ _ _ hs];refine .inl ⟨λr=>?_,rfl⟩
    have:Nat.beq s' s=false:=by
     cases hb:Nat.beq s' s with
     | false=>rfl
     | true=>exact absurd (Nat.eq_of_beq_eq_true hb).symm hs
    simp[mC,this]
  | box s' t ow=>exact .inl ⟨λr=>rfl,rfl⟩
  | drop s'=>exact .inl ⟨λr=>rfl,rfl⟩
 intro cs;induction cs with
 | nil=>intro M id x _;exact .inl ⟨rfl,rfl⟩
 | cons c cs ih=>
  intro M id x hc;cases cs with
  | nil=>
   rcases one c M id x f hc with⟨h1,h2⟩ | h | ⟨h1,h2⟩
   ·exact .inl ⟨by rw[h1];rfl,h2⟩
   ·exact .inr (.inl h)
   ·exact .inr (.inr ⟨0,h1,h2,by simp only[List.length_cons];omega⟩)
  | cons d r=>
   simp only[OD]
   rcases one c M id x.1 (OD (d :: r) (id+128) x.2 f) hc.1 with⟨h1,h2⟩ | h | ⟨h1,h2⟩
   ·rw[h2]
    rcases ih (M+128) (id+128) x.2 hc.2 with⟨h3,h4⟩ | h3 | ⟨o,h3,h4,h5⟩
    ·exact .inl ⟨by rw[h1];exact h3,h4⟩
    ·exact .inr (.inl h3)
    ·exact .inr (.inr ⟨o+128,by rw[h3];congr 1;omega,by rw[show M+(o+128)=M+128+o by omega];exact h4,by simp only[List.length_cons]at h5⊢;omega⟩)
   ·exact .inr (.inl h)
   ·exact .inr (.inr ⟨0,h1,h2,by simp only[List.length_cons];omega⟩)
def QF.slots{tv:Nat→Value}{sl sl':Nat→V}{ρ2:Nat→Option RI}{bad2:Nat→Prop}{g2:Nat→Option fA}:∀(cs:List nB) (M:Nat) (x:UB cs),
  (∀s t ow,nB.box s t ow∈cs→sl' s=sl s)→QF w ρ2 bad2 g2 tv sl cs M x→QF w ρ2 bad2 g2 tv sl' cs M x:=by
 have one:∀(c:nB) (M:Nat) (x:c.T),(∀s t ow,c=nB.box s t ow→sl' s=sl s)→vF w ρ2 bad2 g2 tv sl c M x→vF w ρ2 bad2 g2 tv sl' c M x:=by
  intro c M x hs hc;cases c with
  | drop s=>trivial
  | slot s ty=>exact hc
  | own s t tr=>exact hc
  | box s t ow=>obtain⟨r,h1,h2⟩:=hc;exact⟨r,by rw[hs s t ow rfl];exact h1,h2⟩
 intro cs;induction cs with
 | nil=>intro M x _ _;trivial
 | cons c cs ih=>
  intro M x hs hc;cases cs with
  | nil=>exact one c M x (λs t ow h=>hs s t ow (by simp[h])) hc
  | cons d r=>exact⟨one c M x.1 (λs t ow h=>hs s t ow (by simp[h])) hc.1,ih (M+128) x.2 (λs t ow h=>hs s t ow (List.mem_cons_of_mem _ h)) hc.2⟩
omit [aA]in
def iR(sl:Nat→V):∀(cs:List nB) (id:Nat) (x:UB cs) (h:Nat→Option fA) (q:Nat) (row:fA),h q=some row→∃row',pH sl cs id x h q=some row':=by
 have up:∀(h:Nat→Option fA) (i:Nat) (y:fA) (q:Nat),(∃row,h q=some row)→∃row',cA h i (some y) q=some row':=by
  intro h i y q hq
  by_cases hi:q=i
  ·subst hi;exact⟨y,qA _ _ _⟩
  ·rw[jA _ _ _ _ hi];exact hq
 have one:∀(c:nB) (id:Nat) (x:c.T) (h:Nat→Option fA) (q:Nat),(∃row,h q=some row)→∃row',yF sl c id x h q=some row':=by
  intro c id x h q hq;cases c with
  | drop s'=>exact hq
  | slot s' ty=>exact hq
  | own s' t tr=>exact up _ _ _ _ hq
  | box s' t ow=>
   simp only[yF];generalize sl s'=v;cases v with
   | bp r off=>
    cases off with
    | zero=>
     refine up _ _ _ _ ?_;rw[QA];cases FA ow id (λ_=>none) 0 (enc t x) q with
     | some y=>exact⟨_,rfl⟩
     | none=>exact hq
    | succ n=>exact hq
   | _=>exact hq
 intro cs;induction cs with
 | nil=>intro id x h q row hq;exact⟨row,hq⟩
 | cons c cs ih=>
  intro id x h q row hq;cases cs with
  | nil=>exact one c id x h q ⟨row,hq⟩
  | cons d r=>exact one c id x.1 _ q (ih (id+128) x.2 h q row hq)
def cO{j:JI}{b:St}{ρ':Nat→Option RI}{a':Act}{w':World}{k:UB j.cs→Option R}{r:R}(hb:xA C w0 outer own ρ b a w)(LY:∀q,b.nx≤q→ρ q=none)
  (hr:xA C w0 outer own ρ' st' a' w') (hf:∀q,st'.nx≤q→ρ' q=none) (t8:b.nx≤st'.nx) (Q6:∀q qi,ρ q=some qi→ρ' q=some qi)
  (mZ:∀s,j.has s=false→st'.s s=b.s s) (WW:HB b.nx (EB j b).h st'.h) (MW:aJ j=true) (he:PD j.cs st' k=some r):
  ∃x,k x=some r∧∃ρ'',xA C w0 outer own ρ'' (install j b x) a' w'∧(∀q,(install j b x).nx≤q→ρ'' q=none)∧(∀q qi,ρ q=some qi→ρ'' q=some qi)∧HB b.nx b.h (install j b x).h:=by
 have Q4:∀q row,b.h q=some row→ρ q≠none∧q<b.nx:=λq row hq=>by
  obtain⟨ri,h1,_⟩:=hb.heap.rows q row hq;refine⟨by rw[h1];simp,?_⟩
  rcases Nat.lt_or_ge q b.nx with h | h
  ·exact h
  ·rw[LY q h]at h1;cases h1
 have R6:∀q,st'.nx≤q→st'.h q=none:=λq hq=>by
  cases hg:st'.h q with
  | none=>rfl
  | some row=>obtain⟨ri,h3,_⟩:=hr.heap.rows _ _ hg;rw[hf q hq]at h3;cases h3
 obtain⟨x,hn,ρ2,g2,hx,E⟩:=oT (tv:=λs=>a'.tmps.getD s undef) j.cs st'.nx st' k r ρ' st'.h he hr.heap (λ_ _ h=>h) hr.slots hf R6;let M:=st'.nx;let L:=128 *j.cs.length;let ρ'':Nat→Option RI:=λq=>if q<b.nx then ρ q else if q<b.nx+L then ρ2 (M+(q - b.nx))else none
 let φ:Nat→Nat:=λq=>if q<b.nx then q else M+(q - b.nx)
 have hρ2:∀q qi,ρ q=some qi→ρ2 q=some qi:=λq qi hq=>E.ext _ _ (Q6 _ _ hq)
 have HV:∀q,ρ q≠none→q<b.nx:=λq hq=>by
  rcases Nat.lt_or_ge q b.nx with h | h
  ·exact h
  ·exact absurd (LY q h) hq
 have hρlow:∀q,q<b.nx→ρ'' q=ρ q:=λq hq=>by simp only[ρ'',hq,if_true]
 have o0:∀q qi,ρ q=some qi→ρ'' q=some qi:=λq qi hq=>by rw[hρlow q (HV q (by rw[hq];simp))];exact hq
 have hρhi:∀o,o<L→ρ'' (b.nx+o)=ρ2 (M+o):=λo ho=>by
  have h1:¬(b.nx+o<b.nx):=by omega
  have h2:b.nx+o<b.nx+L:=by omega
  simp only[ρ'',h1,h2,if_false,if_true];congr 1;omega
 have hφlow:∀q,q<b.nx→φ q=q:=λq hq=>by simp only[φ,hq,if_true]
 have hφhi:∀q,b.nx≤q→φ q=M+(q - b.nx):=λq hq=>by
  have:¬q<b.nx:=by omega
  simp only[φ,this,if_false]
 have WY:QF w' ρ2 (bA outer ρ2 g2) g2 (λs=>a'.tmps.getD s undef) b.s j.cs M x:=by
  refine QF.slots j.cs M x (λs t ow hm=>?_) E.ok;have:=List.all_eq_true.1 MW _ hm;simp only[Bool.not_eq_true']at this;exact(mZ s this).symm
 -- the rows that stayed
 have MV:∀q row,jE j b q=some row→∃row0,b.h q=some row0∧row0.c=row.c∧∃row2,g2 q=some row2∧row2.c=row.c∧(row.m.isRo=false→row2.m.isRo=false)∧(row.m.isTre=true→row2.m.isTre=true):=λq row hq=>by
  unfold jE at hq;split at hq
  case h_2=>cases hq
  rename_i c m hc;cases hm:m.isOwn
  ·simp only[hm,cond_false,Option.some.injEq]at hq;subst hq;have h1:(EB j b).h q=some ⟨c,m⟩:=by simp[EB,hc,hm]
   exact⟨_,hc,rfl,_,E.lies _ _ (E.left (q+1) q _ (by omega) (WW q _ (Q4 q _ hc).2 h1 hm) hm),rfl,λh=>h,λh=>h⟩
  ·simp only[hm,cond_true]at hq;cases hi:YF j.cs b q
   ·simp only[hi,cond_false,Option.some.injEq]at hq;subst hq;have h1:(EB j b).h q=some ⟨c,m.locked⟩:=by simp[EB,hc,hi,hm]
    have h2:m.locked.isOwn=false:=by cases m<;>rfl
    exact⟨_,hc,rfl,_,E.lies _ _ (E.left (q+1) q _ (by omega) (WW q _ (Q4 q _ hc).2 h1 h2) h2),rfl,(λ_=>by cases m<;>first | rfl | cases hm),(λh=>by cases m<;>first | rfl | cases h)⟩
   ·simp[hi]at hq
 have EV:∀q row,(install j b x).h q=some row→∃row2,g2 (φ q)=some row2∧(row.m.isRo=false→row2.m.isRo=false)∧ρ'' q=ρ2 (φ q)∧(row.m.isTre=true→row2.m.isTre=true∧row2.c=row.c):=λq row hq=>by
  rcases vO j.cs M b.nx x (jE j b) q row WY hq with h1 | ⟨h1,h2,_,h4⟩ | ⟨o,ow,es,s,h1,h2,h3,h4,h5,h6⟩
  ·obtain⟨row0,k1,_,row2,k2,k5,k3,k4⟩:=MV q row h1;have iY:=(Q4 q _ k1).2;obtain⟨ri,e1,_⟩:=hb.heap.rows q _ k1;exact⟨row2,by rw[hφlow q iY];exact k2,k3,by rw[hφlow q iY,hρlow q iY,e1,hρ2 q ri e1],λh=>⟨k4 h,k5⟩⟩
  ·refine⟨row,by rw[hφhi q h1];exact h4,λh=>h,?_,λh=>⟨h,rfl⟩⟩;have:=hρhi (q - b.nx) (by omega);rw[show b.nx+(q - b.nx)=q by omega]at this;rw[this,hφhi q h1]
  ·have E1:=hb.slots s;rw[h6]at E1;obtain⟨ri,e1,_⟩:=E1.bp_inv;have iY:=HV q (by rw[e1];simp);exact⟨_,by rw[hφlow q iY];exact h2,λ_=>rfl,by rw[hφlow q iY,hρlow q iY,e1,hρ2 q ri e1],λh=>by rw[h1]at h;cases h⟩
 have GV:∀c,bA outer ρ'' (install j b x).h c→bA outer ρ2 g2 c:=by
  rintro c (hc | ⟨q,row,ri,f1,f2,f3,f4,f5⟩)
  ·exact .inl hc
  ·obtain⟨row2,k1,k2,k3,_⟩:=EV q row f1;rw[k3]at f3;exact .inr ⟨_,row2,ri,k1,k2 f2,f3,f4,f5⟩
 -- what is said ahead holds behind
 have keepB:∀u d,VR w' ρ2 (bA outer ρ2 g2) u d→TA (λq=>ρ q≠none) d→VR w' ρ'' (bA outer ρ'' (install j b x).h) u d:=λu d hu hS=>
  hu.keep hS (λq qi hq h2=>by
   cases h3:ρ q with
   | none=>exact absurd h3 hq
   | some ri=>rw[hρ2 q ri h3]at h2;cases h2;exact o0 q _ h3) (λ_ _ _=>rfl) λc hc=> .inl (GV c hc)
 have hH:BA w0 outer own ρ'' (install j b x).h w':=by
  refine E.heap.sub φ E.heap.wx E.heap.old E.heap.outLt (λq row hq=>?_) (λq q' row row' h1 h2 h3=>?_) (lB.sub E.heap φ GV (λ_ h=>h) λq t l m hq hm=>by
   obtain⟨⟨c2,m2⟩,k1,_,k3,k4⟩:=EV q _ hq;obtain⟨k5,k6⟩:=k4 hm;simp only at k5 k6;subst k6;exact⟨⟨m2,k1,k5⟩,k3⟩)
  ·obtain⟨row2,k1,k2,k3,_⟩:=EV q row hq;obtain⟨ri,e1,e2,e3⟩:=E.heap.rows _ _ k1;refine⟨row2,ri,k1,by rw[k3];exact e1,e1,?_,λhn=>⟨(e3 hn).1.1,λhm=>(e3 hn).1.2 (k2 hm)⟩⟩
   rcases vO j.cs M b.nx x (jE j b) q row WY hq with h1 | ⟨h1,h2,⟨t,l,m3,h3⟩,h4⟩ | ⟨o,ow,es,s,h1,h2,h3,h4,h5,h6⟩
   ·obtain⟨row0,f1,f2,row2',f3,f4,_,_⟩:=MV q row h1;have iY:=(Q4 q _ f1).2;rw[hφlow q iY,f3]at k1;cases k1;rw[f4]at e2;obtain⟨rc,rm⟩:=row;cases rc with
    | arr t l=>exact YJ e2 GV ρ''
    | box cs=>
     obtain⟨ri0,g1,g3,_⟩:=hb.heap.rows q _ f1;rw[f2]at g3;refine⟨e2.1,λi hi=>?_⟩;obtain⟨x1,y,x2,x3⟩:=e2.2 i hi;obtain⟨_,y0,_,y3⟩:=g3.2 i hi;exact⟨x1,y,x2,keepB _ _ x3 y3.refs⟩
   ·subst h3;rw[hφhi q h1,h4]at k1;cases k1;exact YJ e2 GV ρ''
   ·have E1:=hb.slots s;rw[h6]at E1;obtain⟨ri',e4,_⟩:=E1.bp_inv;have iY:=HV q (by rw[e4];simp);rw[hφlow q iY,h2]at k1;cases k1;subst h1;refine⟨e2.1,λi hi=>?_⟩;rw[CC]at hi;obtain⟨x1,y,x2,x3⟩:=e2.2 i (by rw[CC];exact hi);refine⟨x1,y,x2,?_⟩
    have:=yI (w:=w') (ρ:=ρ2) (ρ2:=ρ'') (bad:=bA outer ρ2 g2) (bad2:=bA outer ρ'' (install j b x).h) ow (M+o) (b.nx+o) es 0 (λi=>(w'.cell? (gA ri.b i)).getD undef) (λp _ hp _ _=>by
      rw[Nat.add_assoc,Nat.add_assoc];exact hρhi (o+p) (by omega)) h4 GV (λi hi=>by
      obtain⟨_,y,x2,x3⟩:=e2.2 i hi;rw[x2];exact x3) i (by rw[CC];exact hi)
    rw[x2]at this;exact this
  ·have cls:∀q row,(install j b x).h q=some row→φ q=q∧q<b.nx∨b.nx≤q∧φ q=M+(q - b.nx):=λq row _=>by
    rcases Nat.lt_or_ge q b.nx with h | h
    ·exact .inl ⟨hφlow q h,h⟩
    ·exact .inr ⟨h,hφhi q h⟩
   rcases cls q row h1 with⟨c1,c2⟩ | ⟨c1,c2⟩<;>rcases cls q' row' h2 with⟨c3,c4⟩ | ⟨c3,c4⟩<;>omega
 refine⟨x,hx,ρ'',⟨hH,λs=>?_,hr.size,hr.defers,hr.glob⟩,λq hq=>?_,o0,λq row H0 hq hm=>?_⟩
 ·show VR w' ρ'' _ _ (OD j.cs b.nx x (λi=>bif fH j.kill i then .undef else b.s i) s)
  rcases zcP (λi=>bif fH j.kill i then .undef else b.s i) s j.cs M b.nx x WY with⟨h1,h2⟩ | ⟨h1,h2⟩ | ⟨o,h1,h2,h3⟩
  ·rw[h2];cases hk:fH j.kill s
   ·simp only[cond_false];have S6:j.has s=false:=by simp[JI.has,hk,h1]
    have hv:=E.keep _ _ (hr.slots s);rw[mZ s S6]at hv;exact keepB _ _ hv (hb.slots s).refs
   ·simp only[cond_true];exact .undef _
  ·exact(h1.noRef h2 ρ'').mono (λ_ _ h=>h) (λ_ _ _=>rfl) λc hc=> .inl (GV c hc)
  ·rw[h1];have hq:=hρhi o h3;have h2:VR w' ρ2 (bA outer ρ2 g2) (a'.tmps.getD s undef) (.ow (M+o)):=h2;generalize a'.tmps.getD s undef=T at h2⊢;cases h2 with
   | ow _ ri e1 e2 e3 e4=>exact .ow _ ri (by rw[hq];exact e1) e2 e3 e4
   | owN _ ri ao e1 e2 e3=>exact .owN _ ri ao (by rw[hq];exact e1) e2 e3
 ·have h1:¬q<b.nx:=by simp only[install]at hq;omega
  have h2:¬q<b.nx+L:=by simp only[install]at hq;omega
  simp only[ρ'',h1,h2,if_false]
 ·have h1:(EB j b).h q=some row:=by
   simp only[EB,hq,hm,cond_false]
  have h2:jE j b q=some row:=by
   simp only[jE,hq,hm,cond_false]
  have h3:g2 q=some row:=E.lies _ _ (E.left (q+1) q _ (by omega) (WW q _ H0 h1 hm) hm);obtain⟨row',h4⟩:=iR b.s j.cs b.nx x _ q row h2;show pH b.s j.cs b.nx x (jE j b) q=some row
  rcases vO j.cs M b.nx x (jE j b) q row' WY h4 with h5 | ⟨h5,_⟩ | ⟨o,ow,es,s,h5,h6,_⟩
  ·rw[h2]at h5;cases h5;exact h4
  ·omega
  ·rw[h3]at h6;cases h6;cases hm
end
end Go.D
namespace Go.D
variable [aA]
section
variable {C:Cx} {w0:World} {outer:Nat→Prop} {own:Ow} {ρ:Nat→Option RI} {st st' b:St} {a:Act} {w:World} {R:Type} {j:JI}
omit [aA]in
def zbh(j:JI)(st:St):mD (EB j st).h st.h:=λr row' hr=>by
 simp only[EB]at hr;split at hr
 ·rename_i c m hc;cases hm:m.isOwn
  ·simp only[hm,cond_false,Option.some.injEq]at hr;subst hr;exact⟨_,hc,rfl,id,id⟩
  ·simp only[hm,cond_true]at hr;cases hi:YF j.cs st r
   ·simp only[hi,cond_false,Option.some.injEq]at hr;subst hr;exact⟨_,hc,rfl,λ_=>FK hm,λh=>by cases m<;>first | rfl | cases h⟩
   ·simp only[hi,cond_true,Option.some.injEq]at hr;subst hr;exact⟨_,hc,rfl,id,id⟩
 ·cases hr
omit [aA]in
def zaM(b st:St):mD (unlock b st).h st.h:=λr row' hr=>by
 simp only[unlock]at hr;split at hr
 ·rename_i c hc;split at hr
  ·rename_i m _;cases hm:m.isOwn
   ·simp only[hm,cond_false,Option.some.injEq]at hr;subst hr;exact⟨_,hc,rfl,λ_=>rfl,λh=>by cases h⟩
   ·simp only[hm,cond_true,Option.some.injEq]at hr;subst hr;exact⟨_,hc,rfl,λ_=>rfl,λh=>by cases h⟩
  ·cases hr;exact⟨_,hc,rfl,λ_=>rfl,λh=>by cases h⟩
 ·rename_i c hc;split at hr
  ·rename_i m _;cases hm:m.isOwn
   ·simp only[hm,cond_false,Option.some.injEq]at hr;subst hr;exact⟨_,hc,rfl,λ_=>rfl,λ_=>rfl⟩
   ·simp only[hm,cond_true,Option.some.injEq]at hr;subst hr;exact⟨_,hc,rfl,λ_=>rfl,λ_=>rfl⟩
  ·cases hr;exact⟨_,hc,rfl,λ_=>rfl,λ_=>rfl⟩
 ·exact⟨row',hr,rfl,id,id⟩
def xA.lock(hr:xA C w0 outer own ρ st a w)(j:JI):xA C w0 outer own ρ (EB j st) a w:=by
 obtain⟨h1,h2⟩:=hr.heap.less (zbh j st);exact⟨h1,λi=>h2 _ _ (hr.slots i),hr.size,hr.defers,hr.glob⟩
def xA.unlock(hr:xA C w0 outer own ρ st a w)(b:St):xA C w0 outer own ρ (Go.D.unlock b st) a w:=by
 obtain⟨h1,h2⟩:=hr.heap.less (zaM b st);exact⟨h1,λi=>h2 _ _ (hr.slots i),hr.size,hr.defers,hr.glob⟩
omit [aA]in
def zat{n:Nat}(hk:HB n (EB j b).h st'.h):HB n b.h (unlock b st').h:=λr row hn hr hm=>by
 have h1:(EB j b).h r=some row:=by
  simp only[EB,hr,hm,cond_false]
 have h2:=hk r row hn h1 hm;simp only[unlock,h2,hr];obtain⟨c,m⟩:=row;cases m with
 | own=>cases hm
 | ro=>rfl
 | lock=>rfl
 | tlk=>rfl
 | tre=>cases hm
omit [aA]in
def zbj(f:Nat→V)(s:Nat):∀(cs:List nB) (id:Nat) (x:UB cs),mC cs s=false→OD cs id x f s=f s:=by
 have one:∀(c:nB) (r:List nB) (id:Nat) (x:c.T) (f:Nat→V),mC (c :: r) s=false→mC r s=false∧xE c id x f s=f s:=by
  intro c r id x f h;cases c with
  | slot s' ty=>
   simp only[mC,Bool.or_eq_false_iff]at h;refine⟨h.2,jA _ _ _ _ ?_⟩;rintro rfl;simp at h
  | own s' t tr=>
   simp only[mC,Bool.or_eq_false_iff]at h;refine⟨h.2,jA _ _ _ _ ?_⟩;rintro rfl;simp at h
  | box s' t ow=>exact⟨h,rfl⟩
  | drop s'=>exact⟨h,rfl⟩
 intro cs;induction cs with
 | nil=>intro id x _;rfl
 | cons c cs ih=>
  intro id x h;cases cs with
  | nil=>exact(one c [] id x f h).2
  | cons d r=>
   obtain⟨h1,h2⟩:=one c (d :: r) id x.1 (OD (d :: r) (id+128) x.2 f) h;simp only[OD];rw[h2];exact ih (id+128) x.2 h1
omit [aA]in
def VJ(j:JI)(b:St)(x:UB j.cs)(s:Nat)(h:j.has s=false):(install j b x).s s=b.s s:=by
 simp only[JI.has,Bool.or_eq_false_iff]at h;show OD j.cs b.nx x _ s=_
 rw[zbj _ _ _ _ _ h.2,h.1];rfl
end
end Go.D
namespace Go.D
variable [aA]
structure kB(C:Cx)(w0:World)(outer:Nat→Prop)(own:Ow)(D:Nat→Prop)(st:St)(a:Act)(ρ:Nat→Option RI)(st':St)(a':Act)(w':World)(ρ':Nat→Option RI):Prop where
 rel:xA C w0 outer own ρ' st' a' w'
 ext:∀q qi,ρ q=some qi→ρ' q=some qi
 slots:∀s,¬D s→st'.s s=st.s s
 keeps:HB st.nx st.h st'.h
 nx:st.nx≤st'.nx
 fresh:∀q,st'.nx≤q→ρ' q=none
 vals:∀s,¬D s→a'.tmps.getD s undef=a.tmps.getD s undef
section
variable {C:Cx} {w0:World} {outer D:Nat→Prop} {own:Ow} {R:Type}
def zdl{w:World}{ρ:Nat→Option RI}{bad:Nat→Prop}{v:Value}(h:VR w ρ bad v (.tup [])):v=undef:=by
 cases h with
 | tup _ vs hs hv=>
  have:vs= #[]:=by simpa using hs
  subst this;rfl
omit [aA]in
def zbb{ops:Array Oper}{tmps:Array Value}{j dj:Nat}(h:(ops[j]?).bind (·.dst)=some dj)(HV:dj<tmps.size):
  yielded ops tmps j=match tmps.getD dj undef with | .bool b=>some b | _=>none:=by
 unfold yielded;rw[h];simp only[Option.bind_some,Array.getElem?_eq_getElem HV,Array.getD_eq_getD_getElem?,Option.getD_some];split<;>split<;>simp_all
omit [aA]in
def zcj(ops:Array Oper){k:Nat}(hk:k<ops.size):jD k (ops.toList.drop k)=(k,ops[k]) :: jD (k+1) (ops.toList.drop (k+1)):=by
 rw[List.drop_eq_getElem_cons (by simpa using hk)];rfl
omit [aA]in
def zb1(f:Nat→V)(i:Nat)(v:V)(h:f i=v):cA f i v=f:=by
 funext q
 by_cases hq:q=i
 ·subst hq;rw[qA,h]
 ·rw[jA _ _ _ _ hq]
omit [aA]in
def LO{P:Program}{a:Act}{w:World}{o:Oper}{post:Act→World→Prop}(h:uB P o a w post)(hd:∀a' w',post a' w'→a'.defers=[]):
  uB P o a w λa' w'=>post a' w'∧∃v,a'=a.put o.dst v:=by
 intro next Q hn;have h0:=h post Q λ_ _ h=>h;unfold Oper.wp at *;generalize (execOp a.eval o).run P w=x at *;have put:∀v w',post (a.put o.dst v) w'→next (a.put o.dst v) w':=λv w' hp=>hn _ _ ⟨hp,v,rfl⟩;cases x with
 | ok n w'=>
  have nodef:∀d w',post ({a with defers:=d :: a.defers}.put o.dst undef) w'→False:=λd w' hp=>by
   have:=hd _ _ hp
   revert this
   cases o.dst<;>simp[Act.put]
  cases n<;>simp only[Oper.upon]at h0⊢ <;>first
   | exact put _ _ h0
   | exact Calls.mono' h0 λe w'' he=>by cases e<;>first | exact put _ _ he | exact he
   | exact h0.mono λ_ _ he=>put _ _ he
   | exact(nodef _ _ h0).elim
   | exact h0
 | halt x w'=>cases x<;>simp only[Oper.upon]at h0⊢ <;>exact h0
omit [aA]in
def lO{a:Act}{dst:Option Nat}{v:Value}{s:Nat}(h:dst≠some s):(a.put dst v).tmps.getD s undef=a.tmps.getD s undef:=by
 cases dst with
 | none=>rfl
 | some d=>
  simp only[Act.put,Array.getD_eq_getD_getElem?];rw[Array.getElem?_setIfInBounds_ne];rintro rfl;exact h rfl
def YO(hC:EC C)(hΦ:JC C){ops:Array Oper}{Q:Exit→Act→World→Prop}{K:St→Option R}{r:R}(nx:Nat)(hD:∀o∈ops,∀d,o.dst=some d→D d):∀(m k:Nat) (st:St) (a:Act) (w:World) (ρ:Nat→Option RI),
  k+m=ops.size→xA C w0 outer own ρ st a w→(∀q,nx+128 *k≤q→ρ q=none)→dF C ops nx (jD k (ops.toList.drop k)) st K=some r→
  (∀ st' a' w' ρ',xA C w0 outer own ρ' st' a' w'→(∀ q,nx+128 *ops.size≤q→ρ' q=none)→(∀ q qi,ρ q=some qi→ρ' q=some qi)→(∀ s,¬ D s→st'.s s=st.s s)→HB nx st.h st'.h→st'.nx=st.nx→(∀ s,¬ D s→a'.tmps.getD s undef=a.tmps.getD s undef)→
   K st'=some r→Q .normal a' w')→wpOps C.P ops Q (List.range' k m) a w
 | 0,k,st,a,w,ρ,hk,hr,hf,BV,CV=>by
  have:ops.toList.drop k=[]:=List.drop_eq_nil_of_le (by simp;omega);rw[this]at BV;exact CV st a w ρ hr (λq hq=>hf q (by omega)) (λ_ _ h=>h) (λ_ _=>rfl) (HB.refl _ _) rfl (λ_ _=>rfl) BV
 | m+1,k,st,a,w,ρ,hk,hr,hf,BV,CV=>by
  have HV:k<ops.size:=by omega
  have ho:ops[k]?=some ops[k]:=Array.getElem?_eq_getElem HV;rw[zcj ops HV]at BV;rw[List.range'_succ];simp only[wpOps,ho];have R4:∀d,(ops[k]).dst=some d→D d:=hD _ (Array.getElem_mem HV)
  -- a step
  have step:∀(st0:St),xA C w0 outer own ρ st0 a w→st0.h=st.h→st0.nx=st.nx→(∀s,¬D s→st0.s s=st.s s)→(OA C (nx+128 *k) ops[k] st0 λst'=>dF C ops nx (jD (k+1) (ops.toList.drop (k+1))) st' K)=some r→
    (ops[k]).wp C.P a w (wpOps C.P ops Q (List.range' (k+1) m)) Q:=by
   intro st0 xZ P9 T6 ZX BV;rw[UG]at BV;obtain⟨st1,h1,h2⟩:=Option.bind_eq_some_iff.1 BV;have L:=MQ (n:=nx) (i:=nx+128 *k) (by omega) ops[k] st1 h1;refine LO (aP xZ hC hΦ ⟨_,hf⟩ (λq _=>hf _ (by omega)) h1) (λa' w' ⟨ρ',h,_⟩=>h.defers) _ Q λa1 w1 hA=>?_;obtain⟨⟨ρ1,GW,hE,hx⟩,v,hv⟩:=hA;refine YO hC hΦ nx hD m (k+1) st1 a1 w1 ρ1 (by omega) GW (λq hq=>by rw[hE q (by omega)];exact hf q (by omega)) h2 λst' a' w' ρ' p1 p2 p3 p4 p5 p6 p8 p7=>?_;refine CV st' a' w' ρ' p1 p2 (λq qi hq=>p3 _ _ (hx q qi hq)) (λs hs=>?_) ?_ (p6.trans (L.nx.trans T6)) (λs hs=>by rw[p8 s hs,hv];exact lO (λe=>hs (R4 s e))) p7
   ·rw[p4 s hs,L.slots s (λe=>hs (R4 s e)),ZX s hs]
   ·rw[←P9];exact L.rows.trans p5
  have skip:(AA C (ops[k]).dst st (.tup []) λst'=>dF C ops nx (jD (k+1) (ops.toList.drop (k+1))) st' K)=some r→wpOps C.P ops Q (List.range' (k+1) m) (a.put (ops[k]).dst undef) w:=by
   intro BV;rw[eJ]at BV;obtain⟨st1,h1,h2⟩:=Option.bind_eq_some_iff.1 BV;have L:=BM (π:=λr=>r<nx) (V.tup []) st1 h1;obtain⟨p1,_,_⟩:=hr.put (v:=undef) (d:= .tup []) (.tup [] #[] rfl λj hj=>by simp at hj) h1;refine YO hC hΦ nx hD m (k+1) st1 _ w ρ (by omega) p1 (λq hq=>hf q (by omega)) h2 λst' a' w' ρ' q1 q2 q3 q4 q5 q6 q8 q7=>?_;refine CV st' a' w' ρ' q1 q2 q3 (λs hs=>?_) (L.rows.trans q5) (q6.trans L.nx) (λs hs=>by rw[q8 s hs];exact lO (λe=>hs (R4 s e))) q7;rw[q4 s hs,L.slots s (λe=>hs (R4 s e))]
  simp only[dF]at BV;split at BV
  ·rename_i hg;rw[if_pos (by simp[Region.wanted,hg])];exact .inl (step st hr rfl rfl (λ_ _=>rfl) BV)
  ·rename_i j want hg;split at BV
   ·cases BV
   rename_i dj DY
   have hDj:D dj:=by
    obtain⟨oj,h1,h2⟩:=Option.bind_eq_some_iff.1 DY;exact hD oj (Array.mem_of_getElem? h1) dj h2
   have hv:=hr.slots dj
   have Q9:∀v,a.tmps.getD dj undef=v→(∀b,v≠ .bool b)→yielded ops a.tmps j=none:=λv hv hn=>by
    unfold yielded;rw[DY];simp only[Option.bind_some];split
    ·rename_i b hb;rw[Array.getD_eq_getD_getElem?,hb]at hv;exact absurd hv.symm (hn b)
    ·rfl
   split at BV
   ·rename_i hs;rw[hs]at hv;have hy:=Q9 _ (zdl hv) (λb h=>by cases h);rw[if_neg (by simp[Region.wanted,hg,hy])];exact skip BV
   ·rename_i t hs;rw[hs]at hv
    have hb:a.tmps.getD dj undef= .bool t:=by
     generalize a.tmps.getD dj undef=v at hv;cases hv;rfl
    have XW:dj<a.tmps.size:=by
     rcases Nat.lt_or_ge dj a.tmps.size with h | h
     ·exact h
     ·rw[Array.getD_eq_getD_getElem?,Array.getElem?_eq_none h]at hb;cases hb
    have hy:yielded ops a.tmps j=some t:=by rw[zbb DY XW,hb]
    have iX:({st with s:=cA st.s dj (.bool t)}:St)=st:=by rw[zb1 _ _ _ hs]
    have hw:Region.wanted ops[k] (yielded ops a.tmps)=(t==want):=by
     simp only[Region.wanted,hg,hy];cases t<;>cases want<;>rfl
    rw[hw]
    have BV:(bif t==want then OA C (nx+128 *k) ops[k] {st with s:=cA st.s dj (.bool t)} λst'=>dF C ops nx (jD (k+1) (ops.toList.drop (k+1))) st' K
      else AA C (ops[k]).dst {st with s:=cA st.s dj (.bool t)} (.tup []) λst'=>dF C ops nx (jD (k+1) (ops.toList.drop (k+1))) st' K)=some r:=by
     cases t<;>exact BV
    rw[iX]at BV;cases S4:t==want
    ·rw[S4]at BV;simp only[Bool.false_eq_true,if_false];exact skip BV
    ·rw[S4]at BV;simp only[if_true];exact .inl (step st hr rfl rfl (λ_ _=>rfl) BV)
   ·cases BV
end
end Go.D
namespace Go.D
variable [aA]
def JD(D:Nat→Prop):Option JI→Prop
 | none=>True
 | some j=>∀s,j.has s=true→D s
def gE(an:An)(D:Nat→Prop):Code→Prop
 | .region id ops _=>(∀o∈ops,∀d,o.dst=some d→D d)∧JD D (JA id an.r)
 | .seq a b=>gE an D a∧gE an D b
 | .cond (.tmp t) a b=>gE an D a∧gE an D b∧JD D (JA (bP t a b) an.c)
 | .cond _ a b=>gE an D a∧gE an D b
 | .block id b=>gE an D b∧JD D (JA id an.b)
 | .loop b=>gE an D b∧match lF b with
  | some rid=>JD D (JA rid an.l)
  | none=>True
 | .scope b=>gE an D b
 | _=>True
omit [aA]in
def iK:∀(cs:List nB) (s:Nat),mC cs s=true→∃c∈cs,(∃ty,c= .slot s ty)∨∃t tr,c= .own s t tr
 | [],s,h=>by simp[mC]at h
 | .slot s' ty :: r,s,h=>by
  simp only[mC,Bool.or_eq_true]at h
  rcases h with h | h
  ·have:=Nat.eq_of_beq_eq_true h;subst this;exact⟨_,by simp, .inl ⟨ty,rfl⟩⟩
  ·obtain⟨c,h1,h2⟩:=iK r s h;exact⟨c,by simp[h1],h2⟩
 | .own s' t tr :: r,s,h=>by
  simp only[mC,Bool.or_eq_true]at h
  rcases h with h | h
  ·have:=Nat.eq_of_beq_eq_true h;subst this;exact⟨_,by simp, .inr ⟨t,tr,rfl⟩⟩
  ·obtain⟨c,h1,h2⟩:=iK r s h;exact⟨c,by simp[h1],h2⟩
 | .drop s' :: r,s,h=>by
  obtain⟨c,h1,h2⟩:=iK r s h;exact⟨c,by simp[h1],h2⟩
 | .box s' t ow :: r,s,h=>by
  obtain⟨c,h1,h2⟩:=iK r s h;exact⟨c,by simp[h1],h2⟩
omit [aA]in
def PM(j:JI)(o:Option JI)(h:fits j o=true):JD (λs=>j.has s=true) o:=by
 cases o with
 | none=>trivial
 | some i=>
  simp only[fits,Bool.and_eq_true,List.all_eq_true]at h;intro s hs;simp only[JI.has,Bool.or_eq_true]at hs
  rcases hs with hs | hs
  ·obtain⟨p,hp,T7⟩:=List.any_eq_true.1 hs;simp only[Bool.and_eq_true,Nat.ble_eq]at T7;have h1:=h.1 p hp;simp only[ES,Bool.or_eq_true,Bool.and_eq_true]at h1
   rcases h1 with h1 | ⟨h1,h2⟩
   ·obtain⟨q,hq,E1⟩:=List.any_eq_true.1 h1;simp only[Bool.and_eq_true,Nat.ble_eq]at E1;have:fH j.kill s=true:=List.any_eq_true.2 ⟨q,hq,by simp only[Bool.and_eq_true,Nat.ble_eq];omega⟩;simp[JI.has,this]
   ·have:=Nat.eq_of_beq_eq_true h1;have O1:s=p.1:=by omega
    subst O1;simp[JI.has,h2]
  ·obtain⟨c,h1,h2⟩:=iK _ _ hs;have h3:=h.2 c h1
   rcases h2 with⟨ty,rfl⟩ | ⟨t,tr,rfl⟩<;>exact h3
omit [aA]in
def QD(an:An)(j:JI):∀(c:Code),Code.within an j c=true→gE an (λs=>j.has s=true) c
 | .region id ops d,h=>by
  simp only[Code.within,Bool.and_eq_true,List.all_eq_true]at h;refine⟨λo ho d hd=>?_,PM j _ h.2⟩;have:=h.1 o (by simpa using ho);rw[hd]at this;exact this
 | .seq a b,h=>by
  simp only[Code.within,Bool.and_eq_true]at h;exact⟨QD an j a h.1,QD an j b h.2⟩
 | .cond c a b,h=>by
  cases c with
  | tmp t=>
   simp only[Code.within,Bool.and_eq_true]at h;exact⟨QD an j a h.1.1,QD an j b h.1.2,PM j _ h.2⟩
  | _=>
   simp only[Code.within,Bool.and_eq_true]at h;exact⟨QD an j a h.1,QD an j b h.2⟩
 | .block id b,h=>by
  simp only[Code.within,Bool.and_eq_true]at h;exact⟨QD an j b h.1,PM j _ h.2⟩
 | .loop b,h=>by
  simp only[Code.within,Bool.and_eq_true]at h;refine⟨QD an j b h.1,?_⟩;have h2:=h.2;split
  ·rename_i rid hr;rw[hr]at h2;exact PM j _ h2
  ·trivial
 | .scope b,h=>QD an j b h
 | .skip,_=>trivial
 | .exit _,_=>trivial
 | .ret,_=>trivial
 | .label _,_=>trivial
 | .goto _,_=>trivial
 | .refuse _,_=>trivial
 | .rangeFunc _ _ _ _,_=>trivial
end Go.D

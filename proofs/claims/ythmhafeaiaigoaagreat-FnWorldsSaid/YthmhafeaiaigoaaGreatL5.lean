/-
 The plain semantics of whole bodies: regions, branches that meet again, loops. What meets again meets by a tuple of plain data.
-/
import Derived.Test.YthmhafeaiaigoaaGreatL4
set_option linter.all false
namespace Go.D
open Option renaming bind→ob
noncomputable section
variable [jA]
inductive Ty where
 | v (t:TN)
 | sl (t:TN)
 | raw
 | cells (t:TN)
  | pt (t:TN)
  | c1 (g:Nat) (t:TN)
 | p1 (g:Nat) (t:TN)
 | c2 (g h:Nat) (t:TN)
@[reducible] def Ty.T:Ty→Type
 | .v t=>El t
 | .sl t=>List (El t)
 | .raw=>V
 | .cells t=>El t
 | .pt t=>El t
 | .c1 _ t=>El t
 | .p1 _ t=>El t
 | .c2 _ _ t=>El t×El t
def yK(t:TN)(a:El t):V:=bif t.isAgg then .agg (enc t a)else match enc t a with
 | c :: _=>c
 | []=> .undef
def WC:(t:Ty)→t.T→V
 | .v t,a=>yK t a
 | .sl t,l=> .sl t l
 | .raw,v=>v
 | .cells t,a=> .agg (enc t a)
 | .pt t,a=> .fp (enc t a) 0
 | .c1 g t,a=> .fn g [.fp (enc t a) 0]
 | .p1 g t,a=> .fp [.fn g [.fp (enc t a) 0]] 0
 | .c2 g h t,a=> .fn g [.fp [.fn h [.fp (enc t a.1) 0]] 0, .fp (enc t a.2) 0]
def nE:(t:Ty)→V→Option t.T
 | .v t,v=>match v with
  | .agg cs=>bif t.isAgg then lF t cs else none
  | v=>bif t.isAgg then none else lF t [v]
 | .sl t,v=>WA t v
 | .raw,v=>some v
 | .cells t,v=>match v with
  | .agg cs=>lF t cs
  | _=>none
 | .pt t,v=>match v with
  | .fp cs 0=>lF t cs
  | _=>none
 | .c1 g t,v=>match v with
  | .fn g' [.fp cs 0]=>bif Nat.beq g' g then lF t cs else none
  | _=>none
 | .p1 g t,v=>match v with
  | .fp [.fn g' [.fp cs 0]] 0=>bif Nat.beq g' g then lF t cs else none
  | _=>none
 | .c2 g h t,v=>match v with
  | .fn g' [.fp [.fn h' [.fp cs 0]] 0, .fp ds 0]=>bif Nat.beq g' g&&Nat.beq h' h then ob (lF t cs) λx=>ob (lF t ds) λy=>some (x,y)else none
  | _=>none
inductive iC where
 | slot (s:Nat) (ty:Ty)
 | own (s:Nat) (t:TN)
 | box (s:Nat) (t:TN) (own:List Nat)
  | drop (s:Nat)
@[reducible] def iC.T:iC→Type
 | .slot _ ty=>ty.T
 | .own _ t=>List (El t)
 | .box _ t _=>El t
 | .drop _=>Unit
@[reducible] def ND:List iC→Type
 | []=>Unit
 | [c]=>c.T
 | c :: d :: r=>c.T×ND (d :: r)
@[reducible] def eB:List Ty→Type
 | []=>Unit
 | [c]=>c.T
 | c :: d :: r=>c.T×eB (d :: r)
def uD:(ts:List Ty)→List V→Option (eB ts)
 | [],[]=>some ()
 | [t],[v]=>nE t v
 | t :: d :: r,v :: vs=>ob (nE t v) λx=>ob (uD (d :: r) vs) λy=>some (x,y)
 | _,_=>none
def fB:(ts:List Ty)→eB ts→List V
 | [],_=>[]
 | [t],x=>[WC t x]
 | t :: d :: r,x=>WC t x.1 :: fB (d :: r) x.2
def zdZ:(t:Ty)→t.T→List V
 | .v t,a=>enc t a
 | .sl t,l=>[.sl t l]
 | .raw,v=>[v]
 | .cells t,a=>enc t a
 | .pt t,a=>[.fp (enc t a) 0]
 | .c1 g t,a=>[.fn g [.fp (enc t a) 0]]
 | .p1 g t,a=>[.fp [.fn g [.fp (enc t a) 0]] 0]
 | .c2 g h t,a=>[.fn g [.fp [.fn h [.fp (enc t a.1) 0]] 0, .fp (enc t a.2) 0]]
def vE:(ts:List Ty)→eB ts→List V
 | [],_=>[]
 | [t],x=>zdZ t x
 | t :: d :: r,x=>zdZ t x.1++vE (d :: r) x.2
def GH:(t:Ty)→List V→Option (t.T×List V)
 | .v t,vs=>(lF t (vs.take (sz t))).bind λa=>some (a,vs.drop (sz t))
 | .sl t,v :: vs=>(WA t v).bind λl=>some (l,vs)
 | .sl _,[]=>none
 | .raw,v :: vs=>some (v,vs)
 | .raw,[]=>none
 | .cells t,vs=>(lF t (vs.take (sz t))).bind λa=>some (a,vs.drop (sz t))
 | .pt _,_=>none
 | .c1 _ _,_=>none
 | .p1 _ _,_=>none
 | .c2 _ _ _,_=>none
def qJ:(ts:List Ty)→List V→Option (eB ts)
 | [],[]=>some ()
 | [t],vs=>(GH t vs).bind λx=>match x.2 with
  | []=>some x.1
  | _=>none
 | t :: d :: r,vs=>(GH t vs).bind λx=>(qJ (d :: r) x.2).bind λy=>some (x.1,y)
 | [],_ :: _=>none
structure JI where
 cs:List iC
 kill:List (Nat×Nat)
 pre:List Nat
structure An where
 c:List (Nat×JI)
 b:List (Nat×JI)
 l:List (Nat×JI)
 r:List (Nat×JI)
 d:List (Nat×List Nat)
inductive Ex where
 | normal
 | exit (id:Nat)
 | ret
def FU:Nat:=Classical.choose (⟨2^64,rfl⟩:∃n:Nat,n=2^64)
omit [jA]in
def zhd:FU=2^64:=Classical.choose_spec (⟨2^64,rfl⟩:∃n:Nat,n=2^64)
section
variable {R:Type}
def sA{σ:Type}:Nat→(σ→(σ→Option R)→Option R)→σ→Option R
 | 0,_,_=>none
 | n+1,f,x=>f x (sA n f)
def aA{σ:Type}(k:σ→Option R)(b:(σ→Option R)→Option R):Option R:=b k
def RC{α:Type}(k:Nat):List (Nat×α)→Option α
 | []=>none
 | (j,x) :: r=>bif Nat.beq j k then some x else RC k r
def FT:(c:iC)→St→(c.T→St→Option R)→Option R
 | .slot s ty,st,k=>match rH st.h (st.s s)with
  | some (v,ids)=>ob (nE ty v) λx=>k x {st with h:=DC st.h ids}
  | none=>none
 | .own s t,st,k=>match XS st.h t (st.s s)with
  | some (l,r)=>k l {st with h:=JO st.h r}
  | none=>none
 | .box s t own,st,k=>match st.s s with
  | .bp r 0=>match st.h r with
   | some ⟨.box cs, .own⟩=>match bE own 0 cs (CA st.h r none)with
    | some (cs',h')=>ob (lF t cs') λx=>k x {st with h:=h'}
    | none=>none
   | _=>none
  | _=>none
 | .drop _,st,k=>k () st
def YG:(cs:List iC)→St→(ND cs→Option R)→Option R
 | [],_,k=>k ()
 | [c],st,k=>FT c st λx _=>k x
 | c :: d :: r,st,k=>FT c st λx st'=>YG (d :: r) st' λy=>k (x,y)
def zL:V→Option Nat
 | .ow r=>some r
 | .ov r _ _ _=>some r
 | _=>none
def wI:(c:iC)→Nat→c.T→(Nat→V)→Nat→V
 | .slot s ty,_,x,f=>CA f s (WC ty x)
 | .own s _,id,_,f=>CA f s (.ow id)
 | .box ..,_,_,f=>f
 | .drop _,_,_,f=>f
def VG:(cs:List iC)→Nat→ND cs→(Nat→V)→Nat→V
 | [],_,_,f=>f
 | [c],id,x,f=>wI c id x f
 | c :: d :: r,id,x,f=>wI c id x.1 (VG (d :: r) (id+128) x.2 f)
def vK(sl:Nat→V):(c:iC)→Nat→c.T→(Nat→Option uA)→Nat→Option uA
 | .slot ..,_,_,h=>h
 | .own _ t,id,x,h=>CA h id (some ⟨.arr t x, .own⟩)
 | .box s t own,id,x,h=>match sl s with
  | .bp r 0=>CA (cB own id h 0 (enc t x)) r (some ⟨.box (SA own id 0 (enc t x)), .own⟩)
  | _=>h
 | .drop _,_,_,h=>h
def OO(sl:Nat→V):(cs:List iC)→Nat→ND cs→(Nat→Option uA)→Nat→Option uA
 | [],_,_,h=>h
 | [c],id,x,h=>vK sl c id x h
 | c :: d :: r,id,x,h=>vK sl c id x.1 (OO sl (d :: r) (id+128) x.2 h)
def EO(kill:List (Nat×Nat))(i:Nat):Bool:=kill.any λp=>Nat.ble p.1 i&&Nat.ble i p.2
def mE:List iC→Nat→Bool
 | [],_=>false
 | .slot s _ :: r,i=>Nat.beq s i||mE r i
 | .own s _ :: r,i=>Nat.beq s i||mE r i
 | .box .. :: r,i=>mE r i
 | .drop _ :: r,i=>mE r i
def kJ(st:St)(r:Nat):iC→Bool
 | .slot .. =>false
 | .own s _=>match zL (st.s s)with | some r'=>Nat.beq r r' | none=>false
 | .box s _ _ | .drop s=>match st.s s with
  | .bp b 0=>Nat.beq r b||match st.h b with
   | some ⟨.box cs,_⟩=>cs.any λc=>match zL c with | some r'=>Nat.beq r r' | none=>false
   | _=>false
  | _=>false
def wL(cs:List iC)(st:St)(r:Nat):Bool:=cs.any (kJ st r)
def SH(j:JI)(base:St):Nat→Option uA:=λr=>match base.h r with
 | some ⟨c, .own⟩=>bif wL j.cs base r then none else some ⟨c, .own⟩
 | x=>x
def install(j:JI)(base:St)(x:ND j.cs):St:=
 { s:=VG j.cs base.nx x fun i=>bif EO j.kill i then .undef else base.s i
   h:=OO base.s j.cs base.nx x (SH j base)
   nx:=base.nx+128 *j.cs.length}
def kD(j:JI)(st:St):St:=
 { st with h:=fun r=>match st.h r with
   | some ⟨c, .own⟩=>bif wL j.cs st r then some ⟨c, .own⟩else some ⟨c, .lock⟩
   | x=>x}
def unlock(base st:St):St:=
 { st with h:=fun r=>match st.h r with
   | some ⟨c, .lock⟩=>match base.h r with
    | some ⟨_, .own⟩=>some ⟨c, .own⟩
    | _=>some ⟨c, .lock⟩
   | x=>x}
def zha(st:St)(s:Nat):Option (List Nat):=
 bif Nat.ble 1000000 s then
  match st.s (s - 1000000)with
  | .bp r _=>match st.h r with
   | some ⟨.box cs,_⟩=>match bG st.h cs with
    | some (_,ids)=>some ids
    | none=>none
   | _=>none
  | _=>none
 else match rH st.h (st.s s)with
  | some (_,ids)=>some ids
  | none=>none
def xK(pre:List Nat)(st:St):Option St:=
 match pre with
 | []=>some st
 | s :: r=>match zha st s with
  | some ids=>xK r {st with h:=DC st.h ids}
  | none=>none
def NK:Code→Option Nat
 | .region id _ _=>some id
 | .seq a b=>match NK a with
  | some i=>some i
  | none=>NK b
 | .cond _ a _=>NK a
 | .block _ b | .loop b | .scope b=>NK b
 | _=>none
def zgR(t:Nat)(a b:Code):Nat:=t *65536+match NK a with
 | some i=>i+1
 | none=>match NK b with
  | some i=>i+1
  | none=>0
def JI.has(j:JI)(i:Nat):Bool:=EO j.kill i||mE j.cs i
def zlX(kill:List (Nat×Nat))(j:JI)(p:Nat×Nat):Bool:=kill.any (λq=>Nat.ble q.1 p.1&&Nat.ble p.2 q.2)||(Nat.beq p.1 p.2&&mE j.cs p.1)
def zw7(j:JI):iC→Bool
 | .slot s _=>j.has s
 | .own s _=>j.has s
 | .box .. | .drop _=>true
def fits(j:JI):Option JI→Bool
 | none=>true
 | some i=>i.kill.all (zlX j.kill j)&&i.cs.all (zw7 j)
def Code.within(an:An)(j:JI):Code→Bool
 | .region id ops _=>ops.toList.all (λo=>match o.dst with | some d=>j.has d | none=>true)&&fits j (RC id an.r)
 | .seq a b=>Code.within an j a&&Code.within an j b
 | .cond (.tmp t) a b=>Code.within an j a&&Code.within an j b&&fits j (RC (zgR t a b) an.c)
 | .cond _ a b=>Code.within an j a&&Code.within an j b
 | .block id b=>Code.within an j b&&fits j (RC id an.b)
 | .loop b=>Code.within an j b&&match NK b with
  | some rid=>fits j (RC rid an.l)
  | none=>true
 | .scope b=>Code.within an j b
 | _=>true
def DS(j:JI):Bool:=j.cs.all λc=>match c with
 | .box s _ _ | .drop s=>!(j.has s)
 | _=>true
def gI:List iC→Bool
 | []=>true
 | .slot s _ :: r=>!(mE r s)&&gI r
 | .own s _ :: r=>!(mE r s)&&gI r
 | .box .. :: r=>gI r
 | .drop _ :: r=>gI r
def iH(an:An)(j:JI)(c:Code):Bool:=Code.within an j c&&DS j&&gI j.cs
variable (C:Cx)
def FJ(ops:Array Oper)(nx:Nat):List (Nat×Oper)→St→(St→Option R)→Option R
 | [],st,K=>K st
 | (i,o) :: rest,st,K=>
  match o.guard with
  | none=>qB C (nx+128 *i) o st λst'=>FJ ops nx rest st' K
  | some (j,want)=>match(ops[j]?).bind (·.dst)with
   | none=>none
   | some dj=>match st.s dj with
    | .tup []=>VA C o.dst st (.tup []) λst'=>FJ ops nx rest st' K
    | .bool t=>
     let G:Bool→Option R:=λb=>
      let st:={st with s:=CA st.s dj (.bool b)}
      gd (b==want) (qB C (nx+128 *i) o st λst'=>FJ ops nx rest st' K) (VA C o.dst st (.tup []) λst'=>FJ ops nx rest st' K)
     cond t (G true) (G false)
    | _=>none
def GF{α:Type}:Nat→List α→List (Nat×α)
 | _,[]=>[]
 | i,x :: r=>(i,x) :: GF (i+1) r
structure wD where
 i:Nat
 dst:Option Nat
 ls:List Nat
 rd:List Nat
 wr:List Nat
def VE(r:Nat)(l:List Nat):Bool:=l.any (Nat.beq r)
def EV:Option uA→Option uA
 | some ⟨c, .own⟩=>some ⟨c, .lock⟩
 | x=>x
def AG(rd wr:List Nat)(h:Nat→Option uA):Nat→Option uA:=λr=>bif VE r wr then h r else bif VE r rd then EV (h r)else none
def EL(ls:List Nat)(s:Nat→V):Nat→V:=λt=>bif VE t ls then s t else .undef
def pI(b r:Nat):Bool:=Nat.ble b r&&Nat.blt r (b+128)
def HL(b:Nat)(wr:List Nat)(h h':Nat→Option uA):Nat→Option uA:=λr=>bif VE r wr||pI b r then h' r else h r
def iN(dst:Option Nat)(s s':Nat→V):Nat→V:=match dst with
 | none=>s
 | some d=>CA s d (s' d)
def RF(b:Nat)(o:Oper)(ls rd wr:List Nat)(st:St)(K:St→Option R):Option R:=
 qB C b o {s:=EL ls st.s,h:=AG rd wr st.h,nx:=st.nx} λst'=>K {s:=iN o.dst st.s st'.s,h:=HL b wr st.h st'.h,nx:=st.nx}
def dJ:V→List Nat
 | .ow r=>[r]
 | .ov r _ _ _=>[r]
 | .bp r _=>[r]
 | .ep r _ _ _=>[r]
 | _=>[]
def zgZ:V→List Nat
 | .agg cs=>cs.flatMap dJ
 | v=>dJ v
def zmC(h:Nat→Option uA):V→List Nat
 | .bp r _=>r :: match h r with
  | some ⟨.box cs,_⟩=>cs.flatMap dJ
  | _=>[]
 | v=>zgZ v
def zmu(h:Nat→Option uA)(r:Nat):Bool:=match h r with
 | some ⟨_, .ro⟩=>true
 | _=>false
def zdz(h:Nat→Option uA)(l:List Nat):List Nat×List Nat:=(l.filter (zmu h),l.filter λr=>!zmu h r)
def DI(o:Oper)(st:St):List Nat×List Nat:=
 match o.op with
 | .load _ a=>(dJ (opd st.s a),[])
 | .store _ a x=>match opd st.s a with
  | .ep r _ _ _=>let p:=zdz st.h (zgZ (opd st.s x));(p.1,r :: p.2)
  | v=>([],dJ v)
 | .slice _ x _ _ _=>(dJ (opd st.s x),[])
 | .indexAddr _ x _=>(dJ (opd st.s x),[])
 | .convert _ _ x=>(dJ (opd st.s x),[])
 | .buildSlice _ _ ps=>zdz st.h (ps.toList.flatMap λp=>zgZ (opd st.s p.2))
 | .makeFunc _ _ cs=>zdz st.h (cs.toList.flatMap λx=>zmC st.h (opd st.s x))
 | .call {callee:= .builtin .append,args,argTypes:=_}=>match args.toList with
  | [x,y]=>(dJ (opd st.s y),dJ (opd st.s x))
  | _=>([],[])
 | .call {callee:= .builtin _,args,argTypes:=_}=>(args.toList.flatMap λx=>dJ (opd st.s x),[])
 | .call {callee:=_,args,argTypes:=_}=>zdz st.h (args.toList.flatMap λx=>zmC st.h (opd st.s x))
 | _=>([],[])
def wO(o:Oper):List Nat:=o.op.operands.toList.filterMap λx=>match x with
 | .tmp t=>some t
 | _=>none
def zd1(d:Option Nat)(l:List Nat):Bool:=match d with
 | some d=>VE d l
 | none=>false
def uJ(nx:Nat)(e1 e:wD):Bool:=
 !(zd1 e1.dst e.ls)&&!(zd1 e.dst e1.ls)&&!(zd1 e1.dst e.dst.toList)&&
 e1.wr.all (λr=>!(VE r e.rd)&&!(VE r e.wr))&&e.wr.all (λr=>!(VE r e1.rd))&&
 e.rd.all (λr=>!(pI (nx+128 *e1.i) r))&&e.wr.all (λr=>!(pI (nx+128 *e1.i) r))&&
 e1.rd.all (λr=>!(pI (nx+128 *e.i) r))&&e1.wr.all (λr=>!(pI (nx+128 *e.i) r))
def nJ(mask nx:Nat)(rs:List wD)(e:wD):Bool:=rs.all λe1=>Nat.testBit mask e1.i||uJ nx e1 e
def zao(ms:List Nat)(es:List Edge):Nat:=es.foldl (λs e=>bif Region.binds .any e then s|||(2^e.on|||ms.getD e.on 0)else s) 0
def pD:List Nat→List Oper→List Nat
 | ms,[]=>ms
 | ms,o :: r=>pD (ms++[zao ms o.after.toList]) r
def zlP(i:Nat)(o:Oper):Bool:=o.after.toList.all λe=>!(Region.binds .any e)||Nat.blt e.on i
def vJ(ops:Array Oper)(ms:List Nat)(nx:Nat):List (Nat×Oper)→List wD→St→(St→Option R)→Option R
 | [],_,st,K=>K st
 | (i,o) :: rest,rs,st,K=>
  gd (zlP i o) (
  match o.guard with
  | none=>
   let f:=DI o st;let e:wD:=⟨i,o.dst,wO o,f.1,f.2⟩
   gd (nJ (ms.getD i 0) nx rs e) (RF C (nx+128 *i) o e.ls e.rd e.wr st λst'=>vJ ops ms nx rest (e :: rs) st' K) none
  | some (j,want)=>match(ops[j]?).bind (·.dst)with
   | none=>none
   | some dj=>
    let skip:St→Option R:=λst=>
     let e:wD:=⟨i,o.dst,[dj],[],[]⟩
     gd (nJ (ms.getD i 0) nx rs e) (VA C o.dst st (.tup []) λst'=>vJ ops ms nx rest (e :: rs) st' K) none
    match st.s dj with
    | .tup []=>skip st
    | .bool t=>
     let G:Bool→Option R:=λb=>
      let st:={st with s:=CA st.s dj (.bool b)}
      gd (b==want) (
       let f:=DI o st;let e:wD:=⟨i,o.dst,dj :: wO o,f.1,f.2⟩
       gd (nJ (ms.getD i 0) nx rs e) (RF C (nx+128 *i) o e.ls e.rd e.wr st λst'=>vJ ops ms nx rest (e :: rs) st' K) none) (skip st)
     cond t (G true) (G false)
    | _=>none) none
def zmU(pre:List Nat)(ops:Array Oper)(st:St)(K:St→Option R):Option R:=
 match xK pre st with
 | none=>none
 | some st=>vJ C ops (pD [] ops.toList) st.nx (GF 0 ops.toList) [] st λst'=>K {st' with nx:=st.nx+128 *ops.size}
def zaI(pre:List Nat)(draw:Bool)(ops:Array Oper)(st:St)(K:St→Option R):Option R:=
 gd (draw) (zmU C pre ops st K) (
 FJ C ops st.nx (GF 0 ops.toList) st λst'=>K {st' with nx:=st.nx+128 *ops.size})
def XE (an:An):Code→St→(Ex→St→Option R)→Option R
 | .skip,st,K=>K .normal st
 | .region id ops d,st,K=>match RC id an.r with
  | none=>zaI C ((RC id an.d).getD []) d ops st (K .normal)
  | some j=>match xK j.pre st with
   | none=>none
   | some st=>gd (iH an j (.region id ops d)) (
     aA (λy:ND j.cs=>K .normal (install j st y)) λk=>zaI C ((RC id an.d).getD []) d ops (kD j st) λst'=>YG j.cs st' k) none
 | .seq a b,st,K=>XE an a st λe st'=>match e with
  | .normal=>XE an b st' K
  | e=>K e st'
 | .cond (.tmp t) a b,st,K=>match st.s t with
  | .bool x=>match RC (zgR t a b) an.c with
   | none=>cond x (XE an a st K) (XE an b st K)
   | some j=>match xK j.pre st with
    | none=>none
    | some st=>gd (iH an j a&&iH an j b) (
      aA (λy:ND j.cs=>K .normal (install j st y)) λk=>
       let K':Ex→St→Option R:=λe st'=>match e with
        | .normal=>YG j.cs st' k
        | e=>K e (unlock st st')
       cond x (XE an a (kD j st) K') (XE an b (kD j st) K')) none
  | _=>none
 | .block id b,st,K=>match RC id an.b with
  | none=>XE an b st λe st'=>match e with
   | .exit id'=>gd (Nat.beq id' id) (K .normal st') (K e st')
   | e=>K e st'
  | some j=>match xK j.pre st with
   | none=>none
   | some st=>gd (iH an j b) (
     aA (λy:ND j.cs=>K .normal (install j st y)) λk=>
      XE an b (kD j st) λe st'=>match e with
       | .normal=>YG j.cs st' k
       | .exit id'=>gd (Nat.beq id' id) (YG j.cs st' k) (K e (unlock st st'))
       | e=>K e (unlock st st')) none
 | .loop b,st,K=>match NK b with
  | none=>none
  | some rid=>match RC rid an.l with
   | none=>none
   | some j=>match xK j.pre st with
    | none=>none
    | some st=>gd (iH an j b) (
      YG j.cs (kD j st) λx0=>sA FU (λ(x:ND j.cs) (k:ND j.cs→Option R)=>
       XE an b (kD j (install j st x)) λe st'=>match e with
        | .normal=>YG j.cs st' k
        | e=>K e (unlock (install j st x) st')) x0) none
 | .exit id,st,K=>K (.exit id) st
 | .ret,st,K=>K .ret st
 | _,_,_=>none
def BH(P:Program)(st:St):List ResultVar→List (Bool×Nat)→Option (List V)
 | [],[]=>some []
 | .tmp t :: r,(ag,n) :: sh=>match st.s t,BH P st r sh with
  | .agg cs,some vs=>bif ag&&Nat.beq n cs.length then some (cs++vs)else none
  | v,some vs=>bif !ag&&Nat.beq n 1&&v.leaf then some (v :: vs)else none
  | _,none=>none
 | .cell a t :: r,(ag,n) :: sh=>match st.s a,BH P st r sh,gF P t,sF P t with
  | .bp b 0,some vs,some ag',some n'=>match st.h b with
   | some ⟨.box cs,_⟩=>bif (ag==ag')&&Nat.beq n n'&&Nat.beq n cs.length&&(ag||Nat.beq n 1)then some (cs++vs)else none
   | _=>none
  | _,_,_,_=>none
 | _,_=>none
def pG(st:St):List sB→List V→Nat→Option (List V)
 | .plain :: ks,_ :: as,k=>pG st ks as (k+1)
 | .mv _ :: ks,_ :: as,k=>pG st ks as (k+1)
 | .ptr _ :: ks, .agg cs0 :: as,k=>match st.h (128 *k+127),pG st ks as (k+1)with
  | some ⟨.box cs, .own⟩,some vs=>bif Nat.beq cs.length cs0.length then some (cs++vs)else none
  | _,_=>none
 | [],[],_=>some []
 | _,_,_=>none
def FC:List sB→List Ty→Bool
 | [],[]=>true
 | .plain :: ks,_ :: ts=>FC ks ts
 | .ptr _ :: ks, .cells t :: ts=>Nat.ble (sz t) 127&&FC ks ts
 | .mv _ :: ks, .v t :: ts=>t.isAgg&&Nat.ble (sz t) 127&&FC ks ts
 | _,_=>false
def zat(fn:Func)(body:Code)(an:An)(ks:List sB)(own:List Nat)(shape:List (Bool×Nat))(ts:List Ty)(as:List V):Option (eB ts):=
 XE C an body {s:=λi=>match(SB ks 0 as).drop i with | v :: _=>v | []=> .undef,h:=FA ks 0 as,nx:=128 *ks.length} λe st=>
  match e with
  | .exit _=>none
  | _=>match BH C.P st fn.results.toList shape,pG st ks as 0 with
   | some vs,some us=>match bE own 0 (vs++us) st.h with
    | some (rs,_)=>qJ ts rs
    | none=>none
   | _,_=>none
end
end
end Go.D
namespace Go.D
variable [jA]
section
variable {C:Cx} {w0:World} {outer own:Nat→Prop} {ρ:Nat→Option RI} {st st':St} {a:Act} {w:World} {R:Type}
omit [jA]in
def AP(ow:List Nat):∀(cs:List V) (p:Nat) (h:Nat→Option uA) (x:List V×(Nat→Option uA)),bE ow p cs h=some x→x.1.length=cs.length
 | [],p,h,x,ht=>by simp[bE]at ht;subst ht;rfl
 | c :: cs,p,h,x,ht=>by
  simp only[bE]at ht;cases hb:ow.any (Nat.beq p)
  ·simp only[hb,cond_false]at ht;split at ht
   case h_2=>cases ht
   split at ht
   case h_2=>cases ht
   rename_i hr;have k:=AP ow cs (p+1) _ _ hr;cases ht;simpa using k
  ·simp only[hb,cond_true]at ht;split at ht
   ·split at ht
    case h_2=>cases ht
    split at ht
    case h_2=>cases ht
    rename_i hr;have k:=AP ow cs (p+1) _ _ hr;cases ht;simpa using k
   ·split at ht
    case h_2=>cases ht
    rename_i hr;have k:=AP ow cs (p+1) _ _ hr;cases ht;simpa using k
   ·split at ht
    case h_2=>cases ht
    split at ht
    case h_2=>cases ht
    rename_i hr;have k:=AP ow cs (p+1) _ _ hr;cases ht;simpa using k
   ·cases ht
def pK(w:World)(ρ:Nat→Option RI)(bad:Nat→Prop)(g:Nat→Option uA)(tv:Nat→Value)(sl:Nat→V):(c:iC)→Nat→c.T→Prop
 | .slot s ty,_,x=>VR w ρ bad (tv s) (WC ty x)∧mD (WC ty x)
 | .own s t,id,x=>VR w ρ bad (tv s) (.ow id)∧g id=some ⟨.arr t x, .own⟩
 | .drop _,_,_=>True
 | .box s t ow,id,x=>∃r,sl s= .bp r 0∧g r=some ⟨.box (SA ow id 0 (enc t x)), .own⟩∧∀q,q<128→g (id+q)=cB ow id (λ_=>none) 0 (enc t x) (id+q)
omit [jA]in
def zzF{v:V}{ds:List V}(h:aC [v] ds):∃d,ds=[d]∧XH v d:=by
 cases h with
 | cons h1 h2=>cases h2;exact⟨_,rfl,h1⟩
omit [jA]in
def zvL(t:TN)(x:El t):0<(enc t x).length:=by rw[oD];exact FO t
def zag{t:TN}{cs:List V}{x:El t}{bad:Nat→Prop}{u:Value}(hd:lF t cs=some x)(hv:VR w ρ bad u (.fp cs 0)):VR w ρ bad u (.fp (enc t x) 0):=by
 have hs:=JF t hd;cases hv with
 | fp _ off b o u h0 hb hu hv=>
 exact .fp _ _ b o u (zvL t x) hb (λj hj=>hu j (by rw[hs.len];exact hj)) λj hj=>VR.sub (hs.get j (by rw[hs.len];exact hj) hj) (hv j (by rw[hs.len];exact hj))
def fn1{bad:Nat→Prop}{u:Value}{g:Nat}{c d:V}(h:∀u',VR w ρ bad u' c→VR w ρ bad u' d)(hv:VR w ρ bad u (.fn g [c])):VR w ρ bad u (.fn g [d]):=by
 cases hv with
 | fn _ _ caps hs hv=>
 exact .fn _ _ caps hs λj hj=>by
  have:j=0:=by simp at hj;omega
  subst this;exact h _ (hv 0 (by simp))
def fn2{bad:Nat→Prop}{u:Value}{g:Nat}{c d c' d':V}(h:∀u',VR w ρ bad u' c→VR w ρ bad u' d)(h':∀u',VR w ρ bad u' c'→VR w ρ bad u' d')(hv:VR w ρ bad u (.fn g [c,c'])):VR w ρ bad u (.fn g [d,d']):=by
 cases hv with
 | fn _ _ caps hs hv=>
 exact .fn _ _ caps hs λj hj=>by
  match j,hj with
  | 0,_=>exact h _ (hv 0 (by simp))
  | 1,_=>exact h' _ (hv 1 (by simp))
def fp1{bad:Nat→Prop}{u:Value}{c d:V}(h:∀u',VR w ρ bad u' c→VR w ρ bad u' d)(hv:VR w ρ bad u (.fp [c] 0)):VR w ρ bad u (.fp [d] 0):=by
 cases hv with
 | fp _ off b o u h0 hb hu hv=>
 exact .fp _ _ b o u (by simp) hb (λj hj=>hu j hj) λj hj=>by
  have:j=0:=by simp at hj;omega
  subst this;exact h _ (hv 0 (by simp))
def zlm(ty:Ty)(v:V)(x:ty.T){bad:Nat→Prop}{u:Value}(hd:nE ty v=some x)(hv:VR w ρ bad u v):VR w ρ bad u (WC ty x):=by
 cases ty with
 | v t=>
  simp only[nE]at hd;split at hd
  ·rename_i cs;cases DW:t.isAgg
   case false=>simp[DW]at hd
   simp only[DW,cond_true]at hd;have hs:=JF t hd;simp only[WC,yK,DW,cond_true];cases hv with
   | agg _ vs h1 h2=>
   refine .agg _ _ (by rw[h1];exact hs.len) λj hj=>VR.sub (hs.get j (by rw[hs.len];exact hj) hj) (h2 j (by rw[hs.len];exact hj))
  ·cases DW:t.isAgg
   case true=>simp[DW]at hd
   simp only[DW,cond_false]at hd;obtain⟨d,h1,h2⟩:=zzF (JF t hd);simp only[WC,yK,DW,cond_false,h1];exact VR.sub h2 hv
 | sl t=>exact VR.sub (YA hd) hv
 | raw=>simp only[nE,Option.some.injEq]at hd;subst hd;exact hv
 | cells t=>
  simp only[nE]at hd;split at hd
  ·have hs:=JF t hd;simp only[WC];cases hv with
   | agg _ vs h1 h2=>
   exact .agg _ _ (by rw[h1];exact hs.len) λj hj=>VR.sub (hs.get j (by rw[hs.len];exact hj) hj) (h2 j (by rw[hs.len];exact hj))
  ·cases hd
 | pt t=>
  simp only[nE]at hd;split at hd
  ·exact zag hd hv
  ·cases hd
 | c1 g t=>
  simp only[nE]at hd;split at hd
  ·rename_i g' cs;cases hg:Nat.beq g' g
   case false=>rw[hg]at hd;cases hd
   rw[hg,cond_true]at hd;have:=Nat.eq_of_beq_eq_true hg;subst this;exact fn1 (λ_=>zag hd) hv
  ·cases hd
 | p1 g t=>
  simp only[nE]at hd;split at hd
  ·rename_i g' cs;cases hg:Nat.beq g' g
   case false=>rw[hg]at hd;cases hd
   rw[hg,cond_true]at hd;have:=Nat.eq_of_beq_eq_true hg;subst this;exact fp1 (λ_=>fn1 λ_=>zag hd) hv
  ·cases hd
 | c2 g h t=>
  simp only[nE]at hd;split at hd
  ·rename_i g' h' cs ds;cases F6:Nat.beq g' g&&Nat.beq h' h
   case false=>rw[F6]at hd;cases hd
   rw[F6,cond_true]at hd;rw[Bool.and_eq_true]at F6;have:=Nat.eq_of_beq_eq_true F6.1;have h2:=Nat.eq_of_beq_eq_true F6.2;subst this h2;obtain⟨a,ha,hd⟩:=Option.bind_eq_some_iff.1 hd;obtain⟨b,hb,hd⟩:=Option.bind_eq_some_iff.1 hd;cases hd;exact fn2 (λ_=>fp1 λ_=>fn1 λ_=>zag ha) (λ_=>zag hb) hv
  ·cases hd
omit [jA]in
def tV(t:TN)(x:El t):mD (.fp (enc t x) 0):=λS=> .fp _ _ λj hj=>by
 have:=RM S t x j;rw[List.getD_eq_getElem?_getD,List.getElem?_eq_getElem hj]at this;exact this
omit [jA]in
def zfU{g:Nat}{c:V}(h:mD c):mD (.fn g [c]):=λS=> .fn _ _ λj hj=>by
 have:j=0:=by simp at hj;omega
 subst this;exact h S
omit [jA]in
def ztz{g:Nat}{c d:V}(h:mD c)(h':mD d):mD (.fn g [c,d]):=λS=> .fn _ _ λj hj=>by
 match j,hj with
 | 0,_=>exact h S
 | 1,_=>exact h' S
omit [jA]in
def zkC{c:V}(h:mD c):mD (.fp [c] 0):=λS=> .fp _ _ λj hj=>by
 have:j=0:=by simp at hj;omega
 subst this;exact h S
omit [jA]in
def zsm(ty:Ty)(v:V)(x:ty.T)(hd:nE ty v=some x)(hv:mD v):mD (WC ty x):=by
 cases ty with
 | v t=>
  intro S;simp only[WC,yK];cases DW:t.isAgg
  ·simp only[cond_false];split
   ·rename_i c r he;have:=RM S t x 0;rw[he]at this;exact this
   ·exact .undef
  ·refine .agg _ λj hj=>?_;have:=RM S t x j;rw[List.getD_eq_getElem?_getD,List.getElem?_eq_getElem hj]at this;exact this
 | sl t=>exact EM _ _
 | raw=>simp only[nE,Option.some.injEq]at hd;subst hd;exact hv
 | cells t=>
  intro S;simp only[WC];refine .agg _ λj hj=>?_;have:=RM S t x j;rw[List.getD_eq_getElem?_getD,List.getElem?_eq_getElem hj]at this;exact this
 | pt t=>exact tV t x
 | c1 g t=>exact zfU (tV t x)
 | p1 g t=>exact zkC (zfU (tV t x))
 | c2 g h t=>exact ztz (zkC (zfU (tV t x.1))) (tV t x.2)
structure Ex1(w0:World)(outer own:Nat→Prop)(w:World)(tv:Nat→Value)(c:iC)(id:Nat)(ρ:Nat→Option RI)(g:Nat→Option uA)(st1:St)(x:c.T)(st2:St)(ρ':Nat→Option RI)(g':Nat→Option uA):Prop where
 slots:st2.s=st1.s
 heap:rB w0 outer own ρ' g' w
 lies:mH st2.h g'
 less:∀q,st1.h q=none→st2.h q=none
 left:∀n,nD n st1.h st2.h
 out:∀q,Out id 128 q→ρ' q=ρ q∧(st1.h q=none→g' q=g q)
 ext:∀q qi,ρ q=some qi→ρ' q=some qi
 keep:∀u d,VR w ρ (tA outer ρ g) u d→VR w ρ' (tA outer ρ' g') u d
 ok:pK w ρ' (tA outer ρ' g') g' tv st1.s c id x
 gone:∀s t ow r,c= .box s t ow→st1.s s= .bp r 0→st2.h r=none∧Out id 128 r
def zmo{tv:Nat→Value}(c:iC)(id:Nat)(st1:St)(k:c.T→St→Option R){r:R}{g:Nat→Option uA}(he:FT c st1 k=some r)(hh:rB w0 outer own ρ g w)(hl:mH st1.h g)
  (hv:∀s,VR w ρ (tA outer ρ g) (tv s) (st1.s s)) (hρ:∀q,q<128→ρ (id+q)=none) (hn:∀q,q<128→st1.h (id+q)=none):
  ∃x st2 ρ' g',k x st2=some r∧Ex1 w0 outer own w tv c id ρ g st1 x st2 ρ' g':=by
 have NW:∀q row,st1.h q=some row→Out id 128 q:=λq row hq h3=>by
  have:=hn (q - id) (by omega);rw[show id+(q - id)=q by omega,hq]at this;cases this
 have h0:ρ id=none:=hρ 0 (by omega);have U1:st1.h id=none:=hn 0 (by omega);cases c with
 | drop s=>exact⟨(),st1,ρ,g,he,rfl,hh,hl,λ_ h=>h,λn=>nD.refl n _,λq _=>⟨rfl,λ_=>rfl⟩,λ_ _ h=>h,λ_ _ h=>h,trivial,λs t ow r h=>by cases h⟩
 | slot s ty=>
  simp only[FT]at he;split at he
  case h_2=>cases he
  rename_i v ids FZ;obtain⟨x,hx,he⟩:=Option.bind_eq_some_iff.1 he;obtain⟨k1,k2⟩:=zli hl FZ;have k2:∀r∈ids,∃row,st1.h r=some row:=k2;obtain⟨m1,m2⟩:=hh.mark ids;obtain⟨f1,f2⟩:=zg9 hh (hv s) k1;have Z1:∀r,st1.h r=none→r∉ids:=λr hn hm=>by obtain⟨row,h5⟩:=k2 r hm;rw[hn]at h5;cases h5
  exact⟨x,_,ρ,DC g ids,he,rfl,m1,zfZ hl ids,λq hq=>by show DC st1.h ids q=none;rw[AF,if_neg (Z1 q hq)];exact hq,λn=>PN _ (zcj FZ),
   λq _=>⟨rfl,λhq=>by rw[AF,if_neg (Z1 q hq)]⟩,λ_ _ h=>h,m2,⟨zlm ty v x hx f1,zsm ty v x hx f2⟩,λs t ow r h=>by cases h⟩
 | own s t=>
  simp only[FT]at he;split at he
  case h_2=>cases he
  rename_i l ro QW;have htk0:=QW;have JX:=hv s
  -- a row that has moved
  have moved:∀(q:Nat) (m:oH) (l0:List (El t)) (ri':RI),ro=some q→st1.h q=some ⟨.arr t l0, .own⟩→rB w0 outer own (CA ρ id (some ri')) (CA (CA g q none) id (some ⟨.arr t l, .own⟩)) w→
    (∀u d,VR w ρ (tA outer ρ g) u d→VR w (CA ρ id (some ri')) (tA outer (CA ρ id (some ri')) (CA (CA g q none) id (some ⟨.arr t l, .own⟩))) u d)→
    VR w (CA ρ id (some ri')) (tA outer (CA ρ id (some ri')) (CA (CA g q none) id (some ⟨.arr t l, .own⟩))) (tv s) (.ow id)→
    ∃x st2 ρ' g',k x st2=some r∧Ex1 w0 outer own w tv (.own s t) id ρ g st1 x st2 ρ' g':=by
   rintro q m l0 ri' rfl hq n1 n2 n3;have Z8:=NW q _ hq;refine⟨l,_,_,_,he,rfl,n1,λp row hp=>?_,λp hp=>?_,λn=>zkq htk0,λp hp=>⟨DA _ _ _ _ ?_,λT4=>?_⟩,λp pi hp=>?_,n2,⟨n3,RA _ _ _⟩,λs t ow r h=>by cases h⟩
   ·have hp:CA st1.h q none p=some row:=hp
    by_cases MX:p=q
    ·subst MX;rw[RA]at hp;cases hp
    ·rw[DA _ _ _ _ MX]at hp;rw[DA _ _ _ _ (by rintro rfl;rw[U1]at hp;cases hp),DA _ _ _ _ MX];exact hl _ _ hp
   ·show CA st1.h q none p=none
    by_cases MX:p=q
    ·subst MX;exact RA _ _ _
    ·rw[DA _ _ _ _ MX];exact hp
   ·rintro rfl;exact hp ⟨Nat.le_refl _,by omega⟩
   ·rw[DA _ _ _ _ (by rintro rfl;exact hp ⟨Nat.le_refl _,by omega⟩),DA];rintro rfl;rw[hq]at T4;cases T4
   ·rw[DA];exact hp;rintro rfl;rw[h0]at hp;cases hp
  unfold XS at QW;split at QW
  ·rename_i kW;simp only[Option.some.injEq,Prod.mk.injEq]at QW;obtain⟨rfl,rfl⟩:=QW;rw[kW]at JX;have hvn:tv s= .slice none 0 0:=by generalize tv s=x at JX;cases JX;rfl
   obtain⟨n1,n2⟩:=hh.empty t h0;refine⟨[],_,_,_,he,rfl,n1,λp row hp=>?_,λp hp=>hp,λn=>nD.refl n _,λp hp=>⟨DA _ _ _ _ ?_,λT4=>DA _ _ _ _ ?_⟩,λp pi hp=>?_,n2,⟨?_,RA _ _ _⟩,λs t ow r h=>by cases h⟩
   ·have hp:st1.h p=some row:=hp;rw[DA _ _ _ _ (by rintro rfl;rw[U1]at hp;cases hp)];exact hl _ _ hp
   ·rintro rfl;exact hp ⟨Nat.le_refl _,by omega⟩
   ·rintro rfl;exact hp ⟨Nat.le_refl _,by omega⟩
   ·rw[DA];exact hp;rintro rfl;rw[h0]at hp;cases hp
   ·rw[hvn];exact .owN _ ⟨0,0,0,true⟩ none (RA _ _ _) rfl rfl
  ·rename_i q kW;split at QW
   case h_2=>cases QW
   rename_i t' l1 JV;split at QW
   case isFalse=>cases QW
   rename_i e1;subst e1;simp only[GM,Option.some.injEq,Prod.mk.injEq]at QW;obtain⟨rfl,rfl⟩:=QW;rw[kW]at JX;obtain⟨ri,hρq,_⟩:=hh.rows q _ (hl _ _ JV);obtain⟨n1,n2⟩:=hh.rename (hl _ _ JV) hρq h0;refine moved q .own l1 ri rfl JV n1 n2 ?_
   rcases JX.ow_inv hρq with⟨e1,e2,e3,e4⟩ | ⟨ao,e1,e2,e3⟩
   ·rw[e1];exact .ow _ ri (RA _ _ _) e3 e4 e2
   ·rw[e1];exact .owN _ ri ao (RA _ _ _) e3 e2
  ·rename_i q t0 len kW;split at QW
   case h_2=>cases QW
   rename_i t' l1 JV;split at QW
   case isFalse=>cases QW
   rename_i e1;subst e1;simp only[GM,Option.some.injEq,Prod.mk.injEq]at QW;obtain⟨rfl,rfl⟩:=QW;rw[kW]at JX;obtain⟨ri,hρq,ZV,_⟩:=hh.rows q _ (hl _ _ JV);have jZ:ri.n=l1.length:=ZV.1;obtain⟨ao,cap,h1,h2,h3,h4,h5⟩:=JX.ov_inv hρq
   rcases h3 with⟨rfl,rfl⟩ | ⟨rfl,lW,hc⟩
   ·-- nothing of it
    obtain⟨k1,k2⟩:=hh.less (nV g q);obtain⟨n1,n2⟩:=k1.empty t' h0;rw[List.take_zero]at he moved;refine moved q .own l1 ⟨0,0,0,true⟩ rfl JV n1 (λu d hu=>n2 _ _ (k2 _ _ hu)) ?_;rw[h1];exact .owN _ ⟨0,0,0,true⟩ ao (RA _ _ _) rfl rfl
   ·rw[Nat.zero_mul]at h1
    rcases ZV.2 with h6 | ⟨_,ce,c1,c2,c3,c4⟩
    ·rw[lW]at h6;cases h6.1
    obtain⟨n1,n2⟩:=hh.move (hl _ _ JV) hρq lW h0 (ri':=⟨ri.b,len,cap,false⟩) rfl rfl w (Wx.refl _) rfl (λ_ _=>rfl) (.arr t' (l1.take len)) λbad KV=>by
     refine⟨by simp;omega, .inr ⟨rfl,ce,h4,h5,λj hj=>c3 j ?_,λi hi j hj=>?_⟩⟩
     ·have:cap *sz t'≤ri.cap *sz t':=Nat.mul_le_mul_right _ (by omega);have hj:j<cap *sz t':=hj;omega
     ·obtain⟨u,f1,f2⟩:=c4 i (by simp at hi;omega) j hj;refine⟨u,f1,?_⟩;rw[List.getElem_take];exact KV _ _ f2
    refine moved q .own l1 _ rfl JV n1 n2 ?_;rw[h1];exact .ow _ ⟨ri.b,len,cap,false⟩ (RA _ _ _) h4 h5 rfl
  ·cases QW
 | box s t ow=>
  simp only[FT]at he;split at he
  case h_2=>cases he
  rename_i q kW;split at he
  case h_2=>cases he
  rename_i cs JV;split at he
  case h_2=>cases he
  rename_i cs' h' P2;obtain⟨x,hx,he⟩:=Option.bind_eq_some_iff.1 he;have hs:=JF t hx;have Z8:=NW q _ JV;have O5:=hl _ _ JV;obtain⟨ri,hρq,ZV,_⟩:=hh.rows q _ O5
  have MV:cs.length≤128:=by
   have h1:=AP _ _ _ _ _ P2;have h2:=hs.len;rw[oD]at h2;have:=zee t;simp only at h1;omega
  have gW:∀p,st1.h p=none→CA st1.h q none p=none:=λp hp=>by
   by_cases MX:p=q
   ·subst MX;exact RA _ _ _
   ·rw[DA _ _ _ _ MX];exact hp
  obtain⟨ρ1,g1,T,Q0⟩:=mV ow id 128 cs 0 (CA st1.h q none) h' cs' (enc t x) ρ g (λj=>(w.cell? (at_ ri.b j)).getD undef) P2 hs (by omega) hh
   (λj hj=>by obtain⟨_,y,f1,f2⟩:=ZV.2 j hj;rw[f1];exact f2)
   (fun p row hp=>by
    by_cases MX:p=q
    ·subst MX;rw[RA]at hp;cases hp
    ·rw[DA _ _ _ _ MX]at hp;exact hl _ _ hp)
   (λp hp=>gW _ (hn p hp)) (λp _ hp=>hρ p hp)
  have hg1q:g1 q=some ⟨.box cs, .own⟩:=by rw[(T.out q Z8).2 (RA _ _ _)];exact O5
  have hρ1:ρ1 q=some ri:=T.ext _ _ hρq;obtain⟨n1,n2⟩:=T.heap.reread hg1q (es:=SA ow id 0 (enc t x)) (by rw[DF];exact Q0) (λri' h3 j hj=>by rw[hρ1]at h3;cases h3;exact T.vals j hj);have G6:h' q=none:=T.less q (RA _ _ _)
  refine⟨x,_,_,_,he,rfl,n1,λp row hp=>?_,λp hp=>T.less p (gW p hp),λn=>(YK (nD.refl n _) _ none (.inr ⟨_,JV,rfl⟩)).trans (FK (λr=>r<n) _ _ _ _ _ P2),λp hp=>⟨(T.out p hp).1,λT4=>?_⟩,T.ext,λu d hu=>n2 _ _ (T.keep _ _ hu),
   ⟨q,kW,RA _ _ _,λp hp=>?_⟩,λs' t' ow' r' h1 h2=>?_⟩
  ·have hp:h' p=some row:=hp;rw[DA _ _ _ _ (by rintro rfl;rw[G6]at hp;cases hp)];exact T.lies _ _ hp
  ·rw[DA _ _ _ _ (by rintro rfl;rw[JV]at T4;cases T4),(T.out p hp).2 (gW p T4)]
  ·rw[DA _ _ _ _ (by rintro rfl;exact Z8 ⟨by omega,by omega⟩)];exact T.new p (by omega) hp
  ·cases h1;rw[kW]at h2;cases h2;exact⟨G6,Z8⟩
def sL(w:World)(ρ:Nat→Option RI)(bad:Nat→Prop)(g:Nat→Option uA)(tv:Nat→Value)(sl:Nat→V):(cs:List iC)→Nat→ND cs→Prop
 | [],_,_=>True
 | [c],id,x=>pK w ρ bad g tv sl c id x
 | c :: d :: r,id,x=>pK w ρ bad g tv sl c id x.1∧sL w ρ bad g tv sl (d :: r) (id+128) x.2
def pK.later{tv:Nat→Value}{sl:Nat→V}{c:iC}{id:Nat}{x:c.T}{ρ ρ':Nat→Option RI}{bad bad':Nat→Prop}{g g':Nat→Option uA}(h:pK w ρ bad g tv sl c id x)
  (hk:∀u d,VR w ρ bad u d→VR w ρ' bad' u d) (hg:∀q,q<128→g' (id+q)=g (id+q)) (hb:∀s t ow r,c= .box s t ow→sl s= .bp r 0→g' r=g r):pK w ρ' bad' g' tv sl c id x:=by
 cases c with
 | drop s=>trivial
 | slot s ty=>exact⟨hk _ _ h.1,h.2⟩
 | own s t=>exact⟨hk _ _ h.1,by rw[show id=id+0 from rfl,hg 0 (by omega)];exact h.2⟩
 | box s t ow=>
  obtain⟨r,h1,h2,h3⟩:=h;exact⟨r,h1,by rw[hb s t ow r rfl h1];exact h2,λq hq=>by rw[hg q hq];exact h3 q hq⟩
structure ExA(w0:World)(outer own:Nat→Prop)(w:World)(tv:Nat→Value)(cs:List iC)(id:Nat)(ρ:Nat→Option RI)(g:Nat→Option uA)(st1:St)(x:ND cs)(hn:Nat→Option uA)(ρ':Nat→Option RI)(g':Nat→Option uA):Prop where
 heap:rB w0 outer own ρ' g' w
 lies:mH hn g'
 left:∀n,nD n st1.h hn
 out:∀q,q<id→ρ' q=ρ q∧(st1.h q=none→g' q=g q)
 fresh:∀q,id+128 *cs.length≤q→ρ' q=none
 ext:∀q qi,ρ q=some qi→ρ' q=some qi
 keep:∀u d,VR w ρ (tA outer ρ g) u d→VR w ρ' (tA outer ρ' g') u d
 ok:sL w ρ' (tA outer ρ' g') g' tv st1.s cs id x
def zmD{tv:Nat→Value}:∀(cs:List iC) (id:Nat) (st1:St) (k:ND cs→Option R) (r:R) (ρ:Nat→Option RI) (g:Nat→Option uA),YG cs st1 k=some r→rB w0 outer own ρ g w→mH st1.h g→
  (∀s,VR w ρ (tA outer ρ g) (tv s) (st1.s s))→(∀q,id≤q→ρ q=none)→(∀q,id≤q→st1.h q=none)→∃x hn ρ' g',k x=some r∧ExA w0 outer own w tv cs id ρ g st1 x hn ρ' g'
 | [],id,st1,k,r,ρ,g,he,hh,hl,hv,hρ,hn=>⟨(),st1.h,ρ,g,he,hh,hl,λn=>nD.refl n _,λq _=>⟨rfl,λ_=>rfl⟩,λq hq=>hρ q (by simpa using hq),λ_ _ h=>h,λ_ _ h=>h,trivial⟩
 | [c],id,st1,k,r,ρ,g,he,hh,hl,hv,hρ,hn=>by
  simp only[YG]at he;obtain⟨x,st2,ρ',g',h1,E⟩:=zmo c id st1 _ he hh hl hv (λq hq=>hρ _ (by omega)) (λq hq=>hn _ (by omega));refine⟨x,st2.h,ρ',g',h1,E.heap,E.lies,E.left,λq hq=>E.out q (λh=>by omega),λq hq=>?_,E.ext,E.keep,E.ok⟩;simp at hq;rw[(E.out q (λh=>by omega)).1];exact hρ q (by omega)
 | c :: d :: cs,id,st1,k,r,ρ,g,he,hh,hl,hv,hρ,hn=>by
  simp only[YG]at he;obtain⟨x,st2,ρ1,g1,h1,E⟩:=zmo c id st1 _ he hh hl hv (λq hq=>hρ _ (by omega)) (λq hq=>hn _ (by omega))
  obtain⟨y,hn',ρ',g',h2,F⟩:=zmD (d :: cs) (id+128) st2 _ r ρ1 g1 h1 E.heap E.lies (λs=>by rw[E.slots];exact E.keep _ _ (hv s))
   (λq hq=>by rw[(E.out q (λh=>by omega)).1];exact hρ q (by omega)) (λq hq=>E.less q (hn q (by omega)))
  refine⟨(x,y),hn',ρ',g',h2,F.heap,F.lies,λn=>(E.left n).trans (F.left n),λq hq=>?_,λq hq=>?_,λq qi hq=>F.ext _ _ (E.ext _ _ hq),λu d hu=>F.keep _ _ (E.keep _ _ hu),?_,by rw[←E.slots];exact F.ok⟩
  ·have ho:Out id 128 q:=λh=>by omega
   exact⟨((F.out q (by omega)).1).trans (E.out q ho).1,λhq0=>((F.out q (by omega)).2 (E.less q hq0)).trans ((E.out q ho).2 hq0)⟩
  ·exact F.fresh q (by simp at hq⊢;omega)
  ·refine E.ok.later F.keep (λq hq=>(F.out (id+q) (by omega)).2 (E.less _ (hn _ (by omega)))) λs t ow r h3 h4=>?_;obtain⟨h5,h6⟩:=E.gone s t ow r h3 h4
   have hrlt:r<id:=by
    rcases Nat.lt_or_ge r id with h7 | h7
    ·exact h7
    ·obtain⟨ri,h8,_⟩:=(show VR w ρ (tA outer ρ g) (tv s) (.bp r 0) by rw[←h4];exact hv s).bp_inv;rw[hρ r h7]at h8;cases h8
   exact(F.out r (by omega)).2 h5
def zga{tv:Nat→Value}{sl:Nat→V}{ρ2:Nat→Option RI}{bad2:Nat→Prop}{g2:Nat→Option uA}:∀(cs:List iC) (M id:Nat) (x:ND cs) (h:Nat→Option uA) (q:Nat) (row:uA),
  sL w ρ2 bad2 g2 tv sl cs M x→OO sl cs id x h q=some row→
  h q=some row∨(id≤q∧q<id+128 *cs.length∧(∃t l,row=⟨.arr t l, .own⟩)∧g2 (M+(q - id))=some row)∨
   (∃o ow es s,row=⟨.box (SA ow (id+o) 0 es), .own⟩∧g2 q=some ⟨.box (SA ow (M+o) 0 es), .own⟩∧o+128≤128 *cs.length∧(∀j (hj:j<es.length),mD es[j])∧es.length≤128∧sl s= .bp q 0):=by
 have one:∀(c:iC) (M id:Nat) (x:c.T) (h:Nat→Option uA) (q:Nat) (row:uA),pK w ρ2 bad2 g2 tv sl c M x→vK sl c id x h q=some row→
   h q=some row∨(id≤q∧q<id+128∧(∃t l,row=⟨.arr t l, .own⟩)∧g2 (M+(q - id))=some row)∨
   (∃ow es s,row=⟨.box (SA ow id 0 es), .own⟩∧g2 q=some ⟨.box (SA ow M 0 es), .own⟩∧(∀j (hj:j<es.length),mD es[j])∧es.length≤128∧sl s= .bp q 0):=by
  intro c M id x h q row hc hi;cases c with
  | drop s=>exact .inl hi
  | slot s ty=>exact .inl hi
  | own s t=>
   simp only[vK]at hi
   by_cases hq:q=id
   ·subst hq;rw[RA]at hi;cases hi;exact .inr (.inl ⟨Nat.le_refl _,by omega,⟨_,_,rfl⟩,by rw[Nat.sub_self];exact hc.2⟩)
   ·rw[DA _ _ _ _ hq]at hi;exact .inl hi
  | box s t ow=>
   obtain⟨r,h1,h2,h3⟩:=hc;simp only[vK,h1]at hi
   by_cases hq:q=r
   ·subst hq;rw[RA]at hi;cases hi;refine .inr (.inr ⟨ow,enc t x,s,rfl,h2,λj hj=>?_,by rw[oD];exact zee t,h1⟩);intro S;have:=RM S t x j;rw[List.getD_eq_getElem?_getD,List.getElem?_eq_getElem hj]at this;exact this
   ·rw[DA _ _ _ _ hq,xC]at hi;split at hi
    ·rename_i y hy;cases hi;obtain⟨t',l,e1,e2,e3⟩:=LE _ _ _ _ _ _ hy;have YV:=zee t;rw[oD]at e3;refine .inr (.inl ⟨by omega,by omega,⟨t',l,e1⟩,?_⟩);rw[h3 (q - id) (by omega),TU ow M id,show id+(q - id)=q by omega];exact hy
    ·exact .inl hi
 intro cs;induction cs with
 | nil=>intro M id x h q row _ hi;exact .inl hi
 | cons c cs ih=>
  intro M id x h q row hc hi;cases cs with
  | nil=>
   rcases one c M id x h q row hc hi with h1 | ⟨h1,h2,h3⟩ | ⟨ow,es,s,h1,h2,h3⟩
   ·exact .inl h1
   ·exact .inr (.inl ⟨h1,by simp only[List.length_cons,List.length_nil];omega,h3⟩)
   ·exact .inr (.inr ⟨0,ow,es,s,h1,h2,by simp only[List.length_cons];omega,h3⟩)
  | cons d r=>
   simp only[OO]at hi
   rcases one c M id x.1 _ q row hc.1 hi with h1 | ⟨h1,h2,h3⟩ | ⟨ow,es,s,h1,h2,h3⟩
   ·rcases ih (M+128) (id+128) x.2 h q row hc.2 h1 with h4 | ⟨h4,h5,h6,h7⟩ | ⟨o,ow,es,s,h4,h5,h6,h7⟩
    ·exact .inl h4
    ·refine .inr (.inl ⟨by omega,by simp at h5⊢;omega,h6,?_⟩);rw[show M+(q - id)=M+128+(q - (id+128)) by omega];exact h7
    ·refine .inr (.inr ⟨o+128,ow,es,s,?_,?_,by simp at h6⊢;omega,h7⟩)
     ·rw[show id+(o+128)=id+128+o by omega];exact h4
     ·rw[show M+(o+128)=M+128+o by omega];exact h5
   ·exact .inr (.inl ⟨h1,by simp only[List.length_cons];omega,h3⟩)
   ·exact .inr (.inr ⟨0,ow,es,s,h1,h2,by simp only[List.length_cons];omega,h3⟩)
def zu8{tv:Nat→Value}{sl:Nat→V}{ρ2:Nat→Option RI}{bad2:Nat→Prop}{g2:Nat→Option uA}(f:Nat→V)(s:Nat):∀(cs:List iC) (M id:Nat) (x:ND cs),
  sL w ρ2 bad2 g2 tv sl cs M x→(mE cs s=false∧VG cs id x f s=f s)∨(VR w ρ2 bad2 (tv s) (VG cs id x f s)∧mD (VG cs id x f s))∨
   (∃o,VG cs id x f s= .ow (id+o)∧VR w ρ2 bad2 (tv s) (.ow (M+o))∧o<128 *cs.length):=by
 have one:∀(c:iC) (M id:Nat) (x:c.T) (f:Nat→V),pK w ρ2 bad2 g2 tv sl c M x→((∀r,mE (c :: r) s=mE r s)∧wI c id x f s=f s)∨(VR w ρ2 bad2 (tv s) (wI c id x f s)∧mD (wI c id x f s))∨
   (wI c id x f s= .ow id∧VR w ρ2 bad2 (tv s) (.ow M)):=by
  intro c M id x f hc;cases c with
  | slot s' ty=>
   by_cases hs:s=s'
   ·subst hs;simp only[wI,RA];exact .inr (.inl hc)
   ·simp only[wI];rw[DA _ _ _ _ hs];refine .inl ⟨λr=>?_,rfl⟩
    have:Nat.beq s' s=false:=by
     cases hb:Nat.beq s' s with
     | false=>rfl
     | true=>exact absurd (Nat.eq_of_beq_eq_true hb).symm hs
    simp[mE,this]
  | own s' t=>
   by_cases hs:s=s'
   ·subst hs;exact .inr (.inr ⟨RA _ _ _,hc.1⟩)
   ·simp only[wI];rw[DA _ _ _ _ hs];refine .inl ⟨λr=>?_,rfl⟩
    have:Nat.beq s' s=false:=by
     cases hb:Nat.beq s' s with
     | false=>rfl
     | true=>exact absurd (Nat.eq_of_beq_eq_true hb).symm hs
    simp[mE,this]
  | box s' t ow=>exact .inl ⟨λr=>rfl,rfl⟩
  | drop s'=>exact .inl ⟨λr=>rfl,rfl⟩
 intro cs;induction cs with
 | nil=>intro M id x _;exact .inl ⟨rfl,rfl⟩
 | cons c cs ih=>
  intro M id x hc;cases cs with
  | nil=>
   rcases one c M id x f hc with⟨h1,h2⟩ | h | ⟨h1,h2⟩
   ·exact .inl ⟨by rw[h1];rfl,h2⟩
   ·exact .inr (.inl h)
   ·exact .inr (.inr ⟨0,h1,h2,by simp only[List.length_cons];omega⟩)
  | cons d r=>
   simp only[VG]
   rcases one c M id x.1 (VG (d :: r) (id+128) x.2 f) hc.1 with⟨h1,h2⟩ | h | ⟨h1,h2⟩
   ·rw[h2]
    rcases ih (M+128) (id+128) x.2 hc.2 with⟨h3,h4⟩ | h3 | ⟨o,h3,h4,h5⟩
    ·exact .inl ⟨by rw[h1];exact h3,h4⟩
    ·exact .inr (.inl h3)
    ·exact .inr (.inr ⟨o+128,by rw[h3];congr 1;omega,by rw[show M+(o+128)=M+128+o by omega];exact h4,by simp only[List.length_cons]at h5⊢;omega⟩)
   ·exact .inr (.inl h)
   ·exact .inr (.inr ⟨0,h1,h2,by simp only[List.length_cons];omega⟩)
def sL.slots{tv:Nat→Value}{sl sl':Nat→V}{ρ2:Nat→Option RI}{bad2:Nat→Prop}{g2:Nat→Option uA}:∀(cs:List iC) (M:Nat) (x:ND cs),
  (∀s t ow,iC.box s t ow∈cs→sl' s=sl s)→sL w ρ2 bad2 g2 tv sl cs M x→sL w ρ2 bad2 g2 tv sl' cs M x:=by
 have one:∀(c:iC) (M:Nat) (x:c.T),(∀s t ow,c=iC.box s t ow→sl' s=sl s)→pK w ρ2 bad2 g2 tv sl c M x→pK w ρ2 bad2 g2 tv sl' c M x:=by
  intro c M x hs hc;cases c with
  | drop s=>trivial
  | slot s ty=>exact hc
  | own s t=>exact hc
  | box s t ow=>obtain⟨r,h1,h2⟩:=hc;exact⟨r,by rw[hs s t ow rfl];exact h1,h2⟩
 intro cs;induction cs with
 | nil=>intro M x _ _;trivial
 | cons c cs ih=>
  intro M x hs hc;cases cs with
  | nil=>exact one c M x (λs t ow h=>hs s t ow (by simp[h])) hc
  | cons d r=>exact⟨one c M x.1 (λs t ow h=>hs s t ow (by simp[h])) hc.1,ih (M+128) x.2 (λs t ow h=>hs s t ow (List.mem_cons_of_mem _ h)) hc.2⟩
omit [jA]in
def zkK(sl:Nat→V):∀(cs:List iC) (id:Nat) (x:ND cs) (h:Nat→Option uA) (q:Nat) (row:uA),h q=some row→∃row',OO sl cs id x h q=some row':=by
 have up:∀(h:Nat→Option uA) (i:Nat) (y:uA) (q:Nat),(∃row,h q=some row)→∃row',CA h i (some y) q=some row':=by
  intro h i y q hq
  by_cases hi:q=i
  ·subst hi;exact⟨y,RA _ _ _⟩
  ·rw[DA _ _ _ _ hi];exact hq
 have one:∀(c:iC) (id:Nat) (x:c.T) (h:Nat→Option uA) (q:Nat),(∃row,h q=some row)→∃row',vK sl c id x h q=some row':=by
  intro c id x h q hq;cases c with
  | drop s'=>exact hq
  | slot s' ty=>exact hq
  | own s' t=>exact up _ _ _ _ hq
  | box s' t ow=>
   simp only[vK];generalize sl s'=v;cases v with
   | bp r off=>
    cases off with
    | zero=>
     refine up _ _ _ _ ?_;rw[xC];cases cB ow id (λ_=>none) 0 (enc t x) q with
     | some y=>exact⟨_,rfl⟩
     | none=>exact hq
    | succ n=>exact hq
   | _=>exact hq
 intro cs;induction cs with
 | nil=>intro id x h q row hq;exact⟨row,hq⟩
 | cons c cs ih=>
  intro id x h q row hq;cases cs with
  | nil=>exact one c id x h q ⟨row,hq⟩
  | cons d r=>exact one c id x.1 _ q (ih (id+128) x.2 h q row hq)
def zfL{j:JI}{b:St}{ρ':Nat→Option RI}{a':Act}{w':World}{k:ND j.cs→Option R}{r:R}(hb:ZA C w0 outer own ρ b a w)(J0:∀q,b.nx≤q→ρ q=none)
  (hr:ZA C w0 outer own ρ' st' a' w') (hf:∀q,st'.nx≤q→ρ' q=none) (hnx:b.nx≤st'.nx) (hext:∀q qi,ρ q=some qi→ρ' q=some qi)
  (z1:∀s,j.has s=false→st'.s s=b.s s) (TX:nD b.nx (kD j b).h st'.h) (uX:DS j=true) (he:YG j.cs st' k=some r):
  ∃x,k x=some r∧∃ρ'',ZA C w0 outer own ρ'' (install j b x) a' w'∧(∀q,(install j b x).nx≤q→ρ'' q=none)∧(∀q qi,ρ q=some qi→ρ'' q=some qi)∧nD b.nx b.h (install j b x).h:=by
 have b9:∀q row,b.h q=some row→ρ q≠none∧q<b.nx:=λq row hq=>by
  obtain⟨ri,h1,_⟩:=hb.heap.rows q row hq;refine⟨by rw[h1];simp,?_⟩
  rcases Nat.lt_or_ge q b.nx with h | h
  ·exact h
  ·rw[J0 q h]at h1;cases h1
 have hhn:∀q,st'.nx≤q→st'.h q=none:=λq hq=>by
  cases hg:st'.h q with
  | none=>rfl
  | some row=>obtain⟨ri,h3,_⟩:=hr.heap.rows _ _ hg;rw[hf q hq]at h3;cases h3
 obtain⟨x,hn,ρ2,g2,hx,E⟩:=zmD (tv:=λs=>a'.tmps.getD s undef) j.cs st'.nx st' k r ρ' st'.h he hr.heap (λ_ _ h=>h) hr.slots hf hhn;let M:=st'.nx;let L:=128 *j.cs.length;let ρ'':Nat→Option RI:=λq=>if q<b.nx then ρ q else if q<b.nx+L then ρ2 (M+(q - b.nx))else none
 let φ:Nat→Nat:=λq=>if q<b.nx then q else M+(q - b.nx)
 have hρ2:∀q qi,ρ q=some qi→ρ2 q=some qi:=λq qi hq=>E.ext _ _ (hext _ _ hq)
 have OV:∀q,ρ q≠none→q<b.nx:=λq hq=>by
  rcases Nat.lt_or_ge q b.nx with h | h
  ·exact h
  ·exact absurd (J0 q h) hq
 have hρlow:∀q,q<b.nx→ρ'' q=ρ q:=λq hq=>by simp only[ρ'',hq,if_true]
 have S3:∀q qi,ρ q=some qi→ρ'' q=some qi:=λq qi hq=>by rw[hρlow q (OV q (by rw[hq];simp))];exact hq
 have hρhi:∀o,o<L→ρ'' (b.nx+o)=ρ2 (M+o):=λo ho=>by
  have h1:¬(b.nx+o<b.nx):=by omega
  have h2:b.nx+o<b.nx+L:=by omega
  simp only[ρ'',h1,h2,if_false,if_true];congr 1;omega
 have hφlow:∀q,q<b.nx→φ q=q:=λq hq=>by simp only[φ,hq,if_true]
 have hφhi:∀q,b.nx≤q→φ q=M+(q - b.nx):=λq hq=>by
  have:¬q<b.nx:=by omega
  simp only[φ,this,if_false]
 have L2:sL w' ρ2 (tA outer ρ2 g2) g2 (λs=>a'.tmps.getD s undef) b.s j.cs M x:=by
  refine sL.slots j.cs M x (λs t ow hm=>?_) E.ok;have:=List.all_eq_true.1 uX _ hm;simp only[Bool.not_eq_true']at this;exact(z1 s this).symm
 -- the rows that stayed
 have XV:∀q row,SH j b q=some row→∃row0,b.h q=some row0∧row0.c=row.c∧∃row2,g2 q=some row2∧row2.c=row.c∧(row.m.isRo=false→row2.m.isRo=false):=λq row hq=>by
  unfold SH at hq;split at hq
  ·rename_i c hc;cases hi:wL j.cs b q
   ·simp only[hi,cond_false,Option.some.injEq]at hq;subst hq;have h1:(kD j b).h q=some ⟨c, .lock⟩:=by simp[kD,hc,hi]
    exact⟨_,hc,rfl,_,E.lies _ _ (E.left (q+1) q _ (by omega) (TX q _ (b9 q _ hc).2 h1 rfl) rfl),rfl,λ_=>rfl⟩
   ·simp[hi]at hq
  ·rename_i bX;obtain⟨c,m⟩:=row
   have hm:m.isOwn=false:=by
    cases m with
    | own=>exact absurd hq (bX c)
    | ro=>rfl
    | lock=>rfl
   have mY:b.h q=some ⟨c,m⟩:=hq
   have h1:(kD j b).h q=some ⟨c,m⟩:=by
    simp only[kD,mY];cases m with
    | own=>cases hm
    | ro=>rfl
    | lock=>rfl
   exact⟨_,hq,rfl,_,E.lies _ _ (E.left (q+1) q _ (by omega) (TX q _ (b9 q _ hq).2 h1 hm) hm),rfl,λh=>h⟩
 have JV:∀q row,(install j b x).h q=some row→∃row2,g2 (φ q)=some row2∧(row.m.isRo=false→row2.m.isRo=false)∧ρ'' q=ρ2 (φ q):=λq row hq=>by
  rcases zga j.cs M b.nx x (SH j b) q row L2 hq with h1 | ⟨h1,h2,_,h4⟩ | ⟨o,ow,es,s,h1,h2,h3,h4,h5,h6⟩
  ·obtain⟨row0,k1,_,row2,k2,_,k3⟩:=XV q row h1;have sZ:=(b9 q _ k1).2;obtain⟨ri,e1,_⟩:=hb.heap.rows q _ k1;exact⟨row2,by rw[hφlow q sZ];exact k2,k3,by rw[hφlow q sZ,hρlow q sZ,e1,hρ2 q ri e1]⟩
  ·refine⟨row,by rw[hφhi q h1];exact h4,λh=>h,?_⟩;have:=hρhi (q - b.nx) (by omega);rw[show b.nx+(q - b.nx)=q by omega]at this;rw[this,hφhi q h1]
  ·have U4:=hb.slots s;rw[h6]at U4;obtain⟨ri,e1,_⟩:=U4.bp_inv;have sZ:=OV q (by rw[e1];simp);exact⟨_,by rw[hφlow q sZ];exact h2,λ_=>rfl,by rw[hφlow q sZ,hρlow q sZ,e1,hρ2 q ri e1]⟩
 have bW:∀c,tA outer ρ'' (install j b x).h c→tA outer ρ2 g2 c:=by
  rintro c (hc | ⟨q,row,ri,f1,f2,f3,f4,f5⟩)
  ·exact .inl hc
  ·obtain⟨row2,k1,k2,k3⟩:=JV q row f1;rw[k3]at f3;exact .inr ⟨_,row2,ri,k1,k2 f2,f3,f4,f5⟩
 -- what is said ahead holds behind
 have keepB:∀u d,VR w' ρ2 (tA outer ρ2 g2) u d→JB (λq=>ρ q≠none) d→VR w' ρ'' (tA outer ρ'' (install j b x).h) u d:=λu d hu hS=>
  hu.keep hS (λq qi hq h2=>by
   cases h3:ρ q with
   | none=>exact absurd h3 hq
   | some ri=>rw[hρ2 q ri h3]at h2;cases h2;exact S3 q _ h3) (λ_ _ _=>rfl) λc hc=> .inl (bW c hc)
 have hH:rB w0 outer own ρ'' (install j b x).h w':=by
  refine E.heap.sub φ E.heap.wx E.heap.old E.heap.outLt (λq row hq=>?_) (λq q' row row' h1 h2 h3=>?_)
  ·obtain⟨row2,k1,k2,k3⟩:=JV q row hq;obtain⟨ri,e1,e2,e3⟩:=E.heap.rows _ _ k1;refine⟨row2,ri,k1,by rw[k3];exact e1,e1,?_,λhn=>⟨(e3 hn).1.1,λhm=>(e3 hn).1.2 (k2 hm)⟩⟩
   rcases zga j.cs M b.nx x (SH j b) q row L2 hq with h1 | ⟨h1,h2,⟨t,l,h3⟩,h4⟩ | ⟨o,ow,es,s,h1,h2,h3,h4,h5,h6⟩
   ·obtain⟨row0,f1,f2,row2',f3,f4,_⟩:=XV q row h1;have sZ:=(b9 q _ f1).2;rw[hφlow q sZ,f3]at k1;cases k1;rw[f4]at e2;obtain⟨rc,rm⟩:=row;cases rc with
    | arr t l=>exact zbf e2 bW ρ''
    | box cs=>
     obtain⟨ri0,g1,g3,_⟩:=hb.heap.rows q _ f1;rw[f2]at g3;refine⟨e2.1,λi hi=>?_⟩;obtain⟨x1,y,x2,x3⟩:=e2.2 i hi;obtain⟨_,y0,_,y3⟩:=g3.2 i hi;exact⟨x1,y,x2,keepB _ _ x3 y3.refs⟩
   ·subst h3;rw[hφhi q h1,h4]at k1;cases k1;exact zbf e2 bW ρ''
   ·have U4:=hb.slots s;rw[h6]at U4;obtain⟨ri',e4,_⟩:=U4.bp_inv;have sZ:=OV q (by rw[e4];simp);rw[hφlow q sZ,h2]at k1;cases k1;subst h1;refine⟨e2.1,λi hi=>?_⟩;rw[DF]at hi;obtain⟨x1,y,x2,x3⟩:=e2.2 i (by rw[DF];exact hi);refine⟨x1,y,x2,?_⟩
    have:=ZU (w:=w') (ρ:=ρ2) (ρ2:=ρ'') (bad:=tA outer ρ2 g2) (bad2:=tA outer ρ'' (install j b x).h) ow (M+o) (b.nx+o) es 0 (λi=>(w'.cell? (at_ ri.b i)).getD undef) (λp _ hp _ _=>by
      rw[Nat.add_assoc,Nat.add_assoc];exact hρhi (o+p) (by omega)) h4 bW (λi hi=>by
      obtain⟨_,y,x2,x3⟩:=e2.2 i hi;rw[x2];exact x3) i (by rw[DF];exact hi)
    rw[x2]at this;exact this
  ·have cls:∀q row,(install j b x).h q=some row→φ q=q∧q<b.nx∨b.nx≤q∧φ q=M+(q - b.nx):=λq row _=>by
    rcases Nat.lt_or_ge q b.nx with h | h
    ·exact .inl ⟨hφlow q h,h⟩
    ·exact .inr ⟨h,hφhi q h⟩
   rcases cls q row h1 with⟨c1,c2⟩ | ⟨c1,c2⟩<;>rcases cls q' row' h2 with⟨c3,c4⟩ | ⟨c3,c4⟩<;>omega
 refine⟨x,hx,ρ'',⟨hH,λs=>?_,hr.size,hr.defers,hr.glob⟩,λq hq=>?_,S3,λq row C6 hq hm=>?_⟩
 ·show VR w' ρ'' _ _ (VG j.cs b.nx x (λi=>bif EO j.kill i then .undef else b.s i) s)
  rcases zu8 (λi=>bif EO j.kill i then .undef else b.s i) s j.cs M b.nx x L2 with⟨h1,h2⟩ | ⟨h1,h2⟩ | ⟨o,h1,h2,h3⟩
  ·rw[h2];cases hk:EO j.kill s
   ·simp only[cond_false];have hhas:j.has s=false:=by simp[JI.has,hk,h1]
    have hv:=E.keep _ _ (hr.slots s);rw[z1 s hhas]at hv;exact keepB _ _ hv (hb.slots s).refs
   ·simp only[cond_true];exact .undef _
  ·exact(h1.noRef h2 ρ'').mono (λ_ _ h=>h) (λ_ _ _=>rfl) λc hc=> .inl (bW c hc)
  ·rw[h1];have hq:=hρhi o h3;have h2:VR w' ρ2 (tA outer ρ2 g2) (a'.tmps.getD s undef) (.ow (M+o)):=h2;generalize a'.tmps.getD s undef=T at h2⊢;cases h2 with
   | ow _ ri e1 e2 e3 e4=>exact .ow _ ri (by rw[hq];exact e1) e2 e3 e4
   | owN _ ri ao e1 e2 e3=>exact .owN _ ri ao (by rw[hq];exact e1) e2 e3
 ·have h1:¬q<b.nx:=by simp only[install]at hq;omega
  have h2:¬q<b.nx+L:=by simp only[install]at hq;omega
  simp only[ρ'',h1,h2,if_false]
 ·have h1:(kD j b).h q=some row:=by
   simp only[kD,hq];obtain⟨c,m⟩:=row;cases m with
   | own=>cases hm
   | ro=>rfl
   | lock=>rfl
  have h2:SH j b q=some row:=by
   simp only[SH,hq];obtain⟨c,m⟩:=row;cases m with
   | own=>cases hm
   | ro=>rfl
   | lock=>rfl
  have h3:g2 q=some row:=E.lies _ _ (E.left (q+1) q _ (by omega) (TX q _ C6 h1 hm) hm);obtain⟨row',h4⟩:=zkK b.s j.cs b.nx x _ q row h2;show OO b.s j.cs b.nx x (SH j b) q=some row
  rcases zga j.cs M b.nx x (SH j b) q row' L2 h4 with h5 | ⟨h5,_⟩ | ⟨o,ow,es,s,h5,h6,_⟩
  ·rw[h2]at h5;cases h5;exact h4
  ·omega
  ·rw[h3]at h6;cases h6;cases hm
end
end Go.D
namespace Go.D
variable [jA]
section
variable {C:Cx} {w0:World} {outer own:Nat→Prop} {ρ:Nat→Option RI} {st st' b:St} {a:Act} {w:World} {R:Type} {j:JI}
omit [jA]in
def ztf(j:JI)(st:St):PF (kD j st).h st.h:=λr row' hr=>by
 simp only[kD]at hr;split at hr
 ·rename_i c hc;cases hi:wL j.cs st r
  ·simp only[hi,cond_false,Option.some.injEq]at hr;subst hr;exact⟨_,hc,rfl,λ_=>rfl⟩
  grind
 grind
omit [jA]in
def zsi(b st:St):PF (unlock b st).h st.h:=λr row' hr=>by
 simp only[unlock]at hr;split at hr
 ·rename_i c hc;split at hr
  ·cases hr;exact⟨_,hc,rfl,λ_=>rfl⟩
  grind
 grind
def ZA.lock(hr:ZA C w0 outer own ρ st a w)(j:JI):ZA C w0 outer own ρ (kD j st) a w:=by
 obtain⟨h1,h2⟩:=hr.heap.less (ztf j st);exact⟨h1,λi=>h2 _ _ (hr.slots i),hr.size,hr.defers,hr.glob⟩
def ZA.unlock(hr:ZA C w0 outer own ρ st a w)(b:St):ZA C w0 outer own ρ (Go.D.unlock b st) a w:=by
 obtain⟨h1,h2⟩:=hr.heap.less (zsi b st);exact⟨h1,λi=>h2 _ _ (hr.slots i),hr.size,hr.defers,hr.glob⟩
omit [jA]in
def zrx{n:Nat}(hk:nD n (kD j b).h st'.h):nD n b.h (unlock b st').h:=λr row hn hr hm=>by
 have h1:(kD j b).h r=some row:=by
  simp only[kD,hr];obtain⟨c,m⟩:=row;cases m with
  | own=>cases hm
  | ro=>rfl
  | lock=>rfl
 have h2:=hk r row hn h1 hm;simp only[unlock,h2,hr];obtain⟨c,m⟩:=row;cases m with
 | own=>cases hm
 | ro=>rfl
 | lock=>rfl
omit [jA]in
def zth(f:Nat→V)(s:Nat):∀(cs:List iC) (id:Nat) (x:ND cs),mE cs s=false→VG cs id x f s=f s:=by
 have one:∀(c:iC) (r:List iC) (id:Nat) (x:c.T) (f:Nat→V),mE (c :: r) s=false→mE r s=false∧wI c id x f s=f s:=by
  intro c r id x f h;cases c with
  | slot s' ty=>
   simp only[mE,Bool.or_eq_false_iff]at h;refine⟨h.2,DA _ _ _ _ ?_⟩;rintro rfl;simp at h
  | own s' t=>
   simp only[mE,Bool.or_eq_false_iff]at h;refine⟨h.2,DA _ _ _ _ ?_⟩;rintro rfl;simp at h
  | box s' t ow=>exact⟨h,rfl⟩
  | drop s'=>exact⟨h,rfl⟩
 intro cs;induction cs with
 | nil=>intro id x _;rfl
 | cons c cs ih=>
  intro id x h;cases cs with
  | nil=>exact(one c [] id x f h).2
  | cons d r=>
   obtain⟨h1,h2⟩:=one c (d :: r) id x.1 (VG (d :: r) (id+128) x.2 f) h;simp only[VG];rw[h2];exact ih (id+128) x.2 h1
omit [jA]in
def tU(j:JI)(b:St)(x:ND j.cs)(s:Nat)(h:j.has s=false):(install j b x).s s=b.s s:=by
 simp only[JI.has,Bool.or_eq_false_iff]at h;show VG j.cs b.nx x _ s=_
 rw[zth _ _ _ _ _ h.2,h.1];rfl
end
end Go.D
namespace Go.D
variable [jA]
structure pC(C:Cx)(w0:World)(outer own:Nat→Prop)(D:Nat→Prop)(st:St)(ρ:Nat→Option RI)(st':St)(a':Act)(w':World)(ρ':Nat→Option RI):Prop where
 rel:ZA C w0 outer own ρ' st' a' w'
 ext:∀q qi,ρ q=some qi→ρ' q=some qi
 slots:∀s,¬D s→st'.s s=st.s s
 keeps:nD st.nx st.h st'.h
 nx:st.nx≤st'.nx
 fresh:∀q,st'.nx≤q→ρ' q=none
section
variable {C:Cx} {w0:World} {outer own D:Nat→Prop} {R:Type}
def zvK{w:World}{ρ:Nat→Option RI}{bad:Nat→Prop}{v:Value}(h:VR w ρ bad v (.tup [])):v=undef:=by
 cases h with
 | tup _ vs hs hv=>
  have:vs= #[]:=by simpa using hs
  subst this;rfl
omit [jA]in
def zs6{ops:Array Oper}{tmps:Array Value}{j dj:Nat}(h:(ops[j]?).bind (·.dst)=some dj)(OV:dj<tmps.size):
  yielded ops tmps j=match tmps.getD dj undef with | .bool b=>some b | _=>none:=by
 unfold yielded;rw[h];simp only[Option.bind_some,Array.getElem?_eq_getElem OV,Array.getD_eq_getD_getElem?,Option.getD_some];split<;>split<;>simp_all
omit [jA]in
def zus(ops:Array Oper){k:Nat}(hk:k<ops.size):GF k (ops.toList.drop k)=(k,ops[k]) :: GF (k+1) (ops.toList.drop (k+1)):=by
 rw[List.drop_eq_getElem_cons (by simpa using hk)];rfl
omit [jA]in
def zt9(f:Nat→V)(i:Nat)(v:V)(h:f i=v):CA f i v=f:=by
 funext q
 by_cases hq:q=i
 ·subst hq;rw[RA,h]
 ·rw[DA _ _ _ _ hq]
def zgP(hC:UF C)(hΦ:gG C){ops:Array Oper}{Q:Exit→Act→World→Prop}{K:St→Option R}{r:R}(nx:Nat)(hD:∀o∈ops,∀d,o.dst=some d→D d):∀(m k:Nat) (st:St) (a:Act) (w:World) (ρ:Nat→Option RI),
  k+m=ops.size→ZA C w0 outer own ρ st a w→(∀q,nx+128 *k≤q→ρ q=none)→FJ C ops nx (GF k (ops.toList.drop k)) st K=some r→
  (∀ st' a' w' ρ',ZA C w0 outer own ρ' st' a' w'→(∀ q,nx+128 *ops.size≤q→ρ' q=none)→(∀ q qi,ρ q=some qi→ρ' q=some qi)→(∀ s,¬ D s→st'.s s=st.s s)→nD nx st.h st'.h→st'.nx=st.nx→
   K st'=some r→Q .normal a' w')→wpOps C.P ops Q (List.range' k m) a w
 | 0,k,st,a,w,ρ,hk,hr,hf,IV,NV=>by
  have:ops.toList.drop k=[]:=List.drop_eq_nil_of_le (by simp;omega);rw[this]at IV;exact NV st a w ρ hr (λq hq=>hf q (by omega)) (λ_ _ h=>h) (λ_ _=>rfl) (nD.refl _ _) rfl IV
 | m+1,k,st,a,w,ρ,hk,hr,hf,IV,NV=>by
  have OV:k<ops.size:=by omega
  have ho:ops[k]?=some ops[k]:=Array.getElem?_eq_getElem OV;rw[zus ops OV]at IV;rw[List.range'_succ];simp only[wpOps,ho];have hDk:∀d,(ops[k]).dst=some d→D d:=hD _ (Array.getElem_mem OV)
  -- a step
  have step:∀(st0:St),ZA C w0 outer own ρ st0 a w→st0.h=st.h→st0.nx=st.nx→(∀s,¬D s→st0.s s=st.s s)→(qB C (nx+128 *k) ops[k] st0 λst'=>FJ C ops nx (GF (k+1) (ops.toList.drop (k+1))) st' K)=some r→
    (ops[k]).wp C.P a w (wpOps C.P ops Q (List.range' (k+1) m)) Q:=by
   intro st0 hr0 hh0 hnx0 OY IV;rw[vS]at IV;obtain⟨st1,h1,h2⟩:=Option.bind_eq_some_iff.1 IV;have L:=zko (n:=nx) (i:=nx+128 *k) (by omega) ops[k] st1 h1;refine zma hr0 hC hΦ ⟨_,hf⟩ (λq _=>hf _ (by omega)) h1 _ Q λa1 w1 hA=>?_;obtain⟨ρ1,PV,hE,hx⟩:=hA;refine zgP hC hΦ nx hD m (k+1) st1 a1 w1 ρ1 (by omega) PV (λq hq=>by rw[hE q (by omega)];exact hf q (by omega)) h2 λst' a' w' ρ' p1 p2 p3 p4 p5 p6 p7=>?_;refine NV st' a' w' ρ' p1 p2 (λq qi hq=>p3 _ _ (hx q qi hq)) (λs hs=>?_) ?_ (p6.trans (L.nx.trans hnx0)) p7
   ·rw[p4 s hs,L.slots s (λe=>hs (hDk s e)),OY s hs]
   ·rw[←hh0];exact L.rows.trans p5
  have skip:(VA C (ops[k]).dst st (.tup []) λst'=>FJ C ops nx (GF (k+1) (ops.toList.drop (k+1))) st' K)=some r→wpOps C.P ops Q (List.range' (k+1) m) (a.put (ops[k]).dst undef) w:=by
   intro IV;rw[OS]at IV;obtain⟨st1,h1,h2⟩:=Option.bind_eq_some_iff.1 IV;have L:=zdf (π:=λr=>r<nx) (V.tup []) st1 h1;obtain⟨p1,_,_⟩:=hr.put (v:=undef) (d:= .tup []) (.tup [] #[] rfl λj hj=>by simp at hj) h1;refine zgP hC hΦ nx hD m (k+1) st1 _ w ρ (by omega) p1 (λq hq=>hf q (by omega)) h2 λst' a' w' ρ' q1 q2 q3 q4 q5 q6 q7=>?_;refine NV st' a' w' ρ' q1 q2 q3 (λs hs=>?_) (L.rows.trans q5) (q6.trans L.nx) q7;rw[q4 s hs,L.slots s (λe=>hs (hDk s e))]
  simp only[FJ]at IV;split at IV
  ·rename_i hg;rw[if_pos (by simp[Region.wanted,hg])];exact .inl (step st hr rfl rfl (λ_ _=>rfl) IV)
  ·rename_i j want hg;split at IV
   ·cases IV
   rename_i dj o0
   have hDj:D dj:=by
    obtain⟨oj,h1,h2⟩:=Option.bind_eq_some_iff.1 o0;exact hD oj (Array.mem_of_getElem? h1) dj h2
   have hv:=hr.slots dj
   have hyn:∀v,a.tmps.getD dj undef=v→(∀b,v≠ .bool b)→yielded ops a.tmps j=none:=λv hv hn=>by
    unfold yielded;rw[o0];simp only[Option.bind_some];split
    ·rename_i b hb;rw[Array.getD_eq_getD_getElem?,hb]at hv;exact absurd hv.symm (hn b)
    ·rfl
   split at IV
   ·rename_i hs;rw[hs]at hv;have hy:=hyn _ (zvK hv) (λb h=>by cases h);rw[if_neg (by simp[Region.wanted,hg,hy])];exact skip IV
   ·rename_i t hs;rw[hs]at hv
    have hb:a.tmps.getD dj undef= .bool t:=by
     generalize a.tmps.getD dj undef=v at hv;cases hv;rfl
    have rZ:dj<a.tmps.size:=by
     rcases Nat.lt_or_ge dj a.tmps.size with h | h
     ·exact h
     ·rw[Array.getD_eq_getD_getElem?,Array.getElem?_eq_none h]at hb;cases hb
    have hy:yielded ops a.tmps j=some t:=by rw[zs6 o0 rZ,hb]
    have UX:({st with s:=CA st.s dj (.bool t)}:St)=st:=by rw[zt9 _ _ _ hs]
    have hw:Region.wanted ops[k] (yielded ops a.tmps)=(t==want):=by
     simp only[Region.wanted,hg,hy];cases t<;>cases want<;>rfl
    rw[hw]
    have IV:(bif t==want then qB C (nx+128 *k) ops[k] {st with s:=CA st.s dj (.bool t)} λst'=>FJ C ops nx (GF (k+1) (ops.toList.drop (k+1))) st' K
      else VA C (ops[k]).dst {st with s:=CA st.s dj (.bool t)} (.tup []) λst'=>FJ C ops nx (GF (k+1) (ops.toList.drop (k+1))) st' K)=some r:=by
     cases t<;>exact IV
    rw[UX]at IV;cases d9:t==want
    ·rw[d9]at IV;simp only[Bool.false_eq_true,if_false];exact skip IV
    ·rw[d9]at IV;simp only[if_true];exact .inl (step st hr rfl rfl (λ_ _=>rfl) IV)
   ·cases IV
end
end Go.D
namespace Go.D
variable [jA]
def JD(D:Nat→Prop):Option JI→Prop
 | none=>True
 | some j=>∀s,j.has s=true→D s
def vI(an:An)(D:Nat→Prop):Code→Prop
 | .region id ops _=>(∀o∈ops,∀d,o.dst=some d→D d)∧JD D (RC id an.r)
 | .seq a b=>vI an D a∧vI an D b
 | .cond (.tmp t) a b=>vI an D a∧vI an D b∧JD D (RC (zgR t a b) an.c)
 | .cond _ a b=>vI an D a∧vI an D b
 | .block id b=>vI an D b∧JD D (RC id an.b)
 | .loop b=>vI an D b∧match NK b with
  | some rid=>JD D (RC rid an.l)
  | none=>True
 | .scope b=>vI an D b
 | _=>True
omit [jA]in
def bV:∀(cs:List iC) (s:Nat),mE cs s=true→∃c∈cs,(∃ty,c= .slot s ty)∨∃t,c= .own s t
 | [],s,h=>by simp[mE]at h
 | .slot s' ty :: r,s,h=>by
  simp only[mE,Bool.or_eq_true]at h
  rcases h with h | h
  ·have:=Nat.eq_of_beq_eq_true h;subst this;exact⟨_,by simp, .inl ⟨ty,rfl⟩⟩
  ·obtain⟨c,h1,h2⟩:=bV r s h;exact⟨c,by simp[h1],h2⟩
 | .own s' t :: r,s,h=>by
  simp only[mE,Bool.or_eq_true]at h
  rcases h with h | h
  ·have:=Nat.eq_of_beq_eq_true h;subst this;exact⟨_,by simp, .inr ⟨t,rfl⟩⟩
  ·obtain⟨c,h1,h2⟩:=bV r s h;exact⟨c,by simp[h1],h2⟩
 | .drop s' :: r,s,h=>by
  obtain⟨c,h1,h2⟩:=bV r s h;exact⟨c,by simp[h1],h2⟩
 | .box s' t ow :: r,s,h=>by
  obtain⟨c,h1,h2⟩:=bV r s h;exact⟨c,by simp[h1],h2⟩
omit [jA]in
def zdx(j:JI)(o:Option JI)(h:fits j o=true):JD (λs=>j.has s=true) o:=by
 cases o with
 | none=>trivial
 | some i=>
  simp only[fits,Bool.and_eq_true,List.all_eq_true]at h;intro s hs;simp only[JI.has,Bool.or_eq_true]at hs
  rcases hs with hs | hs
  ·obtain⟨p,hp,hps⟩:=List.any_eq_true.1 hs;simp only[Bool.and_eq_true,Nat.ble_eq]at hps;have h1:=h.1 p hp;simp only[zlX,Bool.or_eq_true,Bool.and_eq_true]at h1
   rcases h1 with h1 | ⟨h1,h2⟩
   ·obtain⟨q,hq,U4⟩:=List.any_eq_true.1 h1;simp only[Bool.and_eq_true,Nat.ble_eq]at U4;have:EO j.kill s=true:=List.any_eq_true.2 ⟨q,hq,by simp only[Bool.and_eq_true,Nat.ble_eq];omega⟩;simp[JI.has,this]
   ·have:=Nat.eq_of_beq_eq_true h1;have hsp:s=p.1:=by omega
    subst hsp;simp[JI.has,h2]
  ·obtain⟨c,h1,h2⟩:=bV _ _ hs;have h3:=h.2 c h1
   rcases h2 with⟨ty,rfl⟩ | ⟨t,rfl⟩<;>exact h3
omit [jA]in
def aH(an:An)(j:JI):∀(c:Code),Code.within an j c=true→vI an (λs=>j.has s=true) c
 | .region id ops d,h=>by
  simp only[Code.within,Bool.and_eq_true,List.all_eq_true]at h;refine⟨λo ho d hd=>?_,zdx j _ h.2⟩;have:=h.1 o (by simpa using ho);rw[hd]at this;exact this
 | .seq a b,h=>by
  simp only[Code.within,Bool.and_eq_true]at h;exact⟨aH an j a h.1,aH an j b h.2⟩
 | .cond c a b,h=>by
  cases c with
  | tmp t=>
   simp only[Code.within,Bool.and_eq_true]at h;exact⟨aH an j a h.1.1,aH an j b h.1.2,zdx j _ h.2⟩
  | _=>
   simp only[Code.within,Bool.and_eq_true]at h;exact⟨aH an j a h.1,aH an j b h.2⟩
 | .block id b,h=>by
  simp only[Code.within,Bool.and_eq_true]at h;exact⟨aH an j b h.1,zdx j _ h.2⟩
 | .loop b,h=>by
  simp only[Code.within,Bool.and_eq_true]at h;refine⟨aH an j b h.1,?_⟩;have h2:=h.2;split
  ·rename_i rid hr;rw[hr]at h2;exact zdx j _ h2
  ·trivial
 | .scope b,h=>aH an j b h
 | .skip,_=>trivial
 | .exit _,_=>trivial
 | .ret,_=>trivial
 | .label _,_=>trivial
 | .goto _,_=>trivial
 | .refuse _,_=>trivial
 | .rangeFunc _ _ _ _,_=>trivial
end Go.D

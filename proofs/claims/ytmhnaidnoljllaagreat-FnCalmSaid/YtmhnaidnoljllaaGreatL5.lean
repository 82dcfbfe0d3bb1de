/-
 The plain semantics of whole bodies: regions, branches that meet again, loops. What meets again meets by a tuple of plain data.
-/
import Derived.Test.YtmhnaidnoljllaaGreatL4
set_option linter.all false
namespace Go.D
open Option renaming bind→ob
noncomputable section
variable [jA]
inductive Ty where
 | v (t:TN)
 | sl (t:TN)
 | raw
 | cells (t:TN)
  | pt (t:TN)
  | c1 (g:Nat) (t:TN)
 | p1 (g:Nat) (t:TN)
 | c2 (g h:Nat) (t:TN)
@[reducible] def Ty.T:Ty→Type
 | .v t=>El t
 | .sl t=>List (El t)
 | .raw=>V
 | .cells t=>El t
 | .pt t=>El t
 | .c1 _ t=>El t
 | .p1 _ t=>El t
 | .c2 _ _ t=>El t×El t
def pK(t:TN)(a:El t):V:=bif t.isAgg then .agg (enc t a)else match enc t a with
 | c :: _=>c
 | []=> .undef
def HC:(t:Ty)→t.T→V
 | .v t,a=>pK t a
 | .sl t,l=> .sl t l
 | .raw,v=>v
 | .cells t,a=> .agg (enc t a)
 | .pt t,a=> .fp (enc t a) 0
 | .c1 g t,a=> .fn g [.fp (enc t a) 0]
 | .p1 g t,a=> .fp [.fn g [.fp (enc t a) 0]] 0
 | .c2 g h t,a=> .fn g [.fp [.fn h [.fp (enc t a.1) 0]] 0, .fp (enc t a.2) 0]
def VD:(t:Ty)→V→Option t.T
 | .v t,v=>match v with
  | .agg cs=>bif t.isAgg then VE t cs else none
  | v=>bif t.isAgg then none else VE t [v]
 | .sl t,v=>TA t v
 | .raw,v=>some v
 | .cells t,v=>match v with
  | .agg cs=>VE t cs
  | _=>none
 | .pt t,v=>match v with
  | .fp cs 0=>VE t cs
  | _=>none
 | .c1 g t,v=>match v with
  | .fn g' [.fp cs 0]=>bif Nat.beq g' g then VE t cs else none
  | _=>none
 | .p1 g t,v=>match v with
  | .fp [.fn g' [.fp cs 0]] 0=>bif Nat.beq g' g then VE t cs else none
  | _=>none
 | .c2 g h t,v=>match v with
  | .fn g' [.fp [.fn h' [.fp cs 0]] 0, .fp ds 0]=>bif Nat.beq g' g&&Nat.beq h' h then ob (VE t cs) λx=>ob (VE t ds) λy=>some (x,y)else none
  | _=>none
inductive VB where
 | slot (s:Nat) (ty:Ty)
 | own (s:Nat) (t:TN)
 | box (s:Nat) (t:TN) (own:List Nat)
  | drop (s:Nat)
@[reducible] def VB.T:VB→Type
 | .slot _ ty=>ty.T
 | .own _ t=>List (El t)
 | .box _ t _=>El t
 | .drop _=>Unit
@[reducible] def BD:List VB→Type
 | []=>Unit
 | [c]=>c.T
 | c :: d :: r=>c.T×BD (d :: r)
@[reducible] def aB:List Ty→Type
 | []=>Unit
 | [c]=>c.T
 | c :: d :: r=>c.T×aB (d :: r)
def mD:(ts:List Ty)→List V→Option (aB ts)
 | [],[]=>some ()
 | [t],[v]=>VD t v
 | t :: d :: r,v :: vs=>ob (VD t v) λx=>ob (mD (d :: r) vs) λy=>some (x,y)
 | _,_=>none
def bB:(ts:List Ty)→aB ts→List V
 | [],_=>[]
 | [t],x=>[HC t x]
 | t :: d :: r,x=>HC t x.1 :: bB (d :: r) x.2
def zcZ:(t:Ty)→t.T→List V
 | .v t,a=>enc t a
 | .sl t,l=>[.sl t l]
 | .raw,v=>[v]
 | .cells t,a=>enc t a
 | .pt t,a=>[.fp (enc t a) 0]
 | .c1 g t,a=>[.fn g [.fp (enc t a) 0]]
 | .p1 g t,a=>[.fp [.fn g [.fp (enc t a) 0]] 0]
 | .c2 g h t,a=>[.fn g [.fp [.fn h [.fp (enc t a.1) 0]] 0, .fp (enc t a.2) 0]]
def iE:(ts:List Ty)→aB ts→List V
 | [],_=>[]
 | [t],x=>zcZ t x
 | t :: d :: r,x=>zcZ t x.1++iE (d :: r) x.2
def vH:(t:Ty)→List V→Option (t.T×List V)
 | .v t,vs=>(VE t (vs.take (sz t))).bind λa=>some (a,vs.drop (sz t))
 | .sl t,v :: vs=>(TA t v).bind λl=>some (l,vs)
 | .sl _,[]=>none
 | .raw,v :: vs=>some (v,vs)
 | .raw,[]=>none
 | .cells t,vs=>(VE t (vs.take (sz t))).bind λa=>some (a,vs.drop (sz t))
 | .pt _,_=>none
 | .c1 _ _,_=>none
 | .p1 _ _,_=>none
 | .c2 _ _ _,_=>none
def VI:(ts:List Ty)→List V→Option (aB ts)
 | [],[]=>some ()
 | [t],vs=>(vH t vs).bind λx=>match x.2 with
  | []=>some x.1
  | _=>none
 | t :: d :: r,vs=>(vH t vs).bind λx=>(VI (d :: r) x.2).bind λy=>some (x.1,y)
 | [],_ :: _=>none
structure JI where
 cs:List VB
 kill:List (Nat×Nat)
 pre:List Nat
structure An where
 c:List (Nat×JI)
 b:List (Nat×JI)
 l:List (Nat×JI)
 r:List (Nat×JI)
 d:List (Nat×List Nat)
inductive Ex where
 | normal
 | exit (id:Nat)
 | ret
def FU:Nat:=Classical.choose (⟨2^64,rfl⟩:∃n:Nat,n=2^64)
omit [jA]in
def zf1:FU=2^64:=Classical.choose_spec (⟨2^64,rfl⟩:∃n:Nat,n=2^64)
section
variable {R:Type}
def wA{σ:Type}:Nat→(σ→(σ→Option R)→Option R)→σ→Option R
 | 0,_,_=>none
 | n+1,f,x=>f x (wA n f)
def aA{σ:Type}(k:σ→Option R)(b:(σ→Option R)→Option R):Option R:=b k
def EC{α:Type}(k:Nat):List (Nat×α)→Option α
 | []=>none
 | (j,x) :: r=>bif Nat.beq j k then some x else EC k r
def ZS:(c:VB)→St→(c.T→St→Option R)→Option R
 | .slot s ty,st,k=>match eH st.h (st.s s)with
  | some (v,ids)=>ob (VD ty v) λx=>k x {st with h:=rC st.h ids}
  | none=>none
 | .own s t,st,k=>match vS st.h t (st.s s)with
  | some (l,r)=>k l {st with h:=xO st.h r}
  | none=>none
 | .box s t own,st,k=>match st.s s with
  | .bp r 0=>match st.h r with
   | some ⟨.box cs, .own⟩=>match MD own 0 cs (AA st.h r none)with
    | some (cs',h')=>ob (VE t cs') λx=>k x {st with h:=h'}
    | none=>none
   | _=>none
  | _=>none
 | .drop _,st,k=>k () st
def MG:(cs:List VB)→St→(BD cs→Option R)→Option R
 | [],_,k=>k ()
 | [c],st,k=>ZS c st λx _=>k x
 | c :: d :: r,st,k=>ZS c st λx st'=>MG (d :: r) st' λy=>k (x,y)
def mL:V→Option Nat
 | .ow r=>some r
 | .ov r _ _ _=>some r
 | _=>none
def mI:(c:VB)→Nat→c.T→(Nat→V)→Nat→V
 | .slot s ty,_,x,f=>AA f s (HC ty x)
 | .own s _,id,_,f=>AA f s (.ow id)
 | .box ..,_,_,f=>f
 | .drop _,_,_,f=>f
def IG:(cs:List VB)→Nat→BD cs→(Nat→V)→Nat→V
 | [],_,_,f=>f
 | [c],id,x,f=>mI c id x f
 | c :: d :: r,id,x,f=>mI c id x.1 (IG (d :: r) (id+128) x.2 f)
def lK(sl:Nat→V):(c:VB)→Nat→c.T→(Nat→Option sA)→Nat→Option sA
 | .slot ..,_,_,h=>h
 | .own _ t,id,x,h=>AA h id (some ⟨.arr t x, .own⟩)
 | .box s t own,id,x,h=>match sl s with
  | .bp r 0=>AA (XA own id h 0 (enc t x)) r (some ⟨.box (NA own id 0 (enc t x)), .own⟩)
  | _=>h
 | .drop _,_,_,h=>h
def FO(sl:Nat→V):(cs:List VB)→Nat→BD cs→(Nat→Option sA)→Nat→Option sA
 | [],_,_,h=>h
 | [c],id,x,h=>lK sl c id x h
 | c :: d :: r,id,x,h=>lK sl c id x.1 (FO sl (d :: r) (id+128) x.2 h)
def tO(kill:List (Nat×Nat))(i:Nat):Bool:=kill.any λp=>Nat.ble p.1 i&&Nat.ble i p.2
def UD:List VB→Nat→Bool
 | [],_=>false
 | .slot s _ :: r,i=>Nat.beq s i||UD r i
 | .own s _ :: r,i=>Nat.beq s i||UD r i
 | .box .. :: r,i=>UD r i
 | .drop _ :: r,i=>UD r i
def OI(st:St)(r:Nat):VB→Bool
 | .slot .. =>false
 | .own s _=>match mL (st.s s)with | some r'=>Nat.beq r r' | none=>false
 | .box s _ _ | .drop s=>match st.s s with
  | .bp b 0=>Nat.beq r b||match st.h b with
   | some ⟨.box cs,_⟩=>cs.any λc=>match mL c with | some r'=>Nat.beq r r' | none=>false
   | _=>false
  | _=>false
def iL(cs:List VB)(st:St)(r:Nat):Bool:=cs.any (OI st r)
def GH(j:JI)(base:St):Nat→Option sA:=λr=>match base.h r with
 | some ⟨c, .own⟩=>bif iL j.cs base r then none else some ⟨c, .own⟩
 | x=>x
def install(j:JI)(base:St)(x:BD j.cs):St:=
 { s:=IG j.cs base.nx x fun i=>bif tO j.kill i then .undef else base.s i
   h:=FO base.s j.cs base.nx x (GH j base)
   nx:=base.nx+128 *j.cs.length}
def WC(j:JI)(st:St):St:=
 { st with h:=fun r=>match st.h r with
   | some ⟨c, .own⟩=>bif iL j.cs st r then some ⟨c, .own⟩else some ⟨c, .lock⟩
   | x=>x}
def unlock(base st:St):St:=
 { st with h:=fun r=>match st.h r with
   | some ⟨c, .lock⟩=>match base.h r with
    | some ⟨_, .own⟩=>some ⟨c, .own⟩
    | _=>some ⟨c, .lock⟩
   | x=>x}
def zfY(st:St)(s:Nat):Option (List Nat):=
 bif Nat.ble 1000000 s then
  match st.s (s - 1000000)with
  | .bp r _=>match st.h r with
   | some ⟨.box cs,_⟩=>match QF st.h cs with
    | some (_,ids)=>some ids
    | none=>none
   | _=>none
  | _=>none
 else match eH st.h (st.s s)with
  | some (_,ids)=>some ids
  | none=>none
def nK(pre:List Nat)(st:St):Option St:=
 match pre with
 | []=>some st
 | s :: r=>match zfY st s with
  | some ids=>nK r {st with h:=rC st.h ids}
  | none=>none
def BK:Code→Option Nat
 | .region id _ _=>some id
 | .seq a b=>match BK a with
  | some i=>some i
  | none=>BK b
 | .cond _ a _=>BK a
 | .block _ b | .loop b | .scope b=>BK b
 | _=>none
def zfE(t:Nat)(a b:Code):Nat:=t *65536+match BK a with
 | some i=>i+1
 | none=>match BK b with
  | some i=>i+1
  | none=>0
def JI.has(j:JI)(i:Nat):Bool:=tO j.kill i||UD j.cs i
def zkj(kill:List (Nat×Nat))(j:JI)(p:Nat×Nat):Bool:=kill.any (λq=>Nat.ble q.1 p.1&&Nat.ble p.2 q.2)||(Nat.beq p.1 p.2&&UD j.cs p.1)
def zu2(j:JI):VB→Bool
 | .slot s _=>j.has s
 | .own s _=>j.has s
 | .box .. | .drop _=>true
def fits(j:JI):Option JI→Bool
 | none=>true
 | some i=>i.kill.all (zkj j.kill j)&&i.cs.all (zu2 j)
def Code.within(an:An)(j:JI):Code→Bool
 | .region id ops _=>ops.toList.all (λo=>match o.dst with | some d=>j.has d | none=>true)&&fits j (EC id an.r)
 | .seq a b=>Code.within an j a&&Code.within an j b
 | .cond (.tmp t) a b=>Code.within an j a&&Code.within an j b&&fits j (EC (zfE t a b) an.c)
 | .cond _ a b=>Code.within an j a&&Code.within an j b
 | .block id b=>Code.within an j b&&fits j (EC id an.b)
 | .loop b=>Code.within an j b&&match BK b with
  | some rid=>fits j (EC rid an.l)
  | none=>true
 | .scope b=>Code.within an j b
 | _=>true
def dS(j:JI):Bool:=j.cs.all λc=>match c with
 | .box s _ _ | .drop s=>!(j.has s)
 | _=>true
def UH:List VB→Bool
 | []=>true
 | .slot s _ :: r=>!(UD r s)&&UH r
 | .own s _ :: r=>!(UD r s)&&UH r
 | .box .. :: r=>UH r
 | .drop _ :: r=>UH r
def WG(an:An)(j:JI)(c:Code):Bool:=Code.within an j c&&dS j&&UH j.cs
variable (C:Cx)
def kJ(ops:Array Oper)(nx:Nat):List (Nat×Oper)→St→(St→Option R)→Option R
 | [],st,K=>K st
 | (i,o) :: rest,st,K=>
  match o.guard with
  | none=>gB C (nx+128 *i) o st λst'=>kJ ops nx rest st' K
  | some (j,want)=>match(ops[j]?).bind (·.dst)with
   | none=>none
   | some dj=>match st.s dj with
    | .tup []=>QA C o.dst st (.tup []) λst'=>kJ ops nx rest st' K
    | .bool t=>
     let G:Bool→Option R:=λb=>
      let st:={st with s:=AA st.s dj (.bool b)}
      gd (b==want) (gB C (nx+128 *i) o st λst'=>kJ ops nx rest st' K) (QA C o.dst st (.tup []) λst'=>kJ ops nx rest st' K)
     cond t (G true) (G false)
    | _=>none
def tF{α:Type}:Nat→List α→List (Nat×α)
 | _,[]=>[]
 | i,x :: r=>(i,x) :: tF (i+1) r
structure nD where
 i:Nat
 dst:Option Nat
 ls:List Nat
 rd:List Nat
 wr:List Nat
def FE(r:Nat)(l:List Nat):Bool:=l.any (Nat.beq r)
def HU:Option sA→Option sA
 | some ⟨c, .own⟩=>some ⟨c, .lock⟩
 | x=>x
def oG(rd wr:List Nat)(h:Nat→Option sA):Nat→Option sA:=λr=>bif FE r wr then h r else bif FE r rd then HU (h r)else none
def qL(ls:List Nat)(s:Nat→V):Nat→V:=λt=>bif FE t ls then s t else .undef
def eI(b r:Nat):Bool:=Nat.ble b r&&Nat.blt r (b+128)
def rL(b:Nat)(wr:List Nat)(h h':Nat→Option sA):Nat→Option sA:=λr=>bif FE r wr||eI b r then h' r else h r
def MM(dst:Option Nat)(s s':Nat→V):Nat→V:=match dst with
 | none=>s
 | some d=>AA s d (s' d)
def GF(b:Nat)(o:Oper)(ls rd wr:List Nat)(st:St)(K:St→Option R):Option R:=
 gB C b o {s:=qL ls st.s,h:=oG rd wr st.h,nx:=st.nx} λst'=>K {s:=MM o.dst st.s st'.s,h:=rL b wr st.h st'.h,nx:=st.nx}
def LI:V→List Nat
 | .ow r=>[r]
 | .ov r _ _ _=>[r]
 | .bp r _=>[r]
 | .ep r _ _ _=>[r]
 | _=>[]
def zfM:V→List Nat
 | .agg cs=>cs.flatMap LI
 | v=>LI v
def zk2(h:Nat→Option sA):V→List Nat
 | .bp r _=>r :: match h r with
  | some ⟨.box cs,_⟩=>cs.flatMap LI
  | _=>[]
 | v=>zfM v
def zkU(h:Nat→Option sA)(r:Nat):Bool:=match h r with
 | some ⟨_, .ro⟩=>true
 | _=>false
def zcw(h:Nat→Option sA)(l:List Nat):List Nat×List Nat:=(l.filter (zkU h),l.filter λr=>!zkU h r)
def rI(o:Oper)(st:St):List Nat×List Nat:=
 match o.op with
 | .load _ a=>(LI (opd st.s a),[])
 | .store _ a x=>match opd st.s a with
  | .ep r _ _ _=>let p:=zcw st.h (zfM (opd st.s x));(p.1,r :: p.2)
  | v=>([],LI v)
 | .slice _ x _ _ _=>(LI (opd st.s x),[])
 | .indexAddr _ x _=>(LI (opd st.s x),[])
 | .convert _ _ x=>(LI (opd st.s x),[])
 | .buildSlice _ _ ps=>zcw st.h (ps.toList.flatMap λp=>zfM (opd st.s p.2))
 | .makeFunc _ _ cs=>zcw st.h (cs.toList.flatMap λx=>zk2 st.h (opd st.s x))
 | .call {callee:= .builtin .append,args,argTypes:=_}=>match args.toList with
  | [x,y]=>(LI (opd st.s y),LI (opd st.s x))
  | _=>([],[])
 | .call {callee:= .builtin _,args,argTypes:=_}=>(args.toList.flatMap λx=>LI (opd st.s x),[])
 | .call {callee:=_,args,argTypes:=_}=>zcw st.h (args.toList.flatMap λx=>zk2 st.h (opd st.s x))
 | _=>([],[])
def kO(o:Oper):List Nat:=o.op.operands.toList.filterMap λx=>match x with
 | .tmp t=>some t
 | _=>none
def zc1(d:Option Nat)(l:List Nat):Bool:=match d with
 | some d=>FE d l
 | none=>false
def YI(nx:Nat)(e1 e:nD):Bool:=
 !(zc1 e1.dst e.ls)&&!(zc1 e.dst e1.ls)&&!(zc1 e1.dst e.dst.toList)&&
 e1.wr.all (λr=>!(FE r e.rd)&&!(FE r e.wr))&&e.wr.all (λr=>!(FE r e1.rd))&&
 e.rd.all (λr=>!(eI (nx+128 *e1.i) r))&&e.wr.all (λr=>!(eI (nx+128 *e1.i) r))&&
 e1.rd.all (λr=>!(eI (nx+128 *e.i) r))&&e1.wr.all (λr=>!(eI (nx+128 *e.i) r))
def QI(mask nx:Nat)(rs:List nD)(e:nD):Bool:=rs.all λe1=>Nat.testBit mask e1.i||YI nx e1 e
def YU(ms:List Nat)(es:List Edge):Nat:=es.foldl (λs e=>bif Region.binds .any e then s|||(2^e.on|||ms.getD e.on 0)else s) 0
def gD:List Nat→List Oper→List Nat
 | ms,[]=>ms
 | ms,o :: r=>gD (ms++[YU ms o.after.toList]) r
def zkb(i:Nat)(o:Oper):Bool:=o.after.toList.all λe=>!(Region.binds .any e)||Nat.blt e.on i
def ZI(ops:Array Oper)(ms:List Nat)(nx:Nat):List (Nat×Oper)→List nD→St→(St→Option R)→Option R
 | [],_,st,K=>K st
 | (i,o) :: rest,rs,st,K=>
  gd (zkb i o) (
  match o.guard with
  | none=>
   let f:=rI o st;let e:nD:=⟨i,o.dst,kO o,f.1,f.2⟩
   gd (QI (ms.getD i 0) nx rs e) (GF C (nx+128 *i) o e.ls e.rd e.wr st λst'=>ZI ops ms nx rest (e :: rs) st' K) none
  | some (j,want)=>match(ops[j]?).bind (·.dst)with
   | none=>none
   | some dj=>
    let skip:St→Option R:=λst=>
     let e:nD:=⟨i,o.dst,[dj],[],[]⟩
     gd (QI (ms.getD i 0) nx rs e) (QA C o.dst st (.tup []) λst'=>ZI ops ms nx rest (e :: rs) st' K) none
    match st.s dj with
    | .tup []=>skip st
    | .bool t=>
     let G:Bool→Option R:=λb=>
      let st:={st with s:=AA st.s dj (.bool b)}
      gd (b==want) (
       let f:=rI o st;let e:nD:=⟨i,o.dst,dj :: kO o,f.1,f.2⟩
       gd (QI (ms.getD i 0) nx rs e) (GF C (nx+128 *i) o e.ls e.rd e.wr st λst'=>ZI ops ms nx rest (e :: rs) st' K) none) (skip st)
     cond t (G true) (G false)
    | _=>none) none
def zlm(pre:List Nat)(ops:Array Oper)(st:St)(K:St→Option R):Option R:=
 match nK pre st with
 | none=>none
 | some st=>ZI C ops (gD [] ops.toList) st.nx (tF 0 ops.toList) [] st λst'=>K {st' with nx:=st.nx+128 *ops.size}
def nV(pre:List Nat)(draw:Bool)(ops:Array Oper)(st:St)(K:St→Option R):Option R:=
 gd (draw) (zlm C pre ops st K) (
 kJ C ops st.nx (tF 0 ops.toList) st λst'=>K {st' with nx:=st.nx+128 *ops.size})
def HE (an:An):Code→St→(Ex→St→Option R)→Option R
 | .skip,st,K=>K .normal st
 | .region id ops d,st,K=>match EC id an.r with
  | none=>nV C ((EC id an.d).getD []) d ops st (K .normal)
  | some j=>match nK j.pre st with
   | none=>none
   | some st=>gd (WG an j (.region id ops d)) (
     aA (λy:BD j.cs=>K .normal (install j st y)) λk=>nV C ((EC id an.d).getD []) d ops (WC j st) λst'=>MG j.cs st' k) none
 | .seq a b,st,K=>HE an a st λe st'=>match e with
  | .normal=>HE an b st' K
  | e=>K e st'
 | .cond (.tmp t) a b,st,K=>match st.s t with
  | .bool x=>match EC (zfE t a b) an.c with
   | none=>cond x (HE an a st K) (HE an b st K)
   | some j=>match nK j.pre st with
    | none=>none
    | some st=>gd (WG an j a&&WG an j b) (
      aA (λy:BD j.cs=>K .normal (install j st y)) λk=>
       let K':Ex→St→Option R:=λe st'=>match e with
        | .normal=>MG j.cs st' k
        | e=>K e (unlock st st')
       cond x (HE an a (WC j st) K') (HE an b (WC j st) K')) none
  | _=>none
 | .block id b,st,K=>match EC id an.b with
  | none=>HE an b st λe st'=>match e with
   | .exit id'=>gd (Nat.beq id' id) (K .normal st') (K e st')
   | e=>K e st'
  | some j=>match nK j.pre st with
   | none=>none
   | some st=>gd (WG an j b) (
     aA (λy:BD j.cs=>K .normal (install j st y)) λk=>
      HE an b (WC j st) λe st'=>match e with
       | .normal=>MG j.cs st' k
       | .exit id'=>gd (Nat.beq id' id) (MG j.cs st' k) (K e (unlock st st'))
       | e=>K e (unlock st st')) none
 | .loop b,st,K=>match BK b with
  | none=>none
  | some rid=>match EC rid an.l with
   | none=>none
   | some j=>match nK j.pre st with
    | none=>none
    | some st=>gd (WG an j b) (
      MG j.cs (WC j st) λx0=>wA FU (λ(x:BD j.cs) (k:BD j.cs→Option R)=>
       HE an b (WC j (install j st x)) λe st'=>match e with
        | .normal=>MG j.cs st' k
        | e=>K e (unlock (install j st x) st')) x0) none
 | .exit id,st,K=>K (.exit id) st
 | .ret,st,K=>K .ret st
 | _,_,_=>none
def qH(P:Program)(st:St):List ResultVar→List (Bool×Nat)→Option (List V)
 | [],[]=>some []
 | .tmp t :: r,(ag,n) :: sh=>match st.s t,qH P st r sh with
  | .agg cs,some vs=>bif ag&&Nat.beq n cs.length then some (cs++vs)else none
  | v,some vs=>bif !ag&&Nat.beq n 1&&v.leaf then some (v :: vs)else none
  | _,none=>none
 | .cell a t :: r,(ag,n) :: sh=>match st.s a,qH P st r sh,RE P t,eF P t with
  | .bp b 0,some vs,some ag',some n'=>match st.h b with
   | some ⟨.box cs,_⟩=>bif (ag==ag')&&Nat.beq n n'&&Nat.beq n cs.length&&(ag||Nat.beq n 1)then some (cs++vs)else none
   | _=>none
  | _,_,_,_=>none
 | _,_=>none
def dG(st:St):List jB→List V→Nat→Option (List V)
 | .plain :: ks,_ :: as,k=>dG st ks as (k+1)
 | .mv _ :: ks,_ :: as,k=>dG st ks as (k+1)
 | .ptr _ :: ks, .agg cs0 :: as,k=>match st.h (128 *k+127),dG st ks as (k+1)with
  | some ⟨.box cs, .own⟩,some vs=>bif Nat.beq cs.length cs0.length then some (cs++vs)else none
  | _,_=>none
 | [],[],_=>some []
 | _,_,_=>none
def tC:List jB→List Ty→Bool
 | [],[]=>true
 | .plain :: ks,_ :: ts=>tC ks ts
 | .ptr _ :: ks, .cells t :: ts=>Nat.ble (sz t) 127&&tC ks ts
 | .mv _ :: ks, .v t :: ts=>t.isAgg&&Nat.ble (sz t) 127&&tC ks ts
 | _,_=>false
def fV(fn:Func)(body:Code)(an:An)(ks:List jB)(own:List Nat)(shape:List (Bool×Nat))(ts:List Ty)(as:List V):Option (aB ts):=
 HE C an body {s:=λi=>match(FB ks 0 as).drop i with | v :: _=>v | []=> .undef,h:=EA ks 0 as,nx:=128 *ks.length} λe st=>
  match e with
  | .exit _=>none
  | _=>match qH C.P st fn.results.toList shape,dG st ks as 0 with
   | some vs,some us=>match MD own 0 (vs++us) st.h with
    | some (rs,_)=>VI ts rs
    | none=>none
   | _,_=>none
end
end
end Go.D
namespace Go.D
variable [jA]
section
variable {C:Cx} {w0:World} {outer own:Nat→Prop} {ρ:Nat→Option RI} {st st':St} {a:Act} {w:World} {R:Type}
omit [jA]in
def tP(ow:List Nat):∀(cs:List V) (p:Nat) (h:Nat→Option sA) (x:List V×(Nat→Option sA)),MD ow p cs h=some x→x.1.length=cs.length
 | [],p,h,x,ht=>by simp[MD]at ht;subst ht;rfl
 | c :: cs,p,h,x,ht=>by
  simp only[MD]at ht;cases hb:ow.any (Nat.beq p)
  ·simp only[hb,cond_false]at ht;split at ht
   case h_2=>cases ht
   split at ht
   case h_2=>cases ht
   rename_i hr;have k:=tP ow cs (p+1) _ _ hr;cases ht;simpa using k
  ·simp only[hb,cond_true]at ht;split at ht
   ·split at ht
    case h_2=>cases ht
    split at ht
    case h_2=>cases ht
    rename_i hr;have k:=tP ow cs (p+1) _ _ hr;cases ht;simpa using k
   ·split at ht
    case h_2=>cases ht
    rename_i hr;have k:=tP ow cs (p+1) _ _ hr;cases ht;simpa using k
   ·split at ht
    case h_2=>cases ht
    split at ht
    case h_2=>cases ht
    rename_i hr;have k:=tP ow cs (p+1) _ _ hr;cases ht;simpa using k
   ·cases ht
def eK(w:World)(ρ:Nat→Option RI)(bad:Nat→Prop)(g:Nat→Option sA)(tv:Nat→Value)(sl:Nat→V):(c:VB)→Nat→c.T→Prop
 | .slot s ty,_,x=>VR w ρ bad (tv s) (HC ty x)∧YC (HC ty x)
 | .own s t,id,x=>VR w ρ bad (tv s) (.ow id)∧g id=some ⟨.arr t x, .own⟩
 | .drop _,_,_=>True
 | .box s t ow,id,x=>∃r,sl s= .bp r 0∧g r=some ⟨.box (NA ow id 0 (enc t x)), .own⟩∧∀q,q<128→g (id+q)=XA ow id (λ_=>none) 0 (enc t x) (id+q)
omit [jA]in
def zxf{v:V}{ds:List V}(h:OB [v] ds):∃d,ds=[d]∧OH v d:=by
 cases h with
 | cons h1 h2=>cases h2;exact⟨_,rfl,h1⟩
omit [jA]in
def ztA(t:TN)(x:El t):0<(enc t x).length:=by rw[cD];exact uO t
def QU{t:TN}{cs:List V}{x:El t}{bad:Nat→Prop}{u:Value}(hd:VE t cs=some x)(hv:VR w ρ bad u (.fp cs 0)):VR w ρ bad u (.fp (enc t x) 0):=by
 have hs:=xF t hd;cases hv with
 | fp _ off b o u h0 hb hu hv=>
 exact .fp _ _ b o u (ztA t x) hb (λj hj=>hu j (by rw[hs.len];exact hj)) λj hj=>VR.sub (hs.get j (by rw[hs.len];exact hj) hj) (hv j (by rw[hs.len];exact hj))
def fn1{bad:Nat→Prop}{u:Value}{g:Nat}{c d:V}(h:∀u',VR w ρ bad u' c→VR w ρ bad u' d)(hv:VR w ρ bad u (.fn g [c])):VR w ρ bad u (.fn g [d]):=by
 cases hv with
 | fn _ _ caps hs hv=>
 exact .fn _ _ caps hs λj hj=>by
  have:j=0:=by simp at hj;omega
  subst this;exact h _ (hv 0 (by simp))
def fn2{bad:Nat→Prop}{u:Value}{g:Nat}{c d c' d':V}(h:∀u',VR w ρ bad u' c→VR w ρ bad u' d)(h':∀u',VR w ρ bad u' c'→VR w ρ bad u' d')(hv:VR w ρ bad u (.fn g [c,c'])):VR w ρ bad u (.fn g [d,d']):=by
 cases hv with
 | fn _ _ caps hs hv=>
 exact .fn _ _ caps hs λj hj=>by
  match j,hj with
  | 0,_=>exact h _ (hv 0 (by simp))
  | 1,_=>exact h' _ (hv 1 (by simp))
def fp1{bad:Nat→Prop}{u:Value}{c d:V}(h:∀u',VR w ρ bad u' c→VR w ρ bad u' d)(hv:VR w ρ bad u (.fp [c] 0)):VR w ρ bad u (.fp [d] 0):=by
 cases hv with
 | fp _ off b o u h0 hb hu hv=>
 exact .fp _ _ b o u (by simp) hb (λj hj=>hu j hj) λj hj=>by
  have:j=0:=by simp at hj;omega
  subst this;exact h _ (hv 0 (by simp))
def zjJ(ty:Ty)(v:V)(x:ty.T){bad:Nat→Prop}{u:Value}(hd:VD ty v=some x)(hv:VR w ρ bad u v):VR w ρ bad u (HC ty x):=by
 cases ty with
 | v t=>
  simp only[VD]at hd;split at hd
  ·rename_i cs;cases kW:t.isAgg
   case false=>simp[kW]at hd
   simp only[kW,cond_true]at hd;have hs:=xF t hd;simp only[HC,pK,kW,cond_true];cases hv with
   | agg _ vs h1 h2=>
   refine .agg _ _ (by rw[h1];exact hs.len) λj hj=>VR.sub (hs.get j (by rw[hs.len];exact hj) hj) (h2 j (by rw[hs.len];exact hj))
  ·cases kW:t.isAgg
   case true=>simp[kW]at hd
   simp only[kW,cond_false]at hd;obtain⟨d,h1,h2⟩:=zxf (xF t hd);simp only[HC,pK,kW,cond_false,h1];exact VR.sub h2 hv
 | sl t=>exact VR.sub (UA hd) hv
 | raw=>simp only[VD,Option.some.injEq]at hd;subst hd;exact hv
 | cells t=>
  simp only[VD]at hd;split at hd
  ·have hs:=xF t hd;simp only[HC];cases hv with
   | agg _ vs h1 h2=>
   exact .agg _ _ (by rw[h1];exact hs.len) λj hj=>VR.sub (hs.get j (by rw[hs.len];exact hj) hj) (h2 j (by rw[hs.len];exact hj))
  ·cases hd
 | pt t=>
  simp only[VD]at hd;split at hd
  ·exact QU hd hv
  ·cases hd
 | c1 g t=>
  simp only[VD]at hd;split at hd
  ·rename_i g' cs;cases hg:Nat.beq g' g
   case false=>rw[hg]at hd;cases hd
   rw[hg,cond_true]at hd;have:=Nat.eq_of_beq_eq_true hg;subst this;exact fn1 (λ_=>QU hd) hv
  ·cases hd
 | p1 g t=>
  simp only[VD]at hd;split at hd
  ·rename_i g' cs;cases hg:Nat.beq g' g
   case false=>rw[hg]at hd;cases hd
   rw[hg,cond_true]at hd;have:=Nat.eq_of_beq_eq_true hg;subst this;exact fp1 (λ_=>fn1 λ_=>QU hd) hv
  ·cases hd
 | c2 g h t=>
  simp only[VD]at hd;split at hd
  ·rename_i g' h' cs ds;cases K5:Nat.beq g' g&&Nat.beq h' h
   case false=>rw[K5]at hd;cases hd
   rw[K5,cond_true]at hd;rw[Bool.and_eq_true]at K5;have:=Nat.eq_of_beq_eq_true K5.1;have h2:=Nat.eq_of_beq_eq_true K5.2;subst this h2;obtain⟨a,ha,hd⟩:=Option.bind_eq_some_iff.1 hd;obtain⟨b,hb,hd⟩:=Option.bind_eq_some_iff.1 hd;cases hd;exact fn2 (λ_=>fp1 λ_=>fn1 λ_=>QU ha) (λ_=>QU hb) hv
  ·cases hd
omit [jA]in
def wU(t:TN)(x:El t):YC (.fp (enc t x) 0):=λS=> .fp _ _ λj hj=>by
 have:=wM S t x j;rw[List.getD_eq_getElem?_getD,List.getElem?_eq_getElem hj]at this;exact this
omit [jA]in
def zeH{g:Nat}{c:V}(h:YC c):YC (.fn g [c]):=λS=> .fn _ _ λj hj=>by
 have:j=0:=by simp at hj;omega
 subst this;exact h S
omit [jA]in
def zrj{g:Nat}{c d:V}(h:YC c)(h':YC d):YC (.fn g [c,d]):=λS=> .fn _ _ λj hj=>by
 match j,hj with
 | 0,_=>exact h S
 | 1,_=>exact h' S
omit [jA]in
def ziW{c:V}(h:YC c):YC (.fp [c] 0):=λS=> .fp _ _ λj hj=>by
 have:j=0:=by simp at hj;omega
 subst this;exact h S
omit [jA]in
def zpY(ty:Ty)(v:V)(x:ty.T)(hd:VD ty v=some x)(hv:YC v):YC (HC ty x):=by
 cases ty with
 | v t=>
  intro S;simp only[HC,pK];cases kW:t.isAgg
  ·simp only[cond_false];split
   ·rename_i c r he;have:=wM S t x 0;rw[he]at this;exact this
   ·exact .undef
  ·refine .agg _ λj hj=>?_;have:=wM S t x j;rw[List.getD_eq_getElem?_getD,List.getElem?_eq_getElem hj]at this;exact this
 | sl t=>exact iM _ _
 | raw=>simp only[VD,Option.some.injEq]at hd;subst hd;exact hv
 | cells t=>
  intro S;simp only[HC];refine .agg _ λj hj=>?_;have:=wM S t x j;rw[List.getD_eq_getElem?_getD,List.getElem?_eq_getElem hj]at this;exact this
 | pt t=>exact wU t x
 | c1 g t=>exact zeH (wU t x)
 | p1 g t=>exact ziW (zeH (wU t x))
 | c2 g h t=>exact zrj (ziW (zeH (wU t x.1))) (wU t x.2)
structure Ex1(w0:World)(outer own:Nat→Prop)(w:World)(tv:Nat→Value)(c:VB)(id:Nat)(ρ:Nat→Option RI)(g:Nat→Option sA)(st1:St)(x:c.T)(st2:St)(ρ':Nat→Option RI)(g':Nat→Option sA):Prop where
 slots:st2.s=st1.s
 heap:iB w0 outer own ρ' g' w
 lies:ZG st2.h g'
 less:∀q,st1.h q=none→st2.h q=none
 left:∀n,ZC n st1.h st2.h
 out:∀q,Out id 128 q→ρ' q=ρ q∧(st1.h q=none→g' q=g q)
 ext:∀q qi,ρ q=some qi→ρ' q=some qi
 keep:∀u d,VR w ρ (rA outer ρ g) u d→VR w ρ' (rA outer ρ' g') u d
 ok:eK w ρ' (rA outer ρ' g') g' tv st1.s c id x
 gone:∀s t ow r,c= .box s t ow→st1.s s= .bp r 0→st2.h r=none∧Out id 128 r
def zkM{tv:Nat→Value}(c:VB)(id:Nat)(st1:St)(k:c.T→St→Option R){r:R}{g:Nat→Option sA}(he:ZS c st1 k=some r)(hh:iB w0 outer own ρ g w)(hl:ZG st1.h g)
  (hv:∀s,VR w ρ (rA outer ρ g) (tv s) (st1.s s)) (hρ:∀q,q<128→ρ (id+q)=none) (hn:∀q,q<128→st1.h (id+q)=none):
  ∃x st2 ρ' g',k x st2=some r∧Ex1 w0 outer own w tv c id ρ g st1 x st2 ρ' g':=by
 have tW:∀q row,st1.h q=some row→Out id 128 q:=λq row hq h3=>by
  have:=hn (q - id) (by omega);rw[show id+(q - id)=q by omega,hq]at this;cases this
 have h0:ρ id=none:=hρ 0 (by omega);have V0:st1.h id=none:=hn 0 (by omega);cases c with
 | drop s=>exact⟨(),st1,ρ,g,he,rfl,hh,hl,λ_ h=>h,λn=>ZC.refl n _,λq _=>⟨rfl,λ_=>rfl⟩,λ_ _ h=>h,λ_ _ h=>h,trivial,λs t ow r h=>by cases h⟩
 | slot s ty=>
  simp only[ZS]at he;split at he
  case h_2=>cases he
  rename_i v ids aZ;obtain⟨x,hx,he⟩:=Option.bind_eq_some_iff.1 he;obtain⟨k1,k2⟩:=zjF hl aZ;have k2:∀r∈ids,∃row,st1.h r=some row:=k2;obtain⟨m1,m2⟩:=hh.mark ids;obtain⟨f1,f2⟩:=zfX hh (hv s) k1;have v1:∀r,st1.h r=none→r∉ids:=λr hn hm=>by obtain⟨row,h5⟩:=k2 r hm;rw[hn]at h5;cases h5
  exact⟨x,_,ρ,rC g ids,he,rfl,m1,zeN hl ids,λq hq=>by show rC st1.h ids q=none;rw[pF,if_neg (v1 q hq)];exact hq,λn=>yN _ (zbd aZ),
   λq _=>⟨rfl,λhq=>by rw[pF,if_neg (v1 q hq)]⟩,λ_ _ h=>h,m2,⟨zjJ ty v x hx f1,zpY ty v x hx f2⟩,λs t ow r h=>by cases h⟩
 | own s t=>
  simp only[ZS]at he;split at he
  case h_2=>cases he
  rename_i l ro zW;have Q9:=zW;have oX:=hv s
  -- a row that has moved
  have moved:∀(q:Nat) (m:bH) (l0:List (El t)) (ri':RI),ro=some q→st1.h q=some ⟨.arr t l0, .own⟩→iB w0 outer own (AA ρ id (some ri')) (AA (AA g q none) id (some ⟨.arr t l, .own⟩)) w→
    (∀u d,VR w ρ (rA outer ρ g) u d→VR w (AA ρ id (some ri')) (rA outer (AA ρ id (some ri')) (AA (AA g q none) id (some ⟨.arr t l, .own⟩))) u d)→
    VR w (AA ρ id (some ri')) (rA outer (AA ρ id (some ri')) (AA (AA g q none) id (some ⟨.arr t l, .own⟩))) (tv s) (.ow id)→
    ∃x st2 ρ' g',k x st2=some r∧Ex1 w0 outer own w tv (.own s t) id ρ g st1 x st2 ρ' g':=by
   rintro q m l0 ri' rfl hq n1 n2 n3;have A8:=tW q _ hq;refine⟨l,_,_,_,he,rfl,n1,λp row hp=>?_,λp hp=>?_,λn=>ziL Q9,λp hp=>⟨BA _ _ _ _ ?_,λZ3=>?_⟩,λp pi hp=>?_,n2,⟨n3,MA _ _ _⟩,λs t ow r h=>by cases h⟩
   ·have hp:AA st1.h q none p=some row:=hp
    by_cases rX:p=q
    ·subst rX;rw[MA]at hp;cases hp
    ·rw[BA _ _ _ _ rX]at hp;rw[BA _ _ _ _ (by rintro rfl;rw[V0]at hp;cases hp),BA _ _ _ _ rX];exact hl _ _ hp
   ·show AA st1.h q none p=none
    by_cases rX:p=q
    ·subst rX;exact MA _ _ _
    ·rw[BA _ _ _ _ rX];exact hp
   ·rintro rfl;exact hp ⟨Nat.le_refl _,by omega⟩
   ·rw[BA _ _ _ _ (by rintro rfl;exact hp ⟨Nat.le_refl _,by omega⟩),BA];rintro rfl;rw[hq]at Z3;cases Z3
   ·rw[BA];exact hp;rintro rfl;rw[h0]at hp;cases hp
  unfold vS at zW;split at zW
  ·rename_i WV;simp only[Option.some.injEq,Prod.mk.injEq]at zW;obtain⟨rfl,rfl⟩:=zW;rw[WV]at oX;have hvn:tv s= .slice none 0 0:=by generalize tv s=x at oX;cases oX;rfl
   obtain⟨n1,n2⟩:=hh.empty t h0;refine⟨[],_,_,_,he,rfl,n1,λp row hp=>?_,λp hp=>hp,λn=>ZC.refl n _,λp hp=>⟨BA _ _ _ _ ?_,λZ3=>BA _ _ _ _ ?_⟩,λp pi hp=>?_,n2,⟨?_,MA _ _ _⟩,λs t ow r h=>by cases h⟩
   ·have hp:st1.h p=some row:=hp;rw[BA _ _ _ _ (by rintro rfl;rw[V0]at hp;cases hp)];exact hl _ _ hp
   ·rintro rfl;exact hp ⟨Nat.le_refl _,by omega⟩
   ·rintro rfl;exact hp ⟨Nat.le_refl _,by omega⟩
   ·rw[BA];exact hp;rintro rfl;rw[h0]at hp;cases hp
   ·rw[hvn];exact .owN _ ⟨0,0,0,true⟩ none (MA _ _ _) rfl rfl
  ·rename_i q WV;split at zW
   case h_2=>cases zW
   rename_i t' l1 HV;split at zW
   case isFalse=>cases zW
   rename_i e1;subst e1;simp only[kM,Option.some.injEq,Prod.mk.injEq]at zW;obtain⟨rfl,rfl⟩:=zW;rw[WV]at oX;obtain⟨ri,hρq,_⟩:=hh.rows q _ (hl _ _ HV);obtain⟨n1,n2⟩:=hh.rename (hl _ _ HV) hρq h0;refine moved q .own l1 ri rfl HV n1 n2 ?_
   rcases oX.ow_inv hρq with⟨e1,e2,e3,e4⟩ | ⟨ao,e1,e2,e3⟩
   ·rw[e1];exact .ow _ ri (MA _ _ _) e3 e4 e2
   ·rw[e1];exact .owN _ ri ao (MA _ _ _) e3 e2
  ·rename_i q t0 len WV;split at zW
   case h_2=>cases zW
   rename_i t' l1 HV;split at zW
   case isFalse=>cases zW
   rename_i e1;subst e1;simp only[kM,Option.some.injEq,Prod.mk.injEq]at zW;obtain⟨rfl,rfl⟩:=zW;rw[WV]at oX;obtain⟨ri,hρq,PV,_⟩:=hh.rows q _ (hl _ _ HV);have kY:ri.n=l1.length:=PV.1;obtain⟨ao,cap,h1,h2,h3,h4,h5⟩:=oX.ov_inv hρq
   rcases h3 with⟨rfl,rfl⟩ | ⟨rfl,YV,hc⟩
   ·-- nothing of it
    obtain⟨k1,k2⟩:=hh.less (oU g q);obtain⟨n1,n2⟩:=k1.empty t' h0;rw[List.take_zero]at he moved;refine moved q .own l1 ⟨0,0,0,true⟩ rfl HV n1 (λu d hu=>n2 _ _ (k2 _ _ hu)) ?_;rw[h1];exact .owN _ ⟨0,0,0,true⟩ ao (MA _ _ _) rfl rfl
   ·rw[Nat.zero_mul]at h1
    rcases PV.2 with h6 | ⟨_,ce,c1,c2,c3,c4⟩
    ·rw[YV]at h6;cases h6.1
    obtain⟨n1,n2⟩:=hh.move (hl _ _ HV) hρq YV h0 (ri':=⟨ri.b,len,cap,false⟩) rfl rfl w (Wx.refl _) rfl (λ_ _=>rfl) (.arr t' (l1.take len)) λbad IV=>by
     refine⟨by simp;omega, .inr ⟨rfl,ce,h4,h5,λj hj=>c3 j ?_,λi hi j hj=>?_⟩⟩
     ·have:cap *sz t'≤ri.cap *sz t':=Nat.mul_le_mul_right _ (by omega);have hj:j<cap *sz t':=hj;omega
     ·obtain⟨u,f1,f2⟩:=c4 i (by simp at hi;omega) j hj;refine⟨u,f1,?_⟩;rw[List.getElem_take];exact IV _ _ f2
    refine moved q .own l1 _ rfl HV n1 n2 ?_;rw[h1];exact .ow _ ⟨ri.b,len,cap,false⟩ (MA _ _ _) h4 h5 rfl
  ·cases zW
 | box s t ow=>
  simp only[ZS]at he;split at he
  case h_2=>cases he
  rename_i q WV;split at he
  case h_2=>cases he
  rename_i cs HV;split at he
  case h_2=>cases he
  rename_i cs' h' T3;obtain⟨x,hx,he⟩:=Option.bind_eq_some_iff.1 he;have hs:=xF t hx;have A8:=tW q _ HV;have Q4:=hl _ _ HV;obtain⟨ri,hρq,PV,_⟩:=hh.rows q _ Q4
  have KV:cs.length≤128:=by
   have h1:=tP _ _ _ _ _ T3;have h2:=hs.len;rw[cD]at h2;have:=zde t;simp only at h1;omega
  have VV:∀p,st1.h p=none→AA st1.h q none p=none:=λp hp=>by
   by_cases rX:p=q
   ·subst rX;exact MA _ _ _
   ·rw[BA _ _ _ _ rX];exact hp
  obtain⟨ρ1,g1,T,RZ⟩:=nU ow id 128 cs 0 (AA st1.h q none) h' cs' (enc t x) ρ g (λj=>(w.cell? (at_ ri.b j)).getD undef) T3 hs (by omega) hh
   (λj hj=>by obtain⟨_,y,f1,f2⟩:=PV.2 j hj;rw[f1];exact f2)
   (fun p row hp=>by
    by_cases rX:p=q
    ·subst rX;rw[MA]at hp;cases hp
    ·rw[BA _ _ _ _ rX]at hp;exact hl _ _ hp)
   (λp hp=>VV _ (hn p hp)) (λp _ hp=>hρ p hp)
  have R9:g1 q=some ⟨.box cs, .own⟩:=by rw[(T.out q A8).2 (MA _ _ _)];exact Q4
  have hρ1:ρ1 q=some ri:=T.ext _ _ hρq;obtain⟨n1,n2⟩:=T.heap.reread R9 (es:=NA ow id 0 (enc t x)) (by rw[qF];exact RZ) (λri' h3 j hj=>by rw[hρ1]at h3;cases h3;exact T.vals j hj);have L5:h' q=none:=T.less q (MA _ _ _)
  refine⟨x,_,_,_,he,rfl,n1,λp row hp=>?_,λp hp=>T.less p (VV p hp),λn=>(MK (ZC.refl n _) _ none (.inr ⟨_,HV,rfl⟩)).trans (uK (λr=>r<n) _ _ _ _ _ T3),λp hp=>⟨(T.out p hp).1,λZ3=>?_⟩,T.ext,λu d hu=>n2 _ _ (T.keep _ _ hu),
   ⟨q,WV,MA _ _ _,λp hp=>?_⟩,λs' t' ow' r' h1 h2=>?_⟩
  ·have hp:h' p=some row:=hp;rw[BA _ _ _ _ (by rintro rfl;rw[L5]at hp;cases hp)];exact T.lies _ _ hp
  ·rw[BA _ _ _ _ (by rintro rfl;rw[HV]at Z3;cases Z3),(T.out p hp).2 (VV p Z3)]
  ·rw[BA _ _ _ _ (by rintro rfl;exact A8 ⟨by omega,by omega⟩)];exact T.new p (by omega) hp
  ·cases h1;rw[WV]at h2;cases h2;exact⟨L5,A8⟩
def cL(w:World)(ρ:Nat→Option RI)(bad:Nat→Prop)(g:Nat→Option sA)(tv:Nat→Value)(sl:Nat→V):(cs:List VB)→Nat→BD cs→Prop
 | [],_,_=>True
 | [c],id,x=>eK w ρ bad g tv sl c id x
 | c :: d :: r,id,x=>eK w ρ bad g tv sl c id x.1∧cL w ρ bad g tv sl (d :: r) (id+128) x.2
def eK.later{tv:Nat→Value}{sl:Nat→V}{c:VB}{id:Nat}{x:c.T}{ρ ρ':Nat→Option RI}{bad bad':Nat→Prop}{g g':Nat→Option sA}(h:eK w ρ bad g tv sl c id x)
  (hk:∀u d,VR w ρ bad u d→VR w ρ' bad' u d) (hg:∀q,q<128→g' (id+q)=g (id+q)) (hb:∀s t ow r,c= .box s t ow→sl s= .bp r 0→g' r=g r):eK w ρ' bad' g' tv sl c id x:=by
 cases c with
 | drop s=>trivial
 | slot s ty=>exact⟨hk _ _ h.1,h.2⟩
 | own s t=>exact⟨hk _ _ h.1,by rw[show id=id+0 from rfl,hg 0 (by omega)];exact h.2⟩
 | box s t ow=>
  obtain⟨r,h1,h2,h3⟩:=h;exact⟨r,h1,by rw[hb s t ow r rfl h1];exact h2,λq hq=>by rw[hg q hq];exact h3 q hq⟩
structure ExA(w0:World)(outer own:Nat→Prop)(w:World)(tv:Nat→Value)(cs:List VB)(id:Nat)(ρ:Nat→Option RI)(g:Nat→Option sA)(st1:St)(x:BD cs)(hn:Nat→Option sA)(ρ':Nat→Option RI)(g':Nat→Option sA):Prop where
 heap:iB w0 outer own ρ' g' w
 lies:ZG hn g'
 left:∀n,ZC n st1.h hn
 out:∀q,q<id→ρ' q=ρ q∧(st1.h q=none→g' q=g q)
 fresh:∀q,id+128 *cs.length≤q→ρ' q=none
 ext:∀q qi,ρ q=some qi→ρ' q=some qi
 keep:∀u d,VR w ρ (rA outer ρ g) u d→VR w ρ' (rA outer ρ' g') u d
 ok:cL w ρ' (rA outer ρ' g') g' tv st1.s cs id x
def zk3{tv:Nat→Value}:∀(cs:List VB) (id:Nat) (st1:St) (k:BD cs→Option R) (r:R) (ρ:Nat→Option RI) (g:Nat→Option sA),MG cs st1 k=some r→iB w0 outer own ρ g w→ZG st1.h g→
  (∀s,VR w ρ (rA outer ρ g) (tv s) (st1.s s))→(∀q,id≤q→ρ q=none)→(∀q,id≤q→st1.h q=none)→∃x hn ρ' g',k x=some r∧ExA w0 outer own w tv cs id ρ g st1 x hn ρ' g'
 | [],id,st1,k,r,ρ,g,he,hh,hl,hv,hρ,hn=>⟨(),st1.h,ρ,g,he,hh,hl,λn=>ZC.refl n _,λq _=>⟨rfl,λ_=>rfl⟩,λq hq=>hρ q (by simpa using hq),λ_ _ h=>h,λ_ _ h=>h,trivial⟩
 | [c],id,st1,k,r,ρ,g,he,hh,hl,hv,hρ,hn=>by
  simp only[MG]at he;obtain⟨x,st2,ρ',g',h1,E⟩:=zkM c id st1 _ he hh hl hv (λq hq=>hρ _ (by omega)) (λq hq=>hn _ (by omega));refine⟨x,st2.h,ρ',g',h1,E.heap,E.lies,E.left,λq hq=>E.out q (λh=>by omega),λq hq=>?_,E.ext,E.keep,E.ok⟩;simp at hq;rw[(E.out q (λh=>by omega)).1];exact hρ q (by omega)
 | c :: d :: cs,id,st1,k,r,ρ,g,he,hh,hl,hv,hρ,hn=>by
  simp only[MG]at he;obtain⟨x,st2,ρ1,g1,h1,E⟩:=zkM c id st1 _ he hh hl hv (λq hq=>hρ _ (by omega)) (λq hq=>hn _ (by omega))
  obtain⟨y,hn',ρ',g',h2,F⟩:=zk3 (d :: cs) (id+128) st2 _ r ρ1 g1 h1 E.heap E.lies (λs=>by rw[E.slots];exact E.keep _ _ (hv s))
   (λq hq=>by rw[(E.out q (λh=>by omega)).1];exact hρ q (by omega)) (λq hq=>E.less q (hn q (by omega)))
  refine⟨(x,y),hn',ρ',g',h2,F.heap,F.lies,λn=>(E.left n).trans (F.left n),λq hq=>?_,λq hq=>?_,λq qi hq=>F.ext _ _ (E.ext _ _ hq),λu d hu=>F.keep _ _ (E.keep _ _ hu),?_,by rw[←E.slots];exact F.ok⟩
  ·have ho:Out id 128 q:=λh=>by omega
   exact⟨((F.out q (by omega)).1).trans (E.out q ho).1,λhq0=>((F.out q (by omega)).2 (E.less q hq0)).trans ((E.out q ho).2 hq0)⟩
  ·exact F.fresh q (by simp at hq⊢;omega)
  ·refine E.ok.later F.keep (λq hq=>(F.out (id+q) (by omega)).2 (E.less _ (hn _ (by omega)))) λs t ow r h3 h4=>?_;obtain⟨h5,h6⟩:=E.gone s t ow r h3 h4
   have hrlt:r<id:=by
    rcases Nat.lt_or_ge r id with h7 | h7
    ·exact h7
    ·obtain⟨ri,h8,_⟩:=(show VR w ρ (rA outer ρ g) (tv s) (.bp r 0) by rw[←h4];exact hv s).bp_inv;rw[hρ r h7]at h8;cases h8
   exact(F.out r (by omega)).2 h5
def zeX{tv:Nat→Value}{sl:Nat→V}{ρ2:Nat→Option RI}{bad2:Nat→Prop}{g2:Nat→Option sA}:∀(cs:List VB) (M id:Nat) (x:BD cs) (h:Nat→Option sA) (q:Nat) (row:sA),
  cL w ρ2 bad2 g2 tv sl cs M x→FO sl cs id x h q=some row→
  h q=some row∨(id≤q∧q<id+128 *cs.length∧(∃t l,row=⟨.arr t l, .own⟩)∧g2 (M+(q - id))=some row)∨
   (∃o ow es s,row=⟨.box (NA ow (id+o) 0 es), .own⟩∧g2 q=some ⟨.box (NA ow (M+o) 0 es), .own⟩∧o+128≤128 *cs.length∧(∀j (hj:j<es.length),YC es[j])∧es.length≤128∧sl s= .bp q 0):=by
 have one:∀(c:VB) (M id:Nat) (x:c.T) (h:Nat→Option sA) (q:Nat) (row:sA),eK w ρ2 bad2 g2 tv sl c M x→lK sl c id x h q=some row→
   h q=some row∨(id≤q∧q<id+128∧(∃t l,row=⟨.arr t l, .own⟩)∧g2 (M+(q - id))=some row)∨
   (∃ow es s,row=⟨.box (NA ow id 0 es), .own⟩∧g2 q=some ⟨.box (NA ow M 0 es), .own⟩∧(∀j (hj:j<es.length),YC es[j])∧es.length≤128∧sl s= .bp q 0):=by
  intro c M id x h q row hc hi;cases c with
  | drop s=>exact .inl hi
  | slot s ty=>exact .inl hi
  | own s t=>
   simp only[lK]at hi
   by_cases hq:q=id
   ·subst hq;rw[MA]at hi;cases hi;exact .inr (.inl ⟨Nat.le_refl _,by omega,⟨_,_,rfl⟩,by rw[Nat.sub_self];exact hc.2⟩)
   ·rw[BA _ _ _ _ hq]at hi;exact .inl hi
  | box s t ow=>
   obtain⟨r,h1,h2,h3⟩:=hc;simp only[lK,h1]at hi
   by_cases hq:q=r
   ·subst hq;rw[MA]at hi;cases hi;refine .inr (.inr ⟨ow,enc t x,s,rfl,h2,λj hj=>?_,by rw[cD];exact zde t,h1⟩);intro S;have:=wM S t x j;rw[List.getD_eq_getElem?_getD,List.getElem?_eq_getElem hj]at this;exact this
   ·rw[BA _ _ _ _ hq,mC]at hi;split at hi
    ·rename_i y hy;cases hi;obtain⟨t',l,e1,e2,e3⟩:=yE _ _ _ _ _ _ hy;have NV:=zde t;rw[cD]at e3;refine .inr (.inl ⟨by omega,by omega,⟨t',l,e1⟩,?_⟩);rw[h3 (q - id) (by omega),XT ow M id,show id+(q - id)=q by omega];exact hy
    ·exact .inl hi
 intro cs;induction cs with
 | nil=>intro M id x h q row _ hi;exact .inl hi
 | cons c cs ih=>
  intro M id x h q row hc hi;cases cs with
  | nil=>
   rcases one c M id x h q row hc hi with h1 | ⟨h1,h2,h3⟩ | ⟨ow,es,s,h1,h2,h3⟩
   ·exact .inl h1
   ·exact .inr (.inl ⟨h1,by simp only[List.length_cons,List.length_nil];omega,h3⟩)
   ·exact .inr (.inr ⟨0,ow,es,s,h1,h2,by simp only[List.length_cons];omega,h3⟩)
  | cons d r=>
   simp only[FO]at hi
   rcases one c M id x.1 _ q row hc.1 hi with h1 | ⟨h1,h2,h3⟩ | ⟨ow,es,s,h1,h2,h3⟩
   ·rcases ih (M+128) (id+128) x.2 h q row hc.2 h1 with h4 | ⟨h4,h5,h6,h7⟩ | ⟨o,ow,es,s,h4,h5,h6,h7⟩
    ·exact .inl h4
    ·refine .inr (.inl ⟨by omega,by simp at h5⊢;omega,h6,?_⟩);rw[show M+(q - id)=M+128+(q - (id+128)) by omega];exact h7
    ·refine .inr (.inr ⟨o+128,ow,es,s,?_,?_,by simp at h6⊢;omega,h7⟩)
     ·rw[show id+(o+128)=id+128+o by omega];exact h4
     ·rw[show M+(o+128)=M+128+o by omega];exact h5
   ·exact .inr (.inl ⟨h1,by simp only[List.length_cons];omega,h3⟩)
   ·exact .inr (.inr ⟨0,ow,es,s,h1,h2,by simp only[List.length_cons];omega,h3⟩)
def zsR{tv:Nat→Value}{sl:Nat→V}{ρ2:Nat→Option RI}{bad2:Nat→Prop}{g2:Nat→Option sA}(f:Nat→V)(s:Nat):∀(cs:List VB) (M id:Nat) (x:BD cs),
  cL w ρ2 bad2 g2 tv sl cs M x→(UD cs s=false∧IG cs id x f s=f s)∨(VR w ρ2 bad2 (tv s) (IG cs id x f s)∧YC (IG cs id x f s))∨
   (∃o,IG cs id x f s= .ow (id+o)∧VR w ρ2 bad2 (tv s) (.ow (M+o))∧o<128 *cs.length):=by
 have one:∀(c:VB) (M id:Nat) (x:c.T) (f:Nat→V),eK w ρ2 bad2 g2 tv sl c M x→((∀r,UD (c :: r) s=UD r s)∧mI c id x f s=f s)∨(VR w ρ2 bad2 (tv s) (mI c id x f s)∧YC (mI c id x f s))∨
   (mI c id x f s= .ow id∧VR w ρ2 bad2 (tv s) (.ow M)):=by
  intro c M id x f hc;cases c with
  | slot s' ty=>
   by_cases hs:s=s'
   ·subst hs;simp only[mI,MA];exact .inr (.inl hc)
   ·simp only[mI];rw[BA _ _ _ _ hs];refine .inl ⟨λr=>?_,rfl⟩
    have:Nat.beq s' s=false:=by
     cases hb:Nat.beq s' s with
     | false=>rfl
     | true=>exact absurd (Nat.eq_of_beq_eq_true hb).symm hs
    simp[UD,this]
  | own s' t=>
   by_cases hs:s=s'
   ·subst hs;exact .inr (.inr ⟨MA _ _ _,hc.1⟩)
   ·simp only[mI];rw[BA _ _ _ _ hs];refine .inl ⟨λr=>?_,rfl⟩
    have:Nat.beq s' s=false:=by
     cases hb:Nat.beq s' s with
     | false=>rfl
     | true=>exact absurd (Nat.eq_of_beq_eq_true hb).symm hs
    simp[UD,this]
  | box s' t ow=>exact .inl ⟨λr=>rfl,rfl⟩
  | drop s'=>exact .inl ⟨λr=>rfl,rfl⟩
 intro cs;induction cs with
 | nil=>intro M id x _;exact .inl ⟨rfl,rfl⟩
 | cons c cs ih=>
  intro M id x hc;cases cs with
  | nil=>
   rcases one c M id x f hc with⟨h1,h2⟩ | h | ⟨h1,h2⟩
   ·exact .inl ⟨by rw[h1];rfl,h2⟩
   ·exact .inr (.inl h)
   ·exact .inr (.inr ⟨0,h1,h2,by simp only[List.length_cons];omega⟩)
  | cons d r=>
   simp only[IG]
   rcases one c M id x.1 (IG (d :: r) (id+128) x.2 f) hc.1 with⟨h1,h2⟩ | h | ⟨h1,h2⟩
   ·rw[h2]
    rcases ih (M+128) (id+128) x.2 hc.2 with⟨h3,h4⟩ | h3 | ⟨o,h3,h4,h5⟩
    ·exact .inl ⟨by rw[h1];exact h3,h4⟩
    ·exact .inr (.inl h3)
    ·exact .inr (.inr ⟨o+128,by rw[h3];congr 1;omega,by rw[show M+(o+128)=M+128+o by omega];exact h4,by simp only[List.length_cons]at h5⊢;omega⟩)
   ·exact .inr (.inl h)
   ·exact .inr (.inr ⟨0,h1,h2,by simp only[List.length_cons];omega⟩)
def cL.slots{tv:Nat→Value}{sl sl':Nat→V}{ρ2:Nat→Option RI}{bad2:Nat→Prop}{g2:Nat→Option sA}:∀(cs:List VB) (M:Nat) (x:BD cs),
  (∀s t ow,VB.box s t ow∈cs→sl' s=sl s)→cL w ρ2 bad2 g2 tv sl cs M x→cL w ρ2 bad2 g2 tv sl' cs M x:=by
 have one:∀(c:VB) (M:Nat) (x:c.T),(∀s t ow,c=VB.box s t ow→sl' s=sl s)→eK w ρ2 bad2 g2 tv sl c M x→eK w ρ2 bad2 g2 tv sl' c M x:=by
  intro c M x hs hc;cases c with
  | drop s=>trivial
  | slot s ty=>exact hc
  | own s t=>exact hc
  | box s t ow=>obtain⟨r,h1,h2⟩:=hc;exact⟨r,by rw[hs s t ow rfl];exact h1,h2⟩
 intro cs;induction cs with
 | nil=>intro M x _ _;trivial
 | cons c cs ih=>
  intro M x hs hc;cases cs with
  | nil=>exact one c M x (λs t ow h=>hs s t ow (by simp[h])) hc
  | cons d r=>exact⟨one c M x.1 (λs t ow h=>hs s t ow (by simp[h])) hc.1,ih (M+128) x.2 (λs t ow h=>hs s t ow (List.mem_cons_of_mem _ h)) hc.2⟩
omit [jA]in
def zi6(sl:Nat→V):∀(cs:List VB) (id:Nat) (x:BD cs) (h:Nat→Option sA) (q:Nat) (row:sA),h q=some row→∃row',FO sl cs id x h q=some row':=by
 have up:∀(h:Nat→Option sA) (i:Nat) (y:sA) (q:Nat),(∃row,h q=some row)→∃row',AA h i (some y) q=some row':=by
  intro h i y q hq
  by_cases hi:q=i
  ·subst hi;exact⟨y,MA _ _ _⟩
  ·rw[BA _ _ _ _ hi];exact hq
 have one:∀(c:VB) (id:Nat) (x:c.T) (h:Nat→Option sA) (q:Nat),(∃row,h q=some row)→∃row',lK sl c id x h q=some row':=by
  intro c id x h q hq;cases c with
  | drop s'=>exact hq
  | slot s' ty=>exact hq
  | own s' t=>exact up _ _ _ _ hq
  | box s' t ow=>
   simp only[lK];generalize sl s'=v;cases v with
   | bp r off=>
    cases off with
    | zero=>
     refine up _ _ _ _ ?_;rw[mC];cases XA ow id (λ_=>none) 0 (enc t x) q with
     | some y=>exact⟨_,rfl⟩
     | none=>exact hq
    | succ n=>exact hq
   | _=>exact hq
 intro cs;induction cs with
 | nil=>intro id x h q row hq;exact⟨row,hq⟩
 | cons c cs ih=>
  intro id x h q row hq;cases cs with
  | nil=>exact one c id x h q ⟨row,hq⟩
  | cons d r=>exact one c id x.1 _ q (ih (id+128) x.2 h q row hq)
def zex{j:JI}{b:St}{ρ':Nat→Option RI}{a':Act}{w':World}{k:BD j.cs→Option R}{r:R}(hb:VA C w0 outer own ρ b a w)(KZ:∀q,b.nx≤q→ρ q=none)
  (hr:VA C w0 outer own ρ' st' a' w') (hf:∀q,st'.nx≤q→ρ' q=none) (hnx:b.nx≤st'.nx) (S9:∀q qi,ρ q=some qi→ρ' q=some qi)
  (m0:∀s,j.has s=false→st'.s s=b.s s) (zX:ZC b.nx (WC j b).h st'.h) (WW:dS j=true) (he:MG j.cs st' k=some r):
  ∃x,k x=some r∧∃ρ'',VA C w0 outer own ρ'' (install j b x) a' w'∧(∀q,(install j b x).nx≤q→ρ'' q=none)∧(∀q qi,ρ q=some qi→ρ'' q=some qi)∧ZC b.nx b.h (install j b x).h:=by
 have B8:∀q row,b.h q=some row→ρ q≠none∧q<b.nx:=λq row hq=>by
  obtain⟨ri,h1,_⟩:=hb.heap.rows q row hq;refine⟨by rw[h1];simp,?_⟩
  rcases Nat.lt_or_ge q b.nx with h | h
  ·exact h
  ·rw[KZ q h]at h1;cases h1
 have T9:∀q,st'.nx≤q→st'.h q=none:=λq hq=>by
  cases hg:st'.h q with
  | none=>rfl
  | some row=>obtain⟨ri,h3,_⟩:=hr.heap.rows _ _ hg;rw[hf q hq]at h3;cases h3
 obtain⟨x,hn,ρ2,g2,hx,E⟩:=zk3 (tv:=λs=>a'.tmps.getD s undef) j.cs st'.nx st' k r ρ' st'.h he hr.heap (λ_ _ h=>h) hr.slots hf T9;let M:=st'.nx;let L:=128 *j.cs.length;let ρ'':Nat→Option RI:=λq=>if q<b.nx then ρ q else if q<b.nx+L then ρ2 (M+(q - b.nx))else none
 let φ:Nat→Nat:=λq=>if q<b.nx then q else M+(q - b.nx)
 have hρ2:∀q qi,ρ q=some qi→ρ2 q=some qi:=λq qi hq=>E.ext _ _ (S9 _ _ hq)
 have MV:∀q,ρ q≠none→q<b.nx:=λq hq=>by
  rcases Nat.lt_or_ge q b.nx with h | h
  ·exact h
  ·exact absurd (KZ q h) hq
 have hρlow:∀q,q<b.nx→ρ'' q=ρ q:=λq hq=>by simp only[ρ'',hq,if_true]
 have T2:∀q qi,ρ q=some qi→ρ'' q=some qi:=λq qi hq=>by rw[hρlow q (MV q (by rw[hq];simp))];exact hq
 have hρhi:∀o,o<L→ρ'' (b.nx+o)=ρ2 (M+o):=λo ho=>by
  have h1:¬(b.nx+o<b.nx):=by omega
  have h2:b.nx+o<b.nx+L:=by omega
  simp only[ρ'',h1,h2,if_false,if_true];congr 1;omega
 have hφlow:∀q,q<b.nx→φ q=q:=λq hq=>by simp only[φ,hq,if_true]
 have hφhi:∀q,b.nx≤q→φ q=M+(q - b.nx):=λq hq=>by
  have:¬q<b.nx:=by omega
  simp only[φ,this,if_false]
 have I3:cL w' ρ2 (rA outer ρ2 g2) g2 (λs=>a'.tmps.getD s undef) b.s j.cs M x:=by
  refine cL.slots j.cs M x (λs t ow hm=>?_) E.ok;have:=List.all_eq_true.1 WW _ hm;simp only[Bool.not_eq_true']at this;exact(m0 s this).symm
 -- the rows that stayed
 have OV:∀q row,GH j b q=some row→∃row0,b.h q=some row0∧row0.c=row.c∧∃row2,g2 q=some row2∧row2.c=row.c∧(row.m.isRo=false→row2.m.isRo=false):=λq row hq=>by
  unfold GH at hq;split at hq
  ·rename_i c hc;cases hi:iL j.cs b q
   ·simp only[hi,cond_false,Option.some.injEq]at hq;subst hq;have h1:(WC j b).h q=some ⟨c, .lock⟩:=by simp[WC,hc,hi]
    exact⟨_,hc,rfl,_,E.lies _ _ (E.left (q+1) q _ (by omega) (zX q _ (B8 q _ hc).2 h1 rfl) rfl),rfl,λ_=>rfl⟩
   ·simp[hi]at hq
  ·rename_i KW;obtain⟨c,m⟩:=row
   have hm:m.isOwn=false:=by
    cases m with
    | own=>exact absurd hq (KW c)
    | ro=>rfl
    | lock=>rfl
   have LX:b.h q=some ⟨c,m⟩:=hq
   have h1:(WC j b).h q=some ⟨c,m⟩:=by
    simp only[WC,LX];cases m with
    | own=>cases hm
    | ro=>rfl
    | lock=>rfl
   exact⟨_,hq,rfl,_,E.lies _ _ (E.left (q+1) q _ (by omega) (zX q _ (B8 q _ hq).2 h1 hm) hm),rfl,λh=>h⟩
 have HV:∀q row,(install j b x).h q=some row→∃row2,g2 (φ q)=some row2∧(row.m.isRo=false→row2.m.isRo=false)∧ρ'' q=ρ2 (φ q):=λq row hq=>by
  rcases zeX j.cs M b.nx x (GH j b) q row I3 hq with h1 | ⟨h1,h2,_,h4⟩ | ⟨o,ow,es,s,h1,h2,h3,h4,h5,h6⟩
  ·obtain⟨row0,k1,_,row2,k2,_,k3⟩:=OV q row h1;have NY:=(B8 q _ k1).2;obtain⟨ri,e1,_⟩:=hb.heap.rows q _ k1;exact⟨row2,by rw[hφlow q NY];exact k2,k3,by rw[hφlow q NY,hρlow q NY,e1,hρ2 q ri e1]⟩
  ·refine⟨row,by rw[hφhi q h1];exact h4,λh=>h,?_⟩;have:=hρhi (q - b.nx) (by omega);rw[show b.nx+(q - b.nx)=q by omega]at this;rw[this,hφhi q h1]
  ·have b4:=hb.slots s;rw[h6]at b4;obtain⟨ri,e1,_⟩:=b4.bp_inv;have NY:=MV q (by rw[e1];simp);exact⟨_,by rw[hφlow q NY];exact h2,λ_=>rfl,by rw[hφlow q NY,hρlow q NY,e1,hρ2 q ri e1]⟩
 have aW:∀c,rA outer ρ'' (install j b x).h c→rA outer ρ2 g2 c:=by
  rintro c (hc | ⟨q,row,ri,f1,f2,f3,f4,f5⟩)
  ·exact .inl hc
  ·obtain⟨row2,k1,k2,k3⟩:=HV q row f1;rw[k3]at f3;exact .inr ⟨_,row2,ri,k1,k2 f2,f3,f4,f5⟩
 -- what is said ahead holds behind
 have keepB:∀u d,VR w' ρ2 (rA outer ρ2 g2) u d→tB (λq=>ρ q≠none) d→VR w' ρ'' (rA outer ρ'' (install j b x).h) u d:=λu d hu hS=>
  hu.keep hS (λq qi hq h2=>by
   cases h3:ρ q with
   | none=>exact absurd h3 hq
   | some ri=>rw[hρ2 q ri h3]at h2;cases h2;exact T2 q _ h3) (λ_ _ _=>rfl) λc hc=> .inl (aW c hc)
 have hH:iB w0 outer own ρ'' (install j b x).h w':=by
  refine E.heap.sub φ E.heap.wx E.heap.old E.heap.outLt (λq row hq=>?_) (λq q' row row' h1 h2 h3=>?_)
  ·obtain⟨row2,k1,k2,k3⟩:=HV q row hq;obtain⟨ri,e1,e2,e3⟩:=E.heap.rows _ _ k1;refine⟨row2,ri,k1,by rw[k3];exact e1,e1,?_,λhn=>⟨(e3 hn).1.1,λhm=>(e3 hn).1.2 (k2 hm)⟩⟩
   rcases zeX j.cs M b.nx x (GH j b) q row I3 hq with h1 | ⟨h1,h2,⟨t,l,h3⟩,h4⟩ | ⟨o,ow,es,s,h1,h2,h3,h4,h5,h6⟩
   ·obtain⟨row0,f1,f2,row2',f3,f4,_⟩:=OV q row h1;have NY:=(B8 q _ f1).2;rw[hφlow q NY,f3]at k1;cases k1;rw[f4]at e2;obtain⟨rc,rm⟩:=row;cases rc with
    | arr t l=>exact zau e2 aW ρ''
    | box cs=>
     obtain⟨ri0,g1,g3,_⟩:=hb.heap.rows q _ f1;rw[f2]at g3;refine⟨e2.1,λi hi=>?_⟩;obtain⟨x1,y,x2,x3⟩:=e2.2 i hi;obtain⟨_,y0,_,y3⟩:=g3.2 i hi;exact⟨x1,y,x2,keepB _ _ x3 y3.refs⟩
   ·subst h3;rw[hφhi q h1,h4]at k1;cases k1;exact zau e2 aW ρ''
   ·have b4:=hb.slots s;rw[h6]at b4;obtain⟨ri',e4,_⟩:=b4.bp_inv;have NY:=MV q (by rw[e4];simp);rw[hφlow q NY,h2]at k1;cases k1;subst h1;refine⟨e2.1,λi hi=>?_⟩;rw[qF]at hi;obtain⟨x1,y,x2,x3⟩:=e2.2 i (by rw[qF];exact hi);refine⟨x1,y,x2,?_⟩
    have:=bU (w:=w') (ρ:=ρ2) (ρ2:=ρ'') (bad:=rA outer ρ2 g2) (bad2:=rA outer ρ'' (install j b x).h) ow (M+o) (b.nx+o) es 0 (λi=>(w'.cell? (at_ ri.b i)).getD undef) (λp _ hp _ _=>by
      rw[Nat.add_assoc,Nat.add_assoc];exact hρhi (o+p) (by omega)) h4 aW (λi hi=>by
      obtain⟨_,y,x2,x3⟩:=e2.2 i hi;rw[x2];exact x3) i (by rw[qF];exact hi)
    rw[x2]at this;exact this
  ·have cls:∀q row,(install j b x).h q=some row→φ q=q∧q<b.nx∨b.nx≤q∧φ q=M+(q - b.nx):=λq row _=>by
    rcases Nat.lt_or_ge q b.nx with h | h
    ·exact .inl ⟨hφlow q h,h⟩
    ·exact .inr ⟨h,hφhi q h⟩
   rcases cls q row h1 with⟨c1,c2⟩ | ⟨c1,c2⟩<;>rcases cls q' row' h2 with⟨c3,c4⟩ | ⟨c3,c4⟩<;>omega
 refine⟨x,hx,ρ'',⟨hH,λs=>?_,hr.size,hr.defers,hr.glob⟩,λq hq=>?_,T2,λq row G5 hq hm=>?_⟩
 ·show VR w' ρ'' _ _ (IG j.cs b.nx x (λi=>bif tO j.kill i then .undef else b.s i) s)
  rcases zsR (λi=>bif tO j.kill i then .undef else b.s i) s j.cs M b.nx x I3 with⟨h1,h2⟩ | ⟨h1,h2⟩ | ⟨o,h1,h2,h3⟩
  ·rw[h2];cases hk:tO j.kill s
   ·simp only[cond_false];have U9:j.has s=false:=by simp[JI.has,hk,h1]
    have hv:=E.keep _ _ (hr.slots s);rw[m0 s U9]at hv;exact keepB _ _ hv (hb.slots s).refs
   ·simp only[cond_true];exact .undef _
  ·exact(h1.noRef h2 ρ'').mono (λ_ _ h=>h) (λ_ _ _=>rfl) λc hc=> .inl (aW c hc)
  ·rw[h1];have hq:=hρhi o h3;have h2:VR w' ρ2 (rA outer ρ2 g2) (a'.tmps.getD s undef) (.ow (M+o)):=h2;generalize a'.tmps.getD s undef=T at h2⊢;cases h2 with
   | ow _ ri e1 e2 e3 e4=>exact .ow _ ri (by rw[hq];exact e1) e2 e3 e4
   | owN _ ri ao e1 e2 e3=>exact .owN _ ri ao (by rw[hq];exact e1) e2 e3
 ·have h1:¬q<b.nx:=by simp only[install]at hq;omega
  have h2:¬q<b.nx+L:=by simp only[install]at hq;omega
  simp only[ρ'',h1,h2,if_false]
 ·have h1:(WC j b).h q=some row:=by
   simp only[WC,hq];obtain⟨c,m⟩:=row;cases m with
   | own=>cases hm
   | ro=>rfl
   | lock=>rfl
  have h2:GH j b q=some row:=by
   simp only[GH,hq];obtain⟨c,m⟩:=row;cases m with
   | own=>cases hm
   | ro=>rfl
   | lock=>rfl
  have h3:g2 q=some row:=E.lies _ _ (E.left (q+1) q _ (by omega) (zX q _ G5 h1 hm) hm);obtain⟨row',h4⟩:=zi6 b.s j.cs b.nx x _ q row h2;show FO b.s j.cs b.nx x (GH j b) q=some row
  rcases zeX j.cs M b.nx x (GH j b) q row' I3 h4 with h5 | ⟨h5,_⟩ | ⟨o,ow,es,s,h5,h6,_⟩
  ·rw[h2]at h5;cases h5;exact h4
  ·omega
  ·rw[h3]at h6;cases h6;cases hm
end
end Go.D
namespace Go.D
variable [jA]
section
variable {C:Cx} {w0:World} {outer own:Nat→Prop} {ρ:Nat→Option RI} {st st' b:St} {a:Act} {w:World} {R:Type} {j:JI}
omit [jA]in
def zqZ(j:JI)(st:St):EF (WC j st).h st.h:=λr row' hr=>by
 simp only[WC]at hr;split at hr
 ·rename_i c hc;cases hi:iL j.cs st r
  ·simp only[hi,cond_false,Option.some.injEq]at hr;subst hr;exact⟨_,hc,rfl,λ_=>rfl⟩
  grind
 grind
omit [jA]in
def zpU(b st:St):EF (unlock b st).h st.h:=λr row' hr=>by
 simp only[unlock]at hr;split at hr
 ·rename_i c hc;split at hr
  ·cases hr;exact⟨_,hc,rfl,λ_=>rfl⟩
  grind
 grind
def VA.lock(hr:VA C w0 outer own ρ st a w)(j:JI):VA C w0 outer own ρ (WC j st) a w:=by
 obtain⟨h1,h2⟩:=hr.heap.less (zqZ j st);exact⟨h1,λi=>h2 _ _ (hr.slots i),hr.size,hr.defers,hr.glob⟩
def VA.unlock(hr:VA C w0 outer own ρ st a w)(b:St):VA C w0 outer own ρ (Go.D.unlock b st) a w:=by
 obtain⟨h1,h2⟩:=hr.heap.less (zpU b st);exact⟨h1,λi=>h2 _ _ (hr.slots i),hr.size,hr.defers,hr.glob⟩
omit [jA]in
def zo9{n:Nat}(hk:ZC n (WC j b).h st'.h):ZC n b.h (unlock b st').h:=λr row hn hr hm=>by
 have h1:(WC j b).h r=some row:=by
  simp only[WC,hr];obtain⟨c,m⟩:=row;cases m with
  | own=>cases hm
  | ro=>rfl
  | lock=>rfl
 have h2:=hk r row hn h1 hm;simp only[unlock,h2,hr];obtain⟨c,m⟩:=row;cases m with
 | own=>cases hm
 | ro=>rfl
 | lock=>rfl
omit [jA]in
def zq1(f:Nat→V)(s:Nat):∀(cs:List VB) (id:Nat) (x:BD cs),UD cs s=false→IG cs id x f s=f s:=by
 have one:∀(c:VB) (r:List VB) (id:Nat) (x:c.T) (f:Nat→V),UD (c :: r) s=false→UD r s=false∧mI c id x f s=f s:=by
  intro c r id x f h;cases c with
  | slot s' ty=>
   simp only[UD,Bool.or_eq_false_iff]at h;refine⟨h.2,BA _ _ _ _ ?_⟩;rintro rfl;simp at h
  | own s' t=>
   simp only[UD,Bool.or_eq_false_iff]at h;refine⟨h.2,BA _ _ _ _ ?_⟩;rintro rfl;simp at h
  | box s' t ow=>exact⟨h,rfl⟩
  | drop s'=>exact⟨h,rfl⟩
 intro cs;induction cs with
 | nil=>intro id x _;rfl
 | cons c cs ih=>
  intro id x h;cases cs with
  | nil=>exact(one c [] id x f h).2
  | cons d r=>
   obtain⟨h1,h2⟩:=one c (d :: r) id x.1 (IG (d :: r) (id+128) x.2 f) h;simp only[IG];rw[h2];exact ih (id+128) x.2 h1
omit [jA]in
def HT(j:JI)(b:St)(x:BD j.cs)(s:Nat)(h:j.has s=false):(install j b x).s s=b.s s:=by
 simp only[JI.has,Bool.or_eq_false_iff]at h;show IG j.cs b.nx x _ s=_
 rw[zq1 _ _ _ _ _ h.2,h.1];rfl
end
end Go.D
namespace Go.D
variable [jA]
structure fC(C:Cx)(w0:World)(outer own:Nat→Prop)(D:Nat→Prop)(st:St)(ρ:Nat→Option RI)(st':St)(a':Act)(w':World)(ρ':Nat→Option RI):Prop where
 rel:VA C w0 outer own ρ' st' a' w'
 ext:∀q qi,ρ q=some qi→ρ' q=some qi
 slots:∀s,¬D s→st'.s s=st.s s
 keeps:ZC st.nx st.h st'.h
 nx:st.nx≤st'.nx
 fresh:∀q,st'.nx≤q→ρ' q=none
section
variable {C:Cx} {w0:World} {outer own D:Nat→Prop} {R:Type}
def ztx{w:World}{ρ:Nat→Option RI}{bad:Nat→Prop}{v:Value}(h:VR w ρ bad v (.tup [])):v=undef:=by
 cases h with
 | tup _ vs hs hv=>
  have:vs= #[]:=by simpa using hs
  subst this;rfl
omit [jA]in
def zqP{ops:Array Oper}{tmps:Array Value}{j dj:Nat}(h:(ops[j]?).bind (·.dst)=some dj)(MV:dj<tmps.size):
  yielded ops tmps j=match tmps.getD dj undef with | .bool b=>some b | _=>none:=by
 unfold yielded;rw[h];simp only[Option.bind_some,Array.getElem?_eq_getElem MV,Array.getD_eq_getD_getElem?,Option.getD_some];split<;>split<;>simp_all
omit [jA]in
def zsb(ops:Array Oper){k:Nat}(hk:k<ops.size):tF k (ops.toList.drop k)=(k,ops[k]) :: tF (k+1) (ops.toList.drop (k+1)):=by
 rw[List.drop_eq_getElem_cons (by simpa using hk)];rfl
omit [jA]in
def zrS(f:Nat→V)(i:Nat)(v:V)(h:f i=v):AA f i v=f:=by
 funext q
 by_cases hq:q=i
 ·subst hq;rw[MA,h]
 ·rw[BA _ _ _ _ hq]
def zfC(hC:IF C)(hΦ:XF C){ops:Array Oper}{Q:Exit→Act→World→Prop}{K:St→Option R}{r:R}(nx:Nat)(hD:∀o∈ops,∀d,o.dst=some d→D d):∀(m k:Nat) (st:St) (a:Act) (w:World) (ρ:Nat→Option RI),
  k+m=ops.size→VA C w0 outer own ρ st a w→(∀q,nx+128 *k≤q→ρ q=none)→kJ C ops nx (tF k (ops.toList.drop k)) st K=some r→
  (∀ st' a' w' ρ',VA C w0 outer own ρ' st' a' w'→(∀ q,nx+128 *ops.size≤q→ρ' q=none)→(∀ q qi,ρ q=some qi→ρ' q=some qi)→(∀ s,¬ D s→st'.s s=st.s s)→ZC nx st.h st'.h→st'.nx=st.nx→
   K st'=some r→Q .normal a' w')→wpOps C.P ops Q (List.range' k m) a w
 | 0,k,st,a,w,ρ,hk,hr,hf,GV,LV=>by
  have:ops.toList.drop k=[]:=List.drop_eq_nil_of_le (by simp;omega);rw[this]at GV;exact LV st a w ρ hr (λq hq=>hf q (by omega)) (λ_ _ h=>h) (λ_ _=>rfl) (ZC.refl _ _) rfl GV
 | m+1,k,st,a,w,ρ,hk,hr,hf,GV,LV=>by
  have MV:k<ops.size:=by omega
  have ho:ops[k]?=some ops[k]:=Array.getElem?_eq_getElem MV;rw[zsb ops MV]at GV;rw[List.range'_succ];simp only[wpOps,ho];have hDk:∀d,(ops[k]).dst=some d→D d:=hD _ (Array.getElem_mem MV)
  -- a step
  have step:∀(st0:St),VA C w0 outer own ρ st0 a w→st0.h=st.h→st0.nx=st.nx→(∀s,¬D s→st0.s s=st.s s)→(gB C (nx+128 *k) ops[k] st0 λst'=>kJ C ops nx (tF (k+1) (ops.toList.drop (k+1))) st' K)=some r→
    (ops[k]).wp C.P a w (wpOps C.P ops Q (List.range' (k+1) m)) Q:=by
   intro st0 hr0 hh0 V9 lY GV;rw[XR]at GV;obtain⟨st1,h1,h2⟩:=Option.bind_eq_some_iff.1 GV;have L:=ziJ (n:=nx) (i:=nx+128 *k) (by omega) ops[k] st1 h1;refine zky hr0 hC hΦ ⟨_,hf⟩ (λq _=>hf _ (by omega)) h1 _ Q λa1 w1 hA=>?_;obtain⟨ρ1,QV,hE,hx⟩:=hA;refine zfC hC hΦ nx hD m (k+1) st1 a1 w1 ρ1 (by omega) QV (λq hq=>by rw[hE q (by omega)];exact hf q (by omega)) h2 λst' a' w' ρ' p1 p2 p3 p4 p5 p6 p7=>?_;refine LV st' a' w' ρ' p1 p2 (λq qi hq=>p3 _ _ (hx q qi hq)) (λs hs=>?_) ?_ (p6.trans (L.nx.trans V9)) p7
   ·rw[p4 s hs,L.slots s (λe=>hs (hDk s e)),lY s hs]
   ·rw[←hh0];exact L.rows.trans p5
  have skip:(QA C (ops[k]).dst st (.tup []) λst'=>kJ C ops nx (tF (k+1) (ops.toList.drop (k+1))) st' K)=some r→wpOps C.P ops Q (List.range' (k+1) m) (a.put (ops[k]).dst undef) w:=by
   intro GV;rw[mS]at GV;obtain⟨st1,h1,h2⟩:=Option.bind_eq_some_iff.1 GV;have L:=zca (π:=λr=>r<nx) (V.tup []) st1 h1;obtain⟨p1,_,_⟩:=hr.put (v:=undef) (d:= .tup []) (.tup [] #[] rfl λj hj=>by simp at hj) h1;refine zfC hC hΦ nx hD m (k+1) st1 _ w ρ (by omega) p1 (λq hq=>hf q (by omega)) h2 λst' a' w' ρ' q1 q2 q3 q4 q5 q6 q7=>?_;refine LV st' a' w' ρ' q1 q2 q3 (λs hs=>?_) (L.rows.trans q5) (q6.trans L.nx) q7;rw[q4 s hs,L.slots s (λe=>hs (hDk s e))]
  simp only[kJ]at GV;split at GV
  ·rename_i hg;rw[if_pos (by simp[Region.wanted,hg])];exact .inl (step st hr rfl rfl (λ_ _=>rfl) GV)
  ·rename_i j want hg;split at GV
   ·cases GV
   rename_i dj zZ
   have hDj:D dj:=by
    obtain⟨oj,h1,h2⟩:=Option.bind_eq_some_iff.1 zZ;exact hD oj (Array.mem_of_getElem? h1) dj h2
   have hv:=hr.slots dj
   have hyn:∀v,a.tmps.getD dj undef=v→(∀b,v≠ .bool b)→yielded ops a.tmps j=none:=λv hv hn=>by
    unfold yielded;rw[zZ];simp only[Option.bind_some];split
    ·rename_i b hb;rw[Array.getD_eq_getD_getElem?,hb]at hv;exact absurd hv.symm (hn b)
    ·rfl
   split at GV
   ·rename_i hs;rw[hs]at hv;have hy:=hyn _ (ztx hv) (λb h=>by cases h);rw[if_neg (by simp[Region.wanted,hg,hy])];exact skip GV
   ·rename_i t hs;rw[hs]at hv
    have hb:a.tmps.getD dj undef= .bool t:=by
     generalize a.tmps.getD dj undef=v at hv;cases hv;rfl
    have MY:dj<a.tmps.size:=by
     rcases Nat.lt_or_ge dj a.tmps.size with h | h
     ·exact h
     ·rw[Array.getD_eq_getD_getElem?,Array.getElem?_eq_none h]at hb;cases hb
    have hy:yielded ops a.tmps j=some t:=by rw[zqP zZ MY,hb]
    have AX:({st with s:=AA st.s dj (.bool t)}:St)=st:=by rw[zrS _ _ _ hs]
    have hw:Region.wanted ops[k] (yielded ops a.tmps)=(t==want):=by
     simp only[Region.wanted,hg,hy];cases t<;>cases want<;>rfl
    rw[hw]
    have GV:(bif t==want then gB C (nx+128 *k) ops[k] {st with s:=AA st.s dj (.bool t)} λst'=>kJ C ops nx (tF (k+1) (ops.toList.drop (k+1))) st' K
      else QA C (ops[k]).dst {st with s:=AA st.s dj (.bool t)} (.tup []) λst'=>kJ C ops nx (tF (k+1) (ops.toList.drop (k+1))) st' K)=some r:=by
     cases t<;>exact GV
    rw[AX]at GV;cases C8:t==want
    ·rw[C8]at GV;simp only[Bool.false_eq_true,if_false];exact skip GV
    ·rw[C8]at GV;simp only[if_true];exact .inl (step st hr rfl rfl (λ_ _=>rfl) GV)
   ·cases GV
end
end Go.D
namespace Go.D
variable [jA]
def JD(D:Nat→Prop):Option JI→Prop
 | none=>True
 | some j=>∀s,j.has s=true→D s
def kI(an:An)(D:Nat→Prop):Code→Prop
 | .region id ops _=>(∀o∈ops,∀d,o.dst=some d→D d)∧JD D (EC id an.r)
 | .seq a b=>kI an D a∧kI an D b
 | .cond (.tmp t) a b=>kI an D a∧kI an D b∧JD D (EC (zfE t a b) an.c)
 | .cond _ a b=>kI an D a∧kI an D b
 | .block id b=>kI an D b∧JD D (EC id an.b)
 | .loop b=>kI an D b∧match BK b with
  | some rid=>JD D (EC rid an.l)
  | none=>True
 | .scope b=>kI an D b
 | _=>True
omit [jA]in
def eU:∀(cs:List VB) (s:Nat),UD cs s=true→∃c∈cs,(∃ty,c= .slot s ty)∨∃t,c= .own s t
 | [],s,h=>by simp[UD]at h
 | .slot s' ty :: r,s,h=>by
  simp only[UD,Bool.or_eq_true]at h
  rcases h with h | h
  ·have:=Nat.eq_of_beq_eq_true h;subst this;exact⟨_,by simp, .inl ⟨ty,rfl⟩⟩
  ·obtain⟨c,h1,h2⟩:=eU r s h;exact⟨c,by simp[h1],h2⟩
 | .own s' t :: r,s,h=>by
  simp only[UD,Bool.or_eq_true]at h
  rcases h with h | h
  ·have:=Nat.eq_of_beq_eq_true h;subst this;exact⟨_,by simp, .inr ⟨t,rfl⟩⟩
  ·obtain⟨c,h1,h2⟩:=eU r s h;exact⟨c,by simp[h1],h2⟩
 | .drop s' :: r,s,h=>by
  obtain⟨c,h1,h2⟩:=eU r s h;exact⟨c,by simp[h1],h2⟩
 | .box s' t ow :: r,s,h=>by
  obtain⟨c,h1,h2⟩:=eU r s h;exact⟨c,by simp[h1],h2⟩
omit [jA]in
def zcu(j:JI)(o:Option JI)(h:fits j o=true):JD (λs=>j.has s=true) o:=by
 cases o with
 | none=>trivial
 | some i=>
  simp only[fits,Bool.and_eq_true,List.all_eq_true]at h;intro s hs;simp only[JI.has,Bool.or_eq_true]at hs
  rcases hs with hs | hs
  ·obtain⟨p,hp,hps⟩:=List.any_eq_true.1 hs;simp only[Bool.and_eq_true,Nat.ble_eq]at hps;have h1:=h.1 p hp;simp only[zkj,Bool.or_eq_true,Bool.and_eq_true]at h1
   rcases h1 with h1 | ⟨h1,h2⟩
   ·obtain⟨q,hq,b4⟩:=List.any_eq_true.1 h1;simp only[Bool.and_eq_true,Nat.ble_eq]at b4;have:tO j.kill s=true:=List.any_eq_true.2 ⟨q,hq,by simp only[Bool.and_eq_true,Nat.ble_eq];omega⟩;simp[JI.has,this]
   ·have:=Nat.eq_of_beq_eq_true h1;have hsp:s=p.1:=by omega
    subst hsp;simp[JI.has,h2]
  ·obtain⟨c,h1,h2⟩:=eU _ _ hs;have h3:=h.2 c h1
   rcases h2 with⟨ty,rfl⟩ | ⟨t,rfl⟩<;>exact h3
omit [jA]in
def PG(an:An)(j:JI):∀(c:Code),Code.within an j c=true→kI an (λs=>j.has s=true) c
 | .region id ops d,h=>by
  simp only[Code.within,Bool.and_eq_true,List.all_eq_true]at h;refine⟨λo ho d hd=>?_,zcu j _ h.2⟩;have:=h.1 o (by simpa using ho);rw[hd]at this;exact this
 | .seq a b,h=>by
  simp only[Code.within,Bool.and_eq_true]at h;exact⟨PG an j a h.1,PG an j b h.2⟩
 | .cond c a b,h=>by
  cases c with
  | tmp t=>
   simp only[Code.within,Bool.and_eq_true]at h;exact⟨PG an j a h.1.1,PG an j b h.1.2,zcu j _ h.2⟩
  | _=>
   simp only[Code.within,Bool.and_eq_true]at h;exact⟨PG an j a h.1,PG an j b h.2⟩
 | .block id b,h=>by
  simp only[Code.within,Bool.and_eq_true]at h;exact⟨PG an j b h.1,zcu j _ h.2⟩
 | .loop b,h=>by
  simp only[Code.within,Bool.and_eq_true]at h;refine⟨PG an j b h.1,?_⟩;have h2:=h.2;split
  ·rename_i rid hr;rw[hr]at h2;exact zcu j _ h2
  ·trivial
 | .scope b,h=>PG an j b h
 | .skip,_=>trivial
 | .exit _,_=>trivial
 | .ret,_=>trivial
 | .label _,_=>trivial
 | .goto _,_=>trivial
 | .refuse _,_=>trivial
 | .rangeFunc _ _ _ _,_=>trivial
end Go.D

/-
 The plain semantics of whole bodies: regions, branches that meet again, loops. What meets again meets by a tuple of plain data.
-/
import Derived.Test.YtdmiplkjdpcbeaaGreatL4
namespace Go.D
open Option renaming bind → ob
noncomputable section
variable [fA]
inductive Ty where
 | v (t:TN)
 | sl (t:TN)
 | raw
 | cells (t:TN)
  | pt (t:TN)
  | c1 (g:Nat) (t:TN)
 | p1 (g:Nat) (t:TN)
 | c2 (g h:Nat) (t:TN)
@[reducible] def Ty.T:Ty→Type
 | .v t=>El t
 | .sl t=>List (El t)
 | .raw=>V
 | .cells t=>El t
 | .pt t=>El t
 | .c1 _ t=>El t
 | .p1 _ t=>El t
 | .c2 _ _ t=>El t × El t
def PG (t:TN) (a:El t):V:=bif t.isAgg then .agg (enc t a) else match enc t a with
 | c :: _=>c
 | []=> .undef
def VB:(t:Ty)→t.T→V
 | .v t,a=>PG t a
 | .sl t,l=> .sl t l
 | .raw,v=>v
 | .cells t,a=> .agg (enc t a)
 | .pt t,a=> .fp (enc t a) 0
 | .c1 g t,a=> .fn g [.fp (enc t a) 0]
 | .p1 g t,a=> .fp [.fn g [.fp (enc t a) 0]] 0
 | .c2 g h t,a=> .fn g [.fp [.fn h [.fp (enc t a.1) 0]] 0, .fp (enc t a.2) 0]
def DC:(t:Ty)→V→Option t.T
 | .v t,v=>match v with
  | .agg cs=>bif t.isAgg then iD t cs else none
  | v=>bif t.isAgg then none else iD t [v]
 | .sl t,v=>NA t v
 | .raw,v=>some v
 | .cells t,v=>match v with
  | .agg cs=>iD t cs
  | _=>none
 | .pt t,v=>match v with
  | .fp cs 0=>iD t cs
  | _=>none
 | .c1 g t,v=>match v with
  | .fn g' [.fp cs 0]=>bif Nat.beq g' g then iD t cs else none
  | _=>none
 | .p1 g t,v=>match v with
  | .fp [.fn g' [.fp cs 0]] 0=>bif Nat.beq g' g then iD t cs else none
  | _=>none
 | .c2 g h t,v=>match v with
  | .fn g' [.fp [.fn h' [.fp cs 0]] 0, .fp ds 0]=>bif Nat.beq g' g&&Nat.beq h' h then ob (iD t cs) fun x=>ob (iD t ds) fun y=>some (x,y) else none
  | _=>none
inductive DB where
 | slot (s:Nat) (ty:Ty)
 | own (s:Nat) (t:TN)
 | box (s:Nat) (t:TN) (own:List Nat)
  | drop (s:Nat)
@[reducible] def DB.T:DB→Type
 | .slot _ ty=>ty.T
 | .own _ t=>List (El t)
 | .box _ t _=>El t
 | .drop _=>Unit
@[reducible] def oC:List DB→Type
 | []=>Unit
 | [c]=>c.T
 | c :: d :: r=>c.T × oC (d :: r)
@[reducible] def lA:List Ty→Type
 | []=>Unit
 | [c]=>c.T
 | c :: d :: r=>c.T × lA (d :: r)
def jC:(ts:List Ty)→List V→Option (lA ts)
 | [],[]=>some ()
 | [t],[v]=>DC t v
 | t :: d :: r,v :: vs=>ob (DC t v) fun x=>ob (jC (d :: r) vs) fun y=>some (x,y)
 | _,_=>none
def WA:(ts:List Ty)→lA ts→List V
 | [],_=>[]
 | [t],x=>[VB t x]
 | t :: d :: r,x=>VB t x.1 :: WA (d :: r) x.2
def iR:(t:Ty)→t.T→List V
 | .v t,a=>enc t a
 | .sl t,l=>[.sl t l]
 | .raw,v=>[v]
 | .cells t,a=>enc t a
 | .pt t,a=>[.fp (enc t a) 0]
 | .c1 g t,a=>[.fn g [.fp (enc t a) 0]]
 | .p1 g t,a=>[.fp [.fn g [.fp (enc t a) 0]] 0]
 | .c2 g h t,a=>[.fn g [.fp [.fn h [.fp (enc t a.1) 0]] 0, .fp (enc t a.2) 0]]
def KC:(ts:List Ty)→lA ts→List V
 | [],_=>[]
 | [t],x=>iR t x
 | t :: d :: r,x=>iR t x.1++KC (d :: r) x.2
def zF:(t:Ty)→List V→Option (t.T × List V)
 | .v t,vs=>(iD t (vs.take (sz t))).bind fun a=>some (a,vs.drop (sz t))
 | .sl t,v :: vs=>(NA t v).bind fun l=>some (l,vs)
 | .sl _,[]=>none
 | .raw,v :: vs=>some (v,vs)
 | .raw,[]=>none
 | .cells t,vs=>(iD t (vs.take (sz t))).bind fun a=>some (a,vs.drop (sz t))
 | .pt _,_=>none
 | .c1 _ _,_=>none
 | .p1 _ _,_=>none
 | .c2 _ _ _,_=>none
def xG:(ts:List Ty)→List V→Option (lA ts)
 | [],[]=>some ()
 | [t],vs=>(zF t vs).bind fun x=>match x.2 with
  | []=>some x.1
  | _=>none
 | t :: d :: r,vs=>(zF t vs).bind fun x=>(xG (d :: r) x.2).bind fun y=>some (x.1,y)
 | [],_ :: _=>none
structure JI where
 cs:List DB
 kill:List (Nat × Nat)
 pre:List Nat
structure An where
 c:List (Nat × JI)
 b:List (Nat × JI)
 l:List (Nat × JI)
 r:List (Nat × JI)
 d:List (Nat × List Nat)
inductive Ex where
 | normal
 | exit (id:Nat)
 | ret
def FU:Nat:=Classical.choose (⟨2^64,rfl⟩:∃ n:Nat,n=2^64)
omit [fA] in
theorem oV:FU=2^64:=Classical.choose_spec (⟨2^64,rfl⟩:∃ n:Nat,n=2^64)
section
variable {R:Type}
def tA {σ:Type}:Nat→(σ→(σ→Option R)→Option R)→σ→Option R
 | 0,_,_=>none
 | n+1,f,x=>f x (tA n f)
def aA {σ:Type} (k:σ→Option R) (b:(σ→Option R)→Option R):Option R:=b k
def SB {α:Type} (k:Nat):List (Nat × α)→Option α
 | []=>none
 | (j,x) :: r=>bif Nat.beq j k then some x else SB k r
def zK:(c:DB)→St→(c.T→St→Option R)→Option R
 | .slot s ty,st,k=>match OE st.h (st.s s) with
  | some (v,ids)=>ob (DC ty v) fun x=>k x { st with h:=IB st.h ids }
  | none=>none
 | .own s t,st,k=>match FM st.h t (st.s s) with
  | some (l,r)=>k l { st with h:=wJ st.h r }
  | none=>none
 | .box s t own,st,k=>match st.s s with
  | .bp r 0=>match st.h r with
   | some ⟨.box cs, .own⟩=>match AC own 0 cs (uA st.h r none) with
    | some (cs',h')=>ob (iD t cs') fun x=>k x { st with h:=h' }
    | none=>none
   | _=>none
  | _=>none
 | .drop _,st,k=>k () st
def sE:(cs:List DB)→St→(oC cs→Option R)→Option R
 | [],_,k=>k ()
 | [c],st,k=>zK c st fun x _=>k x
 | c :: d :: r,st,k=>zK c st fun x st'=>sE (d :: r) st' fun y=>k (x,y)
def OH:V→Option Nat
 | .ow r=>some r
 | .ov r _ _ _=>some r
 | _=>none
def LF:(c:DB)→Nat→c.T→(Nat→V)→Nat→V
 | .slot s ty,_,x,f=>uA f s (VB ty x)
 | .own s _,id,_,f=>uA f s (.ow id)
 | .box ..,_,_,f=>f
 | .drop _,_,_,f=>f
def vE:(cs:List DB)→Nat→oC cs→(Nat→V)→Nat→V
 | [],_,_,f=>f
 | [c],id,x,f=>LF c id x f
 | c :: d :: r,id,x,f=>LF c id x.1 (vE (d :: r) (id+128) x.2 f)
def UG (sl:Nat→V):(c:DB)→Nat→c.T→(Nat→Option nA)→Nat→Option nA
 | .slot ..,_,_,h=>h
 | .own _ t,id,x,h=>uA h id (some ⟨.arr t x, .own⟩)
 | .box s t own,id,x,h=>match sl s with
  | .bp r 0=>uA (UA own id h 0 (enc t x)) r (some ⟨.box (JA own id 0 (enc t x)), .own⟩)
  | _=>h
 | .drop _,_,_,h=>h
def sJ (sl:Nat→V):(cs:List DB)→Nat→oC cs→(Nat→Option nA)→Nat→Option nA
 | [],_,_,h=>h
 | [c],id,x,h=>UG sl c id x h
 | c :: d :: r,id,x,h=>UG sl c id x.1 (sJ sl (d :: r) (id+128) x.2 h)
def rJ (kill:List (Nat × Nat)) (i:Nat):Bool:=kill.any fun p=>Nat.ble p.1 i&&Nat.ble i p.2
def HC:List DB→Nat→Bool
 | [],_=>false
 | .slot s _ :: r,i=>Nat.beq s i||HC r i
 | .own s _ :: r,i=>Nat.beq s i||HC r i
 | .box .. :: r,i=>HC r i
 | .drop _ :: r,i=>HC r i
def gG (st:St) (r:Nat):DB→Bool
 | .slot .. =>false
 | .own s _=>match OH (st.s s) with | some r'=>Nat.beq r r' | none=>false
 | .box s _ _ | .drop s=>match st.s s with
  | .bp b 0=>Nat.beq r b||match st.h b with
   | some ⟨.box cs,_⟩=>cs.any fun c=>match OH c with | some r'=>Nat.beq r r' | none=>false
   | _=>false
  | _=>false
def DH (cs:List DB) (st:St) (r:Nat):Bool:=cs.any (gG st r)
def wF (j:JI) (base:St):Nat→Option nA:=fun r=>match base.h r with
 | some ⟨c, .own⟩=>bif DH j.cs base r then none else some ⟨c, .own⟩
 | x=>x
def install (j:JI) (base:St) (x:oC j.cs):St:=
 { s:=vE j.cs base.nx x fun i=>bif rJ j.kill i then .undef else base.s i
   h:=sJ base.s j.cs base.nx x (wF j base)
   nx:=base.nx+128 *j.cs.length }
def cC (j:JI) (st:St):St:=
 { st with h:=fun r=>match st.h r with
   | some ⟨c, .own⟩=>bif DH j.cs st r then some ⟨c, .own⟩ else some ⟨c, .lock⟩
   | x=>x }
def unlock (base st:St):St:=
 { st with h:=fun r=>match st.h r with
   | some ⟨c, .lock⟩=>match base.h r with
    | some ⟨_, .own⟩=>some ⟨c, .own⟩
    | _=>some ⟨c, .lock⟩
   | x=>x }
def zbB (st:St) (s:Nat):Option (List Nat):=
 bif Nat.ble 1000000 s then
  match st.s (s - 1000000) with
  | .bp r _=>match st.h r with
   | some ⟨.box cs,_⟩=>match TD st.h cs with
    | some (_,ids)=>some ids
    | none=>none
   | _=>none
  | _=>none
 else match OE st.h (st.s s) with
  | some (_,ids)=>some ids
  | none=>none
def ZG (pre:List Nat) (st:St):Option St:=
 match pre with
 | []=>some st
 | s :: r=>match zbB st s with
  | some ids=>ZG r { st with h:=IB st.h ids }
  | none=>none
def yH:Code→Option Nat
 | .region id _ _=>some id
 | .seq a b=>match yH a with
  | some i=>some i
  | none=>yH b
 | .cond _ a _=>yH a
 | .block _ b | .loop b | .scope b=>yH b
 | _=>none
def zaz (t:Nat) (a b:Code):Nat:=t *65536+match yH a with
 | some i=>i+1
 | none=>match yH b with
  | some i=>i+1
  | none=>0
def JI.has (j:JI) (i:Nat):Bool:=rJ j.kill i||HC j.cs i
def zgT (kill:List (Nat × Nat)) (j:JI) (p:Nat × Nat):Bool:=kill.any (fun q=>Nat.ble q.1 p.1&&Nat.ble p.2 q.2)||(Nat.beq p.1 p.2&&HC j.cs p.1)
def zoZ (j:JI):DB→Bool
 | .slot s _=>j.has s
 | .own s _=>j.has s
 | .box .. | .drop _=>true
def fits (j:JI):Option JI→Bool
 | none=>true
 | some i=>i.kill.all (zgT j.kill j)&&i.cs.all (zoZ j)
def Code.within (an:An) (j:JI):Code→Bool
 | .region id ops _=>ops.toList.all (fun o=>match o.dst with | some d=>j.has d | none=>true)&&fits j (SB id an.r)
 | .seq a b=>Code.within an j a&&Code.within an j b
 | .cond (.tmp t) a b=>Code.within an j a&&Code.within an j b&&fits j (SB (zaz t a b) an.c)
 | .cond _ a b=>Code.within an j a&&Code.within an j b
 | .block id b=>Code.within an j b&&fits j (SB id an.b)
 | .loop b=>Code.within an j b&&match yH b with
  | some rid=>fits j (SB rid an.l)
  | none=>true
 | .scope b=>Code.within an j b
 | _=>true
def mK (j:JI):Bool:=j.cs.all fun c=>match c with
 | .box s _ _ | .drop s=>!(j.has s)
 | _=>true
def UF:List DB→Bool
 | []=>true
 | .slot s _ :: r=>!(HC r s)&&UF r
 | .own s _ :: r=>!(HC r s)&&UF r
 | .box .. :: r=>UF r
 | .drop _ :: r=>UF r
def RE (an:An) (j:JI) (c:Code):Bool:=Code.within an j c&&mK j&&UF j.cs
variable (C:Cx)
def sG (ops:Array Oper) (nx:Nat):List (Nat × Oper)→St→(St→Option R)→Option R
 | [],st,K=>K st
 | (i,o) :: rest,st,K=>
  match o.guard with
  | none=>bB C (nx+128 *i) o st fun st'=>sG ops nx rest st' K
  | some (j,want)=>match (ops[j]?).bind (·.dst) with
   | none=>none
   | some dj=>match st.s dj with
    | .tup []=>MA C o.dst st (.tup []) fun st'=>sG ops nx rest st' K
    | .bool t=>
     let G:Bool→Option R:=fun b=>
      let st:= { st with s:=uA st.s dj (.bool b) }
      gd (b==want) (bB C (nx+128 *i) o st fun st'=>sG ops nx rest st' K) (MA C o.dst st (.tup []) fun st'=>sG ops nx rest st' K)
     cond t (G true) (G false)
    | _=>none
def QD {α:Type}:Nat→List α→List (Nat × α)
 | _,[]=>[]
 | i,x :: r=>(i,x) :: QD (i+1) r
structure iC where
 i:Nat
 dst:Option Nat
 ls:List Nat
 rd:List Nat
 wr:List Nat
def YC (r:Nat) (l:List Nat):Bool:=l.any (Nat.beq r)
def UN:Option nA→Option nA
 | some ⟨c, .own⟩=>some ⟨c, .lock⟩
 | x=>x
def eE (rd wr:List Nat) (h:Nat→Option nA):Nat→Option nA:=fun r=>bif YC r wr then h r else bif YC r rd then UN (h r) else none
def vH (ls:List Nat) (s:Nat→V):Nat→V:=fun t=>bif YC t ls then s t else .undef
def KF (b r:Nat):Bool:=Nat.ble b r&&Nat.blt r (b+128)
def GH (b:Nat) (wr:List Nat) (h h':Nat→Option nA):Nat→Option nA:=fun r=>bif YC r wr||KF b r then h' r else h r
def uI (dst:Option Nat) (s s':Nat→V):Nat→V:=match dst with
 | none=>s
 | some d=>uA s d (s' d)
def MD (b:Nat) (o:Oper) (ls rd wr:List Nat) (st:St) (K:St→Option R):Option R:=
 bB C b o { s:=vH ls st.s,h:=eE rd wr st.h,nx:=st.nx } fun st'=>K { s:=uI o.dst st.s st'.s,h:=GH b wr st.h st'.h,nx:=st.nx }
def jG:V→List Nat
 | .ow r=>[r]
 | .ov r _ _ _=>[r]
 | .bp r _=>[r]
 | .ep r _ _ _=>[r]
 | _=>[]
def zbq:V→List Nat
 | .agg cs=>cs.flatMap jG
 | v=>jG v
def zfw (h:Nat→Option nA):V→List Nat
 | .bp r _=>r :: match h r with
  | some ⟨.box cs,_⟩=>cs.flatMap jG
  | _=>[]
 | v=>zbq v
def ze8 (h:Nat→Option nA) (r:Nat):Bool:=match h r with
 | some ⟨_, .ro⟩=>true
 | _=>false
def TU (h:Nat→Option nA) (l:List Nat):List Nat × List Nat:=(l.filter (ze8 h),l.filter fun r=>!ze8 h r)
def JF (o:Oper) (st:St):List Nat × List Nat:=
 match o.op with
 | .load _ a=>(jG (opd st.s a),[])
 | .store _ a x=>match opd st.s a with
  | .ep r _ _ _=>let p:=TU st.h (zbq (opd st.s x));(p.1,r :: p.2)
  | v=>([],jG v)
 | .slice _ x _ _ _=>(jG (opd st.s x),[])
 | .indexAddr _ x _=>(jG (opd st.s x),[])
 | .convert _ _ x=>(jG (opd st.s x),[])
 | .buildSlice _ _ ps=>TU st.h (ps.toList.flatMap fun p=>zbq (opd st.s p.2))
 | .makeFunc _ _ cs=>TU st.h (cs.toList.flatMap fun x=>zfw st.h (opd st.s x))
 | .call { callee:= .builtin .append,args,argTypes:=_ }=>match args.toList with
  | [x,y]=>(jG (opd st.s y),jG (opd st.s x))
  | _=>([],[])
 | .call { callee:= .builtin _,args,argTypes:=_ }=>(args.toList.flatMap fun x=>jG (opd st.s x),[])
 | .call { callee:=_,args,argTypes:=_ }=>TU st.h (args.toList.flatMap fun x=>zfw st.h (opd st.s x))
 | _=>([],[])
def IJ (o:Oper):List Nat:=o.op.operands.toList.filterMap fun x=>match x with
 | .tmp t=>some t
 | _=>none
def PQ (d:Option Nat) (l:List Nat):Bool:=match d with
 | some d=>YC d l
 | none=>false
def mG (nx:Nat) (e1 e:iC):Bool:=
 !(PQ e1.dst e.ls)&&!(PQ e.dst e1.ls)&&!(PQ e1.dst e.dst.toList)&&
 e1.wr.all (fun r=>!(YC r e.rd)&&!(YC r e.wr))&&e.wr.all (fun r=>!(YC r e1.rd))&&
 e.rd.all (fun r=>!(KF (nx+128 *e1.i) r))&&e.wr.all (fun r=>!(KF (nx+128 *e1.i) r))&&
 e1.rd.all (fun r=>!(KF (nx+128 *e.i) r))&&e1.wr.all (fun r=>!(KF (nx+128 *e.i) r))
def nG (mask nx:Nat) (rs:List iC) (e:iC):Bool:=rs.all fun e1=>Nat.testBit mask e1.i||mG nx e1 e
def WN (ms:List Nat) (es:List Edge):Nat:=es.foldl (fun s e=>bif Region.binds .any e then s|||(2^e.on|||ms.getD e.on 0) else s) 0
def gC:List Nat→List Oper→List Nat
 | ms,[]=>ms
 | ms,o :: r=>gC (ms++[WN ms o.after.toList]) r
def zer (i:Nat) (o:Oper):Bool:=o.after.toList.all fun e=>!(Region.binds .any e)||Nat.blt e.on i
def rG (ops:Array Oper) (ms:List Nat) (nx:Nat):List (Nat × Oper)→List iC→St→(St→Option R)→Option R
 | [],_,st,K=>K st
 | (i,o) :: rest,rs,st,K=>
  gd (zer i o) (
  match o.guard with
  | none=>
   let f:=JF o st
   let e:iC:=⟨i,o.dst,IJ o,f.1,f.2⟩
   gd (nG (ms.getD i 0) nx rs e) (MD C (nx+128 *i) o e.ls e.rd e.wr st fun st'=>rG ops ms nx rest (e :: rs) st' K) none
  | some (j,want)=>match (ops[j]?).bind (·.dst) with
   | none=>none
   | some dj=>
    let skip:St→Option R:=fun st=>
     let e:iC:=⟨i,o.dst,[dj],[],[]⟩
     gd (nG (ms.getD i 0) nx rs e) (MA C o.dst st (.tup []) fun st'=>rG ops ms nx rest (e :: rs) st' K) none
    match st.s dj with
    | .tup []=>skip st
    | .bool t=>
     let G:Bool→Option R:=fun b=>
      let st:= { st with s:=uA st.s dj (.bool b) }
      gd (b==want) (
       let f:=JF o st
       let e:iC:=⟨i,o.dst,dj :: IJ o,f.1,f.2⟩
       gd (nG (ms.getD i 0) nx rs e) (MD C (nx+128 *i) o e.ls e.rd e.wr st fun st'=>rG ops ms nx rest (e :: rs) st' K) none) (skip st)
     cond t (G true) (G false)
    | _=>none) none
def zfW (pre:List Nat) (ops:Array Oper) (st:St) (K:St→Option R):Option R:=
 match ZG pre st with
 | none=>none
 | some st=>rG C ops (gC [] ops.toList) st.nx (QD 0 ops.toList) [] st fun st'=>K { st' with nx:=st.nx+128 *ops.size }
def iO (pre:List Nat) (draw:Bool) (ops:Array Oper) (st:St) (K:St→Option R):Option R:=
 gd (draw) (zfW C pre ops st K) (
 sG C ops st.nx (QD 0 ops.toList) st fun st'=>K { st' with nx:=st.nx+128 *ops.size })
def bD (an:An):Code→St→(Ex→St→Option R)→Option R
 | .skip,st,K=>K .normal st
 | .region id ops d,st,K=>match SB id an.r with
  | none=>iO C ((SB id an.d).getD []) d ops st (K .normal)
  | some j=>match ZG j.pre st with
   | none=>none
   | some st=>gd (RE an j (.region id ops d)) (
     aA (fun y:oC j.cs=>K .normal (install j st y)) fun k=>iO C ((SB id an.d).getD []) d ops (cC j st) fun st'=>sE j.cs st' k) none
 | .seq a b,st,K=>bD an a st fun e st'=>match e with
  | .normal=>bD an b st' K
  | e=>K e st'
 | .cond (.tmp t) a b,st,K=>match st.s t with
  | .bool x=>match SB (zaz t a b) an.c with
   | none=>cond x (bD an a st K) (bD an b st K)
   | some j=>match ZG j.pre st with
    | none=>none
    | some st=>gd (RE an j a&&RE an j b) (
      aA (fun y:oC j.cs=>K .normal (install j st y)) fun k=>
       let K':Ex→St→Option R:=fun e st'=>match e with
        | .normal=>sE j.cs st' k
        | e=>K e (unlock st st')
       cond x (bD an a (cC j st) K') (bD an b (cC j st) K')) none
  | _=>none
 | .block id b,st,K=>match SB id an.b with
  | none=>bD an b st fun e st'=>match e with
   | .exit id'=>gd (Nat.beq id' id) (K .normal st') (K e st')
   | e=>K e st'
  | some j=>match ZG j.pre st with
   | none=>none
   | some st=>gd (RE an j b) (
     aA (fun y:oC j.cs=>K .normal (install j st y)) fun k=>
      bD an b (cC j st) fun e st'=>match e with
       | .normal=>sE j.cs st' k
       | .exit id'=>gd (Nat.beq id' id) (sE j.cs st' k) (K e (unlock st st'))
       | e=>K e (unlock st st')) none
 | .loop b,st,K=>match yH b with
  | none=>none
  | some rid=>match SB rid an.l with
   | none=>none
   | some j=>match ZG j.pre st with
    | none=>none
    | some st=>gd (RE an j b) (
      sE j.cs (cC j st) fun x0=>tA FU (fun (x:oC j.cs) (k:oC j.cs→Option R)=>
       bD an b (cC j (install j st x)) fun e st'=>match e with
        | .normal=>sE j.cs st' k
        | e=>K e (unlock (install j st x) st')) x0) none
 | .exit id,st,K=>K (.exit id) st
 | .ret,st,K=>K .ret st
 | _,_,_=>none
def vF (P:Program) (st:St):List ResultVar→List (Bool × Nat)→Option (List V)
 | [],[]=>some []
 | .tmp t :: r,(ag,n) :: sh=>match st.s t,vF P st r sh with
  | .agg cs,some vs=>bif ag&&Nat.beq n cs.length then some (cs++vs) else none
  | v,some vs=>bif !ag&&Nat.beq n 1&&v.leaf then some (v :: vs) else none
  | _,none=>none
 | .cell a t :: r,(ag,n) :: sh=>match st.s a,vF P st r sh,kD P t,vD P t with
  | .bp b 0,some vs,some ag',some n'=>match st.h b with
   | some ⟨.box cs,_⟩=>bif (ag==ag')&&Nat.beq n n'&&Nat.beq n cs.length&&(ag||Nat.beq n 1) then some (cs++vs) else none
   | _=>none
  | _,_,_,_=>none
 | _,_=>none
def bE (st:St):List ZA→List V→Nat→Option (List V)
 | .plain :: ks,_ :: as,k=>bE st ks as (k+1)
 | .mv _ :: ks,_ :: as,k=>bE st ks as (k+1)
 | .ptr _ :: ks, .agg cs0 :: as,k=>match st.h (128 *k+127),bE st ks as (k+1) with
  | some ⟨.box cs, .own⟩,some vs=>bif Nat.beq cs.length cs0.length then some (cs++vs) else none
  | _,_=>none
 | [],[],_=>some []
 | _,_,_=>none
def HB:List ZA→List Ty→Bool
 | [],[]=>true
 | .plain :: ks,_ :: ts=>HB ks ts
 | .ptr _ :: ks, .cells t :: ts=>Nat.ble (sz t) 127&&HB ks ts
 | .mv _ :: ks, .v t :: ts=>t.isAgg&&Nat.ble (sz t) 127&&HB ks ts
 | _,_=>false
def iN (fn:Func) (body:Code) (an:An) (ks:List ZA) (own:List Nat) (shape:List (Bool × Nat)) (ts:List Ty) (as:List V):Option (lA ts):=
 bD C an body { s:=fun i=>match (rB ks 0 as).drop i with | v :: _=>v | []=> .undef,h:=yA ks 0 as,nx:=128 *ks.length } fun e st=>
  match e with
  | .exit _=>none
  | _=>match vF C.P st fn.results.toList shape,bE st ks as 0 with
   | some vs,some us=>match AC own 0 (vs++us) st.h with
    | some (rs,_)=>xG ts rs
    | none=>none
   | _,_=>none
end
end
end Go.D
namespace Go.D
variable [fA]
section
variable {C:Cx} {w0:World} {outer own:Nat→Prop} {ρ:Nat→Option RI} {st st':St} {a:Act} {w:World} {R:Type}
omit [fA] in
theorem DM (ow:List Nat):∀ (cs:List V) (p:Nat) (h:Nat→Option nA) (x:List V × (Nat→Option nA)),AC ow p cs h=some x→x.1.length=cs.length
 | [],p,h,x,ht=>by simp [AC] at ht;subst ht;rfl
 | c :: cs,p,h,x,ht=>by
  simp only [AC] at ht
  cases hb:ow.any (Nat.beq p)
  ·simp only [hb,cond_false] at ht
   split at ht
   case h_2=>cases ht
   split at ht
   case h_2=>cases ht
   rename_i hr
   have k:=DM ow cs (p+1) _ _ hr
   cases ht
   simpa using k
  ·simp only [hb,cond_true] at ht
   split at ht
   ·split at ht
    case h_2=>cases ht
    split at ht
    case h_2=>cases ht
    rename_i hr
    have k:=DM ow cs (p+1) _ _ hr
    cases ht
    simpa using k
   ·split at ht
    case h_2=>cases ht
    rename_i hr
    have k:=DM ow cs (p+1) _ _ hr
    cases ht
    simpa using k
   ·split at ht
    case h_2=>cases ht
    split at ht
    case h_2=>cases ht
    rename_i hr
    have k:=DM ow cs (p+1) _ _ hr
    cases ht
    simpa using k
   ·cases ht
def CG (w:World) (ρ:Nat→Option RI) (bad:Nat→Prop) (g:Nat→Option nA) (tv:Nat→Value) (sl:Nat→V):(c:DB)→Nat→c.T→Prop
 | .slot s ty,_,x=>VR w ρ bad (tv s) (VB ty x)∧ZB (VB ty x)
 | .own s t,id,x=>VR w ρ bad (tv s) (.ow id)∧g id=some ⟨.arr t x, .own⟩
 | .drop _,_,_=>True
 | .box s t ow,id,x=>∃ r,sl s= .bp r 0∧g r=some ⟨.box (JA ow id 0 (enc t x)), .own⟩∧∀ q,q<128→g (id+q)=UA ow id (fun _=>none) 0 (enc t x) (id+q)
omit [fA] in
theorem zuN {v:V} {ds:List V} (h:vB [v] ds):∃ d,ds=[d]∧dF v d:=by
 cases h with
 | cons h1 h2=>cases h2;exact ⟨_,rfl,h1⟩
omit [fA] in
theorem zpE (t:TN) (x:El t):0<(enc t x).length:=by rw [aC];exact VJ t
theorem lN {t:TN} {cs:List V} {x:El t} {bad:Nat→Prop} {u:Value} (hd:iD t cs=some x) (hv:VR w ρ bad u (.fp cs 0)):VR w ρ bad u (.fp (enc t x) 0):=by
 have hs:=CD t hd
 cases hv with
 | fp _ off b o u h0 hb hu hv=>
 exact .fp _ _ b o u (zpE t x) hb (fun j hj=>hu j (by rw [hs.len];exact hj)) fun j hj=>VR.sub (hs.get j (by rw [hs.len];exact hj) hj) (hv j (by rw [hs.len];exact hj))
theorem fn1 {bad:Nat→Prop} {u:Value} {g:Nat} {c d:V} (h:∀ u',VR w ρ bad u' c→VR w ρ bad u' d) (hv:VR w ρ bad u (.fn g [c])):VR w ρ bad u (.fn g [d]):=by
 cases hv with
 | fn _ _ caps hs hv=>
 exact .fn _ _ caps hs fun j hj=>by
  have:j=0:=by simp at hj;omega
  subst this;exact h _ (hv 0 (by simp))
theorem fn2 {bad:Nat→Prop} {u:Value} {g:Nat} {c d c' d':V} (h:∀ u',VR w ρ bad u' c→VR w ρ bad u' d) (h':∀ u',VR w ρ bad u' c'→VR w ρ bad u' d') (hv:VR w ρ bad u (.fn g [c,c'])):VR w ρ bad u (.fn g [d,d']):=by
 cases hv with
 | fn _ _ caps hs hv=>
 exact .fn _ _ caps hs fun j hj=>by
  match j,hj with
  | 0,_=>exact h _ (hv 0 (by simp))
  | 1,_=>exact h' _ (hv 1 (by simp))
theorem fp1 {bad:Nat→Prop} {u:Value} {c d:V} (h:∀ u',VR w ρ bad u' c→VR w ρ bad u' d) (hv:VR w ρ bad u (.fp [c] 0)):VR w ρ bad u (.fp [d] 0):=by
 cases hv with
 | fp _ off b o u h0 hb hu hv=>
 exact .fp _ _ b o u (by simp) hb (fun j hj=>hu j hj) fun j hj=>by
  have:j=0:=by simp at hj;omega
  subst this;exact h _ (hv 0 (by simp))
theorem zek (ty:Ty) (v:V) (x:ty.T) {bad:Nat→Prop} {u:Value} (hd:DC ty v=some x) (hv:VR w ρ bad u v):VR w ρ bad u (VB ty x):=by
 cases ty with
 | v t=>
  simp only [DC] at hd
  split at hd
  ·rename_i cs
   cases DW:t.isAgg
   case false=>simp [DW] at hd
   simp only [DW,cond_true] at hd
   have hs:=CD t hd
   simp only [VB,PG,DW,cond_true]
   cases hv with
   | agg _ vs h1 h2=>
   refine .agg _ _ (by rw [h1];exact hs.len) fun j hj=>VR.sub (hs.get j (by rw [hs.len];exact hj) hj) (h2 j (by rw [hs.len];exact hj))
  ·cases DW:t.isAgg
   case true=>simp [DW] at hd
   simp only [DW,cond_false] at hd
   obtain ⟨d,h1,h2⟩:=zuN (CD t hd)
   simp only [VB,PG,DW,cond_false,h1]
   exact VR.sub h2 hv
 | sl t=>exact VR.sub (SA hd) hv
 | raw=>simp only [DC,Option.some.injEq] at hd;subst hd;exact hv
 | cells t=>
  simp only [DC] at hd
  split at hd
  ·have hs:=CD t hd
   simp only [VB]
   cases hv with
   | agg _ vs h1 h2=>
   exact .agg _ _ (by rw [h1];exact hs.len) fun j hj=>VR.sub (hs.get j (by rw [hs.len];exact hj) hj) (h2 j (by rw [hs.len];exact hj))
  ·cases hd
 | pt t=>
  simp only [DC] at hd
  split at hd
  ·exact lN hd hv
  ·cases hd
 | c1 g t=>
  simp only [DC] at hd
  split at hd
  ·rename_i g' cs
   cases hg:Nat.beq g' g
   case false=>rw [hg] at hd;cases hd
   rw [hg,cond_true] at hd
   have:=Nat.eq_of_beq_eq_true hg
   subst this
   exact fn1 (fun _=>lN hd) hv
  ·cases hd
 | p1 g t=>
  simp only [DC] at hd
  split at hd
  ·rename_i g' cs
   cases hg:Nat.beq g' g
   case false=>rw [hg] at hd;cases hd
   rw [hg,cond_true] at hd
   have:=Nat.eq_of_beq_eq_true hg
   subst this
   exact fp1 (fun _=>fn1 fun _=>lN hd) hv
  ·cases hd
 | c2 g h t=>
  simp only [DC] at hd
  split at hd
  ·rename_i g' h' cs ds
   cases X8:Nat.beq g' g&&Nat.beq h' h
   case false=>rw [X8] at hd;cases hd
   rw [X8,cond_true] at hd
   rw [Bool.and_eq_true] at X8
   have:=Nat.eq_of_beq_eq_true X8.1
   have h2:=Nat.eq_of_beq_eq_true X8.2
   subst this h2
   obtain ⟨a,ha,hd⟩:=Option.bind_eq_some_iff.1 hd
   obtain ⟨b,hb,hd⟩:=Option.bind_eq_some_iff.1 hd
   cases hd
   exact fn2 (fun _=>fp1 fun _=>fn1 fun _=>lN ha) (fun _=>lN hb) hv
  ·cases hd
omit [fA] in
theorem ZN (t:TN) (x:El t):ZB (.fp (enc t x) 0):=fun S=> .fp _ _ fun j hj=>by
 have:=CI S t x j
 rw [List.getD_eq_getElem?_getD,List.getElem?_eq_getElem hj] at this;exact this
omit [fA] in
theorem zbw {g:Nat} {c:V} (h:ZB c):ZB (.fn g [c]):=fun S=> .fn _ _ fun j hj=>by
 have:j=0:=by simp at hj;omega
 subst this;exact h S
omit [fA] in
theorem zru {g:Nat} {c d:V} (h:ZB c) (h':ZB d):ZB (.fn g [c,d]):=fun S=> .fn _ _ fun j hj=>by
 match j,hj with
 | 0,_=>exact h S
 | 1,_=>exact h' S
omit [fA] in
theorem zfA {c:V} (h:ZB c):ZB (.fp [c] 0):=fun S=> .fp _ _ fun j hj=>by
 have:j=0:=by simp at hj;omega
 subst this;exact h S
omit [fA] in
theorem zrt (ty:Ty) (v:V) (x:ty.T) (hd:DC ty v=some x) (hv:ZB v):ZB (VB ty x):=by
 cases ty with
 | v t=>
  intro S
  simp only [VB,PG]
  cases DW:t.isAgg
  ·simp only [cond_false]
   split
   ·rename_i c r he
    have:=CI S t x 0
    rw [he] at this;exact this
   ·exact .undef
  ·refine .agg _ fun j hj=>?_
   have:=CI S t x j
   rw [List.getD_eq_getElem?_getD,List.getElem?_eq_getElem hj] at this;exact this
 | sl t=>exact yI _ _
 | raw=>simp only [DC,Option.some.injEq] at hd;subst hd;exact hv
 | cells t=>
  intro S
  simp only [VB]
  refine .agg _ fun j hj=>?_
  have:=CI S t x j
  rw [List.getD_eq_getElem?_getD,List.getElem?_eq_getElem hj] at this;exact this
 | pt t=>exact ZN t x
 | c1 g t=>exact zbw (ZN t x)
 | p1 g t=>exact zfA (zbw (ZN t x))
 | c2 g h t=>exact zru (zfA (zbw (ZN t x.1))) (ZN t x.2)
structure Ex1 (w0:World) (outer own:Nat→Prop) (w:World) (tv:Nat→Value) (c:DB) (id:Nat) (ρ:Nat→Option RI) (g:Nat→Option nA) (st1:St) (x:c.T) (st2:St) (ρ':Nat→Option RI) (g':Nat→Option nA):Prop where
 slots:st2.s=st1.s
 heap:aB w0 outer own ρ' g' w
 lies:GE st2.h g'
 less:∀ q,st1.h q=none→st2.h q=none
 left:∀ n,YB n st1.h st2.h
 out:∀ q,Out id 128 q→ρ' q=ρ q∧(st1.h q=none→g' q=g q)
 ext:∀ q qi,ρ q=some qi→ρ' q=some qi
 keep:∀ u d,VR w ρ (mA outer ρ g) u d→VR w ρ' (mA outer ρ' g') u d
 ok:CG w ρ' (mA outer ρ' g') g' tv st1.s c id x
 gone:∀ s t ow r,c= .box s t ow→st1.s s= .bp r 0→st2.h r=none∧Out id 128 r
theorem zeJ {tv:Nat→Value} (c:DB) (id:Nat) (st1:St) (k:c.T→St→Option R) {r:R} {g:Nat→Option nA} (he:zK c st1 k=some r) (hh:aB w0 outer own ρ g w) (hl:GE st1.h g)
  (hv:∀ s,VR w ρ (mA outer ρ g) (tv s) (st1.s s)) (hρ:∀ q,q<128→ρ (id+q)=none) (hn:∀ q,q<128→st1.h (id+q)=none):
  ∃ x st2 ρ' g',k x st2=some r∧Ex1 w0 outer own w tv c id ρ g st1 x st2 ρ' g':=by
 have VW:∀ q row,st1.h q=some row→Out id 128 q:=fun q row hq h3=>by
  have:=hn (q - id) (by omega)
  rw [show id+(q - id)=q by omega,hq] at this;cases this
 have h0:ρ id=none:=hρ 0 (by omega)
 have d4:st1.h id=none:=hn 0 (by omega)
 cases c with
 | drop s=>exact ⟨(),st1,ρ,g,he,rfl,hh,hl,fun _ h=>h,fun n=>YB.refl n _,fun q _=>⟨rfl,fun _=>rfl⟩,fun _ _ h=>h,fun _ _ h=>h,trivial,fun s t ow r h=>by cases h⟩
 | slot s ty=>
  simp only [zK] at he
  split at he
  case h_2=>cases he
  rename_i v ids I0
  obtain ⟨x,hx,he⟩:=Option.bind_eq_some_iff.1 he
  obtain ⟨k1,k2⟩:=zeX hl I0
  have k2:∀ r ∈ ids,∃ row,st1.h r=some row:=k2
  obtain ⟨m1,m2⟩:=hh.mark ids
  obtain ⟨f1,f2⟩:=za9 hh (hv s) k1
  have m4:∀ r,st1.h r=none→r ∉ ids:=fun r hn hm=>by obtain ⟨row,h5⟩:=k2 r hm;rw [hn] at h5;cases h5
  exact ⟨x,_,ρ,IB g ids,he,rfl,m1,zbk hl ids,fun q hq=>by show IB st1.h ids q=none;rw [ID,if_neg (m4 q hq)];exact hq,fun n=>vJ _ (lR I0),
   fun q _=>⟨rfl,fun hq=>by rw [ID,if_neg (m4 q hq)]⟩,fun _ _ h=>h,m2,⟨zek ty v x hx f1,zrt ty v x hx f2⟩,fun s t ow r h=>by cases h⟩
 | own s t=>
  simp only [zK] at he
  split at he
  case h_2=>cases he
  rename_i l ro aX
  have htk0:=aX
  have cY:=hv s
  -- a row that has moved
  have moved:∀ (q:Nat) (m:HE) (l0:List (El t)) (ri':RI),ro=some q→st1.h q=some ⟨.arr t l0, .own⟩→aB w0 outer own (uA ρ id (some ri')) (uA (uA g q none) id (some ⟨.arr t l, .own⟩)) w→
    (∀ u d,VR w ρ (mA outer ρ g) u d→VR w (uA ρ id (some ri')) (mA outer (uA ρ id (some ri')) (uA (uA g q none) id (some ⟨.arr t l, .own⟩))) u d)→
    VR w (uA ρ id (some ri')) (mA outer (uA ρ id (some ri')) (uA (uA g q none) id (some ⟨.arr t l, .own⟩))) (tv s) (.ow id)→
    ∃ x st2 ρ' g',k x st2=some r∧Ex1 w0 outer own w tv (.own s t) id ρ g st1 x st2 ρ' g':=by
   rintro q m l0 ri' rfl hq n1 n2 n3
   have hqo:=VW q _ hq
   refine ⟨l,_,_,_,he,rfl,n1,fun p row hp=>?_,fun p hp=>?_,fun n=>zfc htk0,fun p hp=>⟨vA _ _ _ _ ?_,fun N6=>?_⟩,fun p pi hp=>?_,n2,⟨n3,IA _ _ _⟩,fun s t ow r h=>by cases h⟩
   ·have hp:uA st1.h q none p=some row:=hp
    by_cases eY:p=q
    ·subst eY;rw [IA] at hp;cases hp
    ·rw [vA _ _ _ _ eY] at hp
     rw [vA _ _ _ _ (by rintro rfl;rw [d4] at hp;cases hp),vA _ _ _ _ eY];exact hl _ _ hp
   ·show uA st1.h q none p=none
    by_cases eY:p=q
    ·subst eY;exact IA _ _ _
    ·rw [vA _ _ _ _ eY];exact hp
   ·rintro rfl;exact hp ⟨Nat.le_refl _,by omega⟩
   ·rw [vA _ _ _ _ (by rintro rfl;exact hp ⟨Nat.le_refl _,by omega⟩),vA]
    rintro rfl;rw [hq] at N6;cases N6
   ·rw [vA];exact hp
    rintro rfl;rw [h0] at hp;cases hp
  unfold FM at aX
  split at aX
  ·rename_i nW
   simp only [Option.some.injEq,Prod.mk.injEq] at aX
   obtain ⟨rfl,rfl⟩:=aX
   rw [nW] at cY
   have hvn:tv s= .slice none 0 0:=by generalize tv s=x at cY;cases cY;rfl
   obtain ⟨n1,n2⟩:=hh.empty t h0
   refine ⟨[],_,_,_,he,rfl,n1,fun p row hp=>?_,fun p hp=>hp,fun n=>YB.refl n _,fun p hp=>⟨vA _ _ _ _ ?_,fun N6=>vA _ _ _ _ ?_⟩,fun p pi hp=>?_,n2,⟨?_,IA _ _ _⟩,fun s t ow r h=>by cases h⟩
   ·have hp:st1.h p=some row:=hp
    rw [vA _ _ _ _ (by rintro rfl;rw [d4] at hp;cases hp)];exact hl _ _ hp
   ·rintro rfl;exact hp ⟨Nat.le_refl _,by omega⟩
   ·rintro rfl;exact hp ⟨Nat.le_refl _,by omega⟩
   ·rw [vA];exact hp
    rintro rfl;rw [h0] at hp;cases hp
   ·rw [hvn];exact .owN _ ⟨0,0,0,true⟩ none (IA _ _ _) rfl rfl
  ·rename_i q nW
   split at aX
   case h_2=>cases aX
   rename_i t' l1 LV
   split at aX
   case isFalse=>cases aX
   rename_i e1
   subst e1
   simp only [hI,Option.some.injEq,Prod.mk.injEq] at aX
   obtain ⟨rfl,rfl⟩:=aX
   rw [nW] at cY
   obtain ⟨ri,hρq,_⟩:=hh.rows q _ (hl _ _ LV)
   obtain ⟨n1,n2⟩:=hh.rename (hl _ _ LV) hρq h0
   refine moved q .own l1 ri rfl LV n1 n2 ?_
   rcases cY.ow_inv hρq with ⟨e1,e2,e3,e4⟩ | ⟨ao,e1,e2,e3⟩
   ·rw [e1];exact .ow _ ri (IA _ _ _) e3 e4 e2
   ·rw [e1];exact .owN _ ri ao (IA _ _ _) e3 e2
  ·rename_i q t0 len nW
   split at aX
   case h_2=>cases aX
   rename_i t' l1 LV
   split at aX
   case isFalse=>cases aX
   rename_i e1
   subst e1
   simp only [hI,Option.some.injEq,Prod.mk.injEq] at aX
   obtain ⟨rfl,rfl⟩:=aX
   rw [nW] at cY
   obtain ⟨ri,hρq,dW,_⟩:=hh.rows q _ (hl _ _ LV)
   have dZ:ri.n=l1.length:=dW.1
   obtain ⟨ao,cap,h1,h2,h3,h4,h5⟩:=cY.ov_inv hρq
   rcases h3 with ⟨rfl,rfl⟩ | ⟨rfl,mW,hc⟩
   ·-- nothing of it
    obtain ⟨k1,k2⟩:=hh.less (SN g q)
    obtain ⟨n1,n2⟩:=k1.empty t' h0
    rw [List.take_zero] at he moved
    refine moved q .own l1 ⟨0,0,0,true⟩ rfl LV n1 (fun u d hu=>n2 _ _ (k2 _ _ hu)) ?_
    rw [h1];exact .owN _ ⟨0,0,0,true⟩ ao (IA _ _ _) rfl rfl
   ·rw [Nat.zero_mul] at h1
    rcases dW.2 with h6 | ⟨_,ce,c1,c2,c3,c4⟩
    ·rw [mW] at h6;cases h6.1
    obtain ⟨n1,n2⟩:=hh.move (hl _ _ LV) hρq mW h0 (ri':=⟨ri.b,len,cap,false⟩) rfl rfl w (Wx.refl _) rfl (fun _ _=>rfl) (.arr t' (l1.take len)) fun bad NV=>by
     refine ⟨by simp;omega, .inr ⟨rfl,ce,h4,h5,fun j hj=>c3 j ?_,fun i hi j hj=>?_⟩⟩
     ·have:cap *sz t'≤ri.cap *sz t':=Nat.mul_le_mul_right _ (by omega)
      have hj:j<cap *sz t':=hj
      omega
     ·obtain ⟨u,f1,f2⟩:=c4 i (by simp at hi;omega) j hj
      refine ⟨u,f1,?_⟩
      rw [List.getElem_take];exact NV _ _ f2
    refine moved q .own l1 _ rfl LV n1 n2 ?_
    rw [h1];exact .ow _ ⟨ri.b,len,cap,false⟩ (IA _ _ _) h4 h5 rfl
  ·cases aX
 | box s t ow=>
  simp only [zK] at he
  split at he
  case h_2=>cases he
  rename_i q nW
  split at he
  case h_2=>cases he
  rename_i cs LV
  split at he
  case h_2=>cases he
  rename_i cs' h' O3
  obtain ⟨x,hx,he⟩:=Option.bind_eq_some_iff.1 he
  have hs:=CD t hx
  have hqo:=VW q _ LV
  have M7:=hl _ _ LV
  obtain ⟨ri,hρq,dW,_⟩:=hh.rows q _ M7
  have QV:cs.length≤128:=by
   have h1:=DM _ _ _ _ _ O3
   have h2:=hs.len
   rw [aC] at h2
   have:=UU t
   simp only at h1
   omega
  have kW:∀ p,st1.h p=none→uA st1.h q none p=none:=fun p hp=>by
   by_cases eY:p=q
   ·subst eY;exact IA _ _ _
   ·rw [vA _ _ _ _ eY];exact hp
  obtain ⟨ρ1,g1,T,D3⟩:=yP ow id 128 cs 0 (uA st1.h q none) h' cs' (enc t x) ρ g (fun j=>(w.cell? (xA ri.b j)).getD undef) O3 hs (by omega) hh
   (fun j hj=>by obtain ⟨_,y,f1,f2⟩:=dW.2 j hj;rw [f1];exact f2)
   (fun p row hp=>by
    by_cases eY:p=q
    ·subst eY;rw [IA] at hp;cases hp
    ·rw [vA _ _ _ _ eY] at hp;exact hl _ _ hp)
   (fun p hp=>kW _ (hn p hp)) (fun p _ hp=>hρ p hp)
  have hg1q:g1 q=some ⟨.box cs, .own⟩:=by rw [(T.out q hqo).2 (IA _ _ _)];exact M7
  have hρ1:ρ1 q=some ri:=T.ext _ _ hρq
  obtain ⟨n1,n2⟩:=T.heap.reread hg1q (es:=JA ow id 0 (enc t x)) (by rw [ND];exact D3) (fun ri' h3 j hj=>by rw [hρ1] at h3;cases h3;exact T.vals j hj)
  have Y8:h' q=none:=T.less q (IA _ _ _)
  refine ⟨x,_,_,_,he,rfl,n1,fun p row hp=>?_,fun p hp=>T.less p (kW p hp),fun n=>(FH (YB.refl n _) _ none (.inr ⟨_,LV,rfl⟩)).trans (UH (fun r=>r<n) _ _ _ _ _ O3),fun p hp=>⟨(T.out p hp).1,fun N6=>?_⟩,T.ext,fun u d hu=>n2 _ _ (T.keep _ _ hu),
   ⟨q,nW,IA _ _ _,fun p hp=>?_⟩,fun s' t' ow' r' h1 h2=>?_⟩
  ·have hp:h' p=some row:=hp
   rw [vA _ _ _ _ (by rintro rfl;rw [Y8] at hp;cases hp)];exact T.lies _ _ hp
  ·rw [vA _ _ _ _ (by rintro rfl;rw [LV] at N6;cases N6),(T.out p hp).2 (kW p N6)]
  ·rw [vA _ _ _ _ (by rintro rfl;exact hqo ⟨by omega,by omega⟩)];exact T.new p (by omega) hp
  ·cases h1;rw [nW] at h2;cases h2;exact ⟨Y8,hqo⟩
def pH (w:World) (ρ:Nat→Option RI) (bad:Nat→Prop) (g:Nat→Option nA) (tv:Nat→Value) (sl:Nat→V):(cs:List DB)→Nat→oC cs→Prop
 | [],_,_=>True
 | [c],id,x=>CG w ρ bad g tv sl c id x
 | c :: d :: r,id,x=>CG w ρ bad g tv sl c id x.1∧pH w ρ bad g tv sl (d :: r) (id+128) x.2
theorem CG.later {tv:Nat→Value} {sl:Nat→V} {c:DB} {id:Nat} {x:c.T} {ρ ρ':Nat→Option RI} {bad bad':Nat→Prop} {g g':Nat→Option nA} (h:CG w ρ bad g tv sl c id x)
  (hk:∀ u d,VR w ρ bad u d→VR w ρ' bad' u d) (hg:∀ q,q<128→g' (id+q)=g (id+q)) (hb:∀ s t ow r,c= .box s t ow→sl s= .bp r 0→g' r=g r):CG w ρ' bad' g' tv sl c id x:=by
 cases c with
 | drop s=>trivial
 | slot s ty=>exact ⟨hk _ _ h.1,h.2⟩
 | own s t=>exact ⟨hk _ _ h.1,by rw [show id=id+0 from rfl,hg 0 (by omega)];exact h.2⟩
 | box s t ow=>
  obtain ⟨r,h1,h2,h3⟩:=h
  exact ⟨r,h1,by rw [hb s t ow r rfl h1];exact h2,fun q hq=>by rw [hg q hq];exact h3 q hq⟩
structure ExA (w0:World) (outer own:Nat→Prop) (w:World) (tv:Nat→Value) (cs:List DB) (id:Nat) (ρ:Nat→Option RI) (g:Nat→Option nA) (st1:St) (x:oC cs) (hn:Nat→Option nA) (ρ':Nat→Option RI) (g':Nat→Option nA):Prop where
 heap:aB w0 outer own ρ' g' w
 lies:GE hn g'
 left:∀ n,YB n st1.h hn
 out:∀ q,q<id→ρ' q=ρ q∧(st1.h q=none→g' q=g q)
 fresh:∀ q,id+128 *cs.length≤q→ρ' q=none
 ext:∀ q qi,ρ q=some qi→ρ' q=some qi
 keep:∀ u d,VR w ρ (mA outer ρ g) u d→VR w ρ' (mA outer ρ' g') u d
 ok:pH w ρ' (mA outer ρ' g') g' tv st1.s cs id x
theorem zeK {tv:Nat→Value}:∀ (cs:List DB) (id:Nat) (st1:St) (k:oC cs→Option R) (r:R) (ρ:Nat→Option RI) (g:Nat→Option nA),sE cs st1 k=some r→aB w0 outer own ρ g w→GE st1.h g→
  (∀ s,VR w ρ (mA outer ρ g) (tv s) (st1.s s))→(∀ q,id≤q→ρ q=none)→(∀ q,id≤q→st1.h q=none)→∃ x hn ρ' g',k x=some r∧ExA w0 outer own w tv cs id ρ g st1 x hn ρ' g'
 | [],id,st1,k,r,ρ,g,he,hh,hl,hv,hρ,hn=>⟨(),st1.h,ρ,g,he,hh,hl,fun n=>YB.refl n _,fun q _=>⟨rfl,fun _=>rfl⟩,fun q hq=>hρ q (by simpa using hq),fun _ _ h=>h,fun _ _ h=>h,trivial⟩
 | [c],id,st1,k,r,ρ,g,he,hh,hl,hv,hρ,hn=>by
  simp only [sE] at he
  obtain ⟨x,st2,ρ',g',h1,E⟩:=zeJ c id st1 _ he hh hl hv (fun q hq=>hρ _ (by omega)) (fun q hq=>hn _ (by omega))
  refine ⟨x,st2.h,ρ',g',h1,E.heap,E.lies,E.left,fun q hq=>E.out q (fun h=>by omega),fun q hq=>?_,E.ext,E.keep,E.ok⟩
  simp at hq
  rw [(E.out q (fun h=>by omega)).1];exact hρ q (by omega)
 | c :: d :: cs,id,st1,k,r,ρ,g,he,hh,hl,hv,hρ,hn=>by
  simp only [sE] at he
  obtain ⟨x,st2,ρ1,g1,h1,E⟩:=zeJ c id st1 _ he hh hl hv (fun q hq=>hρ _ (by omega)) (fun q hq=>hn _ (by omega))
  obtain ⟨y,hn',ρ',g',h2,F⟩:=zeK (d :: cs) (id+128) st2 _ r ρ1 g1 h1 E.heap E.lies (fun s=>by rw [E.slots];exact E.keep _ _ (hv s))
   (fun q hq=>by rw [(E.out q (fun h=>by omega)).1];exact hρ q (by omega)) (fun q hq=>E.less q (hn q (by omega)))
  refine ⟨(x,y),hn',ρ',g',h2,F.heap,F.lies,fun n=>(E.left n).trans (F.left n),fun q hq=>?_,fun q hq=>?_,fun q qi hq=>F.ext _ _ (E.ext _ _ hq),fun u d hu=>F.keep _ _ (E.keep _ _ hu),?_,by rw [← E.slots];exact F.ok⟩
  ·have ho:Out id 128 q:=fun h=>by omega
   exact ⟨((F.out q (by omega)).1).trans (E.out q ho).1,fun hq0=>((F.out q (by omega)).2 (E.less q hq0)).trans ((E.out q ho).2 hq0)⟩
  ·exact F.fresh q (by simp at hq ⊢;omega)
  ·refine E.ok.later F.keep (fun q hq=>(F.out (id+q) (by omega)).2 (E.less _ (hn _ (by omega)))) fun s t ow r h3 h4=>?_
   obtain ⟨h5,h6⟩:=E.gone s t ow r h3 h4
   have hrlt:r<id:=by
    rcases Nat.lt_or_ge r id with h7 | h7
    ·exact h7
    ·obtain ⟨ri,h8,_⟩:=(show VR w ρ (mA outer ρ g) (tv s) (.bp r 0) by rw [← h4];exact hv s).bp_inv
     rw [hρ r h7] at h8;cases h8
   exact (F.out r (by omega)).2 h5
theorem zbd {tv:Nat→Value} {sl:Nat→V} {ρ2:Nat→Option RI} {bad2:Nat→Prop} {g2:Nat→Option nA}:∀ (cs:List DB) (M id:Nat) (x:oC cs) (h:Nat→Option nA) (q:Nat) (row:nA),
  pH w ρ2 bad2 g2 tv sl cs M x→sJ sl cs id x h q=some row→
  h q=some row∨(id≤q∧q<id+128 *cs.length∧(∃ t l,row=⟨.arr t l, .own⟩)∧g2 (M+(q - id))=some row)∨
   (∃ o ow es s,row=⟨.box (JA ow (id+o) 0 es), .own⟩∧g2 q=some ⟨.box (JA ow (M+o) 0 es), .own⟩∧o+128≤128 *cs.length∧(∀ j (hj:j<es.length),ZB es[j])∧es.length≤128∧sl s= .bp q 0):=by
 have one:∀ (c:DB) (M id:Nat) (x:c.T) (h:Nat→Option nA) (q:Nat) (row:nA),CG w ρ2 bad2 g2 tv sl c M x→UG sl c id x h q=some row→
   h q=some row∨(id≤q∧q<id+128∧(∃ t l,row=⟨.arr t l, .own⟩)∧g2 (M+(q - id))=some row)∨
   (∃ ow es s,row=⟨.box (JA ow id 0 es), .own⟩∧g2 q=some ⟨.box (JA ow M 0 es), .own⟩∧(∀ j (hj:j<es.length),ZB es[j])∧es.length≤128∧sl s= .bp q 0):=by
  intro c M id x h q row hc hi
  cases c with
  | drop s=>exact .inl hi
  | slot s ty=>exact .inl hi
  | own s t=>
   simp only [UG] at hi
   by_cases hq:q=id
   ·subst hq;rw [IA] at hi;cases hi
    exact .inr (.inl ⟨Nat.le_refl _,by omega,⟨_,_,rfl⟩,by rw [Nat.sub_self];exact hc.2⟩)
   ·rw [vA _ _ _ _ hq] at hi;exact .inl hi
  | box s t ow=>
   obtain ⟨r,h1,h2,h3⟩:=hc
   simp only [UG,h1] at hi
   by_cases hq:q=r
   ·subst hq;rw [IA] at hi;cases hi
    refine .inr (.inr ⟨ow,enc t x,s,rfl,h2,fun j hj=>?_,by rw [aC];exact UU t,h1⟩)
    intro S
    have:=CI S t x j
    rw [List.getD_eq_getElem?_getD,List.getElem?_eq_getElem hj] at this;exact this
   ·rw [vA _ _ _ _ hq,FB] at hi
    split at hi
    ·rename_i y hy
     cases hi
     obtain ⟨t',l,e1,e2,e3⟩:=UC _ _ _ _ _ _ hy
     have eW:=UU t
     rw [aC] at e3
     refine .inr (.inl ⟨by omega,by omega,⟨t',l,e1⟩,?_⟩)
     rw [h3 (q - id) (by omega),zP ow M id,show id+(q - id)=q by omega];exact hy
    ·exact .inl hi
 intro cs
 induction cs with
 | nil=>intro M id x h q row _ hi;exact .inl hi
 | cons c cs ih=>
  intro M id x h q row hc hi
  cases cs with
  | nil=>
   rcases one c M id x h q row hc hi with h1 | ⟨h1,h2,h3⟩ | ⟨ow,es,s,h1,h2,h3⟩
   ·exact .inl h1
   ·exact .inr (.inl ⟨h1,by simp only [List.length_cons,List.length_nil];omega,h3⟩)
   ·exact .inr (.inr ⟨0,ow,es,s,h1,h2,by simp only [List.length_cons];omega,h3⟩)
  | cons d r=>
   simp only [sJ] at hi
   rcases one c M id x.1 _ q row hc.1 hi with h1 | ⟨h1,h2,h3⟩ | ⟨ow,es,s,h1,h2,h3⟩
   ·rcases ih (M+128) (id+128) x.2 h q row hc.2 h1 with h4 | ⟨h4,h5,h6,h7⟩ | ⟨o,ow,es,s,h4,h5,h6,h7⟩
    ·exact .inl h4
    ·refine .inr (.inl ⟨by omega,by simp at h5 ⊢;omega,h6,?_⟩)
     rw [show M+(q - id)=M+128+(q - (id+128)) by omega];exact h7
    ·refine .inr (.inr ⟨o+128,ow,es,s,?_,?_,by simp at h6 ⊢;omega,h7⟩)
     ·rw [show id+(o+128)=id+128+o by omega];exact h4
     ·rw [show M+(o+128)=M+128+o by omega];exact h5
   ·exact .inr (.inl ⟨h1,by simp only [List.length_cons];omega,h3⟩)
   ·exact .inr (.inr ⟨0,ow,es,s,h1,h2,by simp only [List.length_cons];omega,h3⟩)
theorem zqF {tv:Nat→Value} {sl:Nat→V} {ρ2:Nat→Option RI} {bad2:Nat→Prop} {g2:Nat→Option nA} (f:Nat→V) (s:Nat):∀ (cs:List DB) (M id:Nat) (x:oC cs),
  pH w ρ2 bad2 g2 tv sl cs M x→(HC cs s=false∧vE cs id x f s=f s)∨(VR w ρ2 bad2 (tv s) (vE cs id x f s)∧ZB (vE cs id x f s))∨
   (∃ o,vE cs id x f s= .ow (id+o)∧VR w ρ2 bad2 (tv s) (.ow (M+o))∧o<128 *cs.length):=by
 have one:∀ (c:DB) (M id:Nat) (x:c.T) (f:Nat→V),CG w ρ2 bad2 g2 tv sl c M x→((∀ r,HC (c :: r) s=HC r s)∧LF c id x f s=f s)∨(VR w ρ2 bad2 (tv s) (LF c id x f s)∧ZB (LF c id x f s))∨
   (LF c id x f s= .ow id∧VR w ρ2 bad2 (tv s) (.ow M)):=by
  intro c M id x f hc
  cases c with
  | slot s' ty=>
   by_cases hs:s=s'
   ·subst hs;simp only [LF,IA];exact .inr (.inl hc)
   ·simp only [LF];rw [vA _ _ _ _ hs]
    refine .inl ⟨fun r=>?_,rfl⟩
    have:Nat.beq s' s=false:=by
     cases hb:Nat.beq s' s with
     | false=>rfl
     | true=>exact absurd (Nat.eq_of_beq_eq_true hb).symm hs
    simp [HC,this]
  | own s' t=>
   by_cases hs:s=s'
   ·subst hs;exact .inr (.inr ⟨IA _ _ _,hc.1⟩)
   ·simp only [LF];rw [vA _ _ _ _ hs]
    refine .inl ⟨fun r=>?_,rfl⟩
    have:Nat.beq s' s=false:=by
     cases hb:Nat.beq s' s with
     | false=>rfl
     | true=>exact absurd (Nat.eq_of_beq_eq_true hb).symm hs
    simp [HC,this]
  | box s' t ow=>exact .inl ⟨fun r=>rfl,rfl⟩
  | drop s'=>exact .inl ⟨fun r=>rfl,rfl⟩
 intro cs
 induction cs with
 | nil=>intro M id x _;exact .inl ⟨rfl,rfl⟩
 | cons c cs ih=>
  intro M id x hc
  cases cs with
  | nil=>
   rcases one c M id x f hc with ⟨h1,h2⟩ | h | ⟨h1,h2⟩
   ·exact .inl ⟨by rw [h1];rfl,h2⟩
   ·exact .inr (.inl h)
   ·exact .inr (.inr ⟨0,h1,h2,by simp only [List.length_cons];omega⟩)
  | cons d r=>
   simp only [vE]
   rcases one c M id x.1 (vE (d :: r) (id+128) x.2 f) hc.1 with ⟨h1,h2⟩ | h | ⟨h1,h2⟩
   ·rw [h2]
    rcases ih (M+128) (id+128) x.2 hc.2 with ⟨h3,h4⟩ | h3 | ⟨o,h3,h4,h5⟩
    ·exact .inl ⟨by rw [h1];exact h3,h4⟩
    ·exact .inr (.inl h3)
    ·exact .inr (.inr ⟨o+128,by rw [h3];congr 1;omega,by rw [show M+(o+128)=M+128+o by omega];exact h4,by simp only [List.length_cons] at h5 ⊢;omega⟩)
   ·exact .inr (.inl h)
   ·exact .inr (.inr ⟨0,h1,h2,by simp only [List.length_cons];omega⟩)
theorem pH.slots {tv:Nat→Value} {sl sl':Nat→V} {ρ2:Nat→Option RI} {bad2:Nat→Prop} {g2:Nat→Option nA}:∀ (cs:List DB) (M:Nat) (x:oC cs),
  (∀ s t ow,DB.box s t ow ∈ cs→sl' s=sl s)→pH w ρ2 bad2 g2 tv sl cs M x→pH w ρ2 bad2 g2 tv sl' cs M x:=by
 have one:∀ (c:DB) (M:Nat) (x:c.T),(∀ s t ow,c=DB.box s t ow→sl' s=sl s)→CG w ρ2 bad2 g2 tv sl c M x→CG w ρ2 bad2 g2 tv sl' c M x:=by
  intro c M x hs hc
  cases c with
  | drop s=>trivial
  | slot s ty=>exact hc
  | own s t=>exact hc
  | box s t ow=>obtain ⟨r,h1,h2⟩:=hc;exact ⟨r,by rw [hs s t ow rfl];exact h1,h2⟩
 intro cs
 induction cs with
 | nil=>intro M x _ _;trivial
 | cons c cs ih=>
  intro M x hs hc
  cases cs with
  | nil=>exact one c M x (fun s t ow h=>hs s t ow (by simp [h])) hc
  | cons d r=>exact ⟨one c M x.1 (fun s t ow h=>hs s t ow (by simp [h])) hc.1,ih (M+128) x.2 (fun s t ow h=>hs s t ow (List.mem_cons_of_mem _ h)) hc.2⟩
omit [fA] in
theorem ze6 (sl:Nat→V):∀ (cs:List DB) (id:Nat) (x:oC cs) (h:Nat→Option nA) (q:Nat) (row:nA),h q=some row→∃ row',sJ sl cs id x h q=some row':=by
 have up:∀ (h:Nat→Option nA) (i:Nat) (y:nA) (q:Nat),(∃ row,h q=some row)→∃ row',uA h i (some y) q=some row':=by
  intro h i y q hq
  by_cases hi:q=i
  ·subst hi;exact ⟨y,IA _ _ _⟩
  ·rw [vA _ _ _ _ hi];exact hq
 have one:∀ (c:DB) (id:Nat) (x:c.T) (h:Nat→Option nA) (q:Nat),(∃ row,h q=some row)→∃ row',UG sl c id x h q=some row':=by
  intro c id x h q hq
  cases c with
  | drop s'=>exact hq
  | slot s' ty=>exact hq
  | own s' t=>exact up _ _ _ _ hq
  | box s' t ow=>
   simp only [UG]
   generalize sl s'=v
   cases v with
   | bp r off=>
    cases off with
    | zero=>
     refine up _ _ _ _ ?_
     rw [FB]
     cases UA ow id (fun _=>none) 0 (enc t x) q with
     | some y=>exact ⟨_,rfl⟩
     | none=>exact hq
    | succ n=>exact hq
   | _=>exact hq
 intro cs
 induction cs with
 | nil=>intro id x h q row hq;exact ⟨row,hq⟩
 | cons c cs ih=>
  intro id x h q row hq
  cases cs with
  | nil=>exact one c id x h q ⟨row,hq⟩
  | cons d r=>exact one c id x.1 _ q (ih (id+128) x.2 h q row hq)
theorem zbe {j:JI} {b:St} {ρ':Nat→Option RI} {a':Act} {w':World} {k:oC j.cs→Option R} {r:R} (hb:RA C w0 outer own ρ b a w) (D1:∀ q,b.nx≤q→ρ q=none)
  (hr:RA C w0 outer own ρ' st' a' w') (hf:∀ q,st'.nx≤q→ρ' q=none) (hnx:b.nx≤st'.nx) (hext:∀ q qi,ρ q=some qi→ρ' q=some qi)
  (M3:∀ s,j.has s=false→st'.s s=b.s s) (qY:YB b.nx (cC j b).h st'.h) (HX:mK j=true) (he:sE j.cs st' k=some r):
  ∃ x,k x=some r∧∃ ρ'',RA C w0 outer own ρ'' (install j b x) a' w'∧(∀ q,(install j b x).nx≤q→ρ'' q=none)∧(∀ q qi,ρ q=some qi→ρ'' q=some qi)∧YB b.nx b.h (install j b x).h:=by
 have hbn:∀ q row,b.h q=some row→ρ q≠none∧q<b.nx:=fun q row hq=>by
  obtain ⟨ri,h1,_⟩:=hb.heap.rows q row hq
  refine ⟨by rw [h1];simp,?_⟩
  rcases Nat.lt_or_ge q b.nx with h | h
  ·exact h
  ·rw [D1 q h] at h1;cases h1
 have hhn:∀ q,st'.nx≤q→st'.h q=none:=fun q hq=>by
  cases hg:st'.h q with
  | none=>rfl
  | some row=>obtain ⟨ri,h3,_⟩:=hr.heap.rows _ _ hg;rw [hf q hq] at h3;cases h3
 obtain ⟨x,hn,ρ2,g2,hx,E⟩:=zeK (tv:=fun s=>a'.tmps.getD s undef) j.cs st'.nx st' k r ρ' st'.h he hr.heap (fun _ _ h=>h) hr.slots hf hhn
 let M:=st'.nx
 let L:=128 *j.cs.length
 let ρ'':Nat→Option RI:=fun q=>if q<b.nx then ρ q else if q<b.nx+L then ρ2 (M+(q - b.nx)) else none
 let φ:Nat→Nat:=fun q=>if q<b.nx then q else M+(q - b.nx)
 have hρ2:∀ q qi,ρ q=some qi→ρ2 q=some qi:=fun q qi hq=>E.ext _ _ (hext _ _ hq)
 have RV:∀ q,ρ q≠none→q<b.nx:=fun q hq=>by
  rcases Nat.lt_or_ge q b.nx with h | h
  ·exact h
  ·exact absurd (D1 q h) hq
 have hρlow:∀ q,q<b.nx→ρ'' q=ρ q:=fun q hq=>by simp only [ρ'',hq,if_true]
 have X4:∀ q qi,ρ q=some qi→ρ'' q=some qi:=fun q qi hq=>by rw [hρlow q (RV q (by rw [hq];simp))];exact hq
 have hρhi:∀ o,o<L→ρ'' (b.nx+o)=ρ2 (M+o):=fun o ho=>by
  have h1:¬ (b.nx+o<b.nx):=by omega
  have h2:b.nx+o<b.nx+L:=by omega
  simp only [ρ'',h1,h2,if_false,if_true];congr 1;omega
 have hφlow:∀ q,q<b.nx→φ q=q:=fun q hq=>by simp only [φ,hq,if_true]
 have hφhi:∀ q,b.nx≤q→φ q=M+(q - b.nx):=fun q hq=>by
  have:¬ q<b.nx:=by omega
  simp only [φ,this,if_false]
 have n4:pH w' ρ2 (mA outer ρ2 g2) g2 (fun s=>a'.tmps.getD s undef) b.s j.cs M x:=by
  refine pH.slots j.cs M x (fun s t ow hm=>?_) E.ok
  have:=List.all_eq_true.1 HX _ hm
  simp only [Bool.not_eq_true'] at this
  exact (M3 s this).symm
 -- the rows that stayed
 have cW:∀ q row,wF j b q=some row→∃ row0,b.h q=some row0∧row0.c=row.c∧∃ row2,g2 q=some row2∧row2.c=row.c∧(row.m.isRo=false→row2.m.isRo=false):=fun q row hq=>by
  unfold wF at hq
  split at hq
  ·rename_i c hc
   cases hi:DH j.cs b q
   ·simp only [hi,cond_false,Option.some.injEq] at hq
    subst hq
    have h1:(cC j b).h q=some ⟨c, .lock⟩:=by simp [cC,hc,hi]
    exact ⟨_,hc,rfl,_,E.lies _ _ (E.left (q+1) q _ (by omega) (qY q _ (hbn q _ hc).2 h1 rfl) rfl),rfl,fun _=>rfl⟩
   ·simp [hi] at hq
  ·rename_i ZX
   obtain ⟨c,m⟩:=row
   have hm:m.isOwn=false:=by
    cases m with
    | own=>exact absurd hq (ZX c)
    | ro=>rfl
    | lock=>rfl
   have MY:b.h q=some ⟨c,m⟩:=hq
   have h1:(cC j b).h q=some ⟨c,m⟩:=by
    simp only [cC,MY]
    cases m with
    | own=>cases hm
    | ro=>rfl
    | lock=>rfl
   exact ⟨_,hq,rfl,_,E.lies _ _ (E.left (q+1) q _ (by omega) (qY q _ (hbn q _ hq).2 h1 hm) hm),rfl,fun h=>h⟩
 have LV:∀ q row,(install j b x).h q=some row→∃ row2,g2 (φ q)=some row2∧(row.m.isRo=false→row2.m.isRo=false)∧ρ'' q=ρ2 (φ q):=fun q row hq=>by
  rcases zbd j.cs M b.nx x (wF j b) q row n4 hq with h1 | ⟨h1,h2,_,h4⟩ | ⟨o,ow,es,s,h1,h2,h3,h4,h5,h6⟩
  ·obtain ⟨row0,k1,_,row2,k2,_,k3⟩:=cW q row h1
   have TZ:=(hbn q _ k1).2
   obtain ⟨ri,e1,_⟩:=hb.heap.rows q _ k1
   exact ⟨row2,by rw [hφlow q TZ];exact k2,k3,by rw [hφlow q TZ,hρlow q TZ,e1,hρ2 q ri e1]⟩
  ·refine ⟨row,by rw [hφhi q h1];exact h4,fun h=>h,?_⟩
   have:=hρhi (q - b.nx) (by omega)
   rw [show b.nx+(q - b.nx)=q by omega] at this
   rw [this,hφhi q h1]
  ·have P6:=hb.slots s
   rw [h6] at P6
   obtain ⟨ri,e1,_⟩:=P6.bp_inv
   have TZ:=RV q (by rw [e1];simp)
   exact ⟨_,by rw [hφlow q TZ];exact h2,fun _=>rfl,by rw [hφlow q TZ,hρlow q TZ,e1,hρ2 q ri e1]⟩
 have rW:∀ c,mA outer ρ'' (install j b x).h c→mA outer ρ2 g2 c:=by
  rintro c (hc | ⟨q,row,ri,f1,f2,f3,f4,f5⟩)
  ·exact .inl hc
  ·obtain ⟨row2,k1,k2,k3⟩:=LV q row f1
   rw [k3] at f3
   exact .inr ⟨_,row2,ri,k1,k2 f2,f3,f4,f5⟩
 -- what is said ahead holds behind
 have keepB:∀ u d,VR w' ρ2 (mA outer ρ2 g2) u d→lB (fun q=>ρ q≠none) d→VR w' ρ'' (mA outer ρ'' (install j b x).h) u d:=fun u d hu hS=>
  hu.keep hS (fun q qi hq h2=>by
   cases h3:ρ q with
   | none=>exact absurd h3 hq
   | some ri=>rw [hρ2 q ri h3] at h2;cases h2;exact X4 q _ h3) (fun _ _ _=>rfl) fun c hc=> .inl (rW c hc)
 have hH:aB w0 outer own ρ'' (install j b x).h w':=by
  refine E.heap.sub φ E.heap.wx E.heap.old E.heap.outLt (fun q row hq=>?_) (fun q q' row row' h1 h2 h3=>?_)
  ·obtain ⟨row2,k1,k2,k3⟩:=LV q row hq
   obtain ⟨ri,e1,e2,e3⟩:=E.heap.rows _ _ k1
   refine ⟨row2,ri,k1,by rw [k3];exact e1,e1,?_,fun hn=>⟨(e3 hn).1.1,fun hm=>(e3 hn).1.2 (k2 hm)⟩⟩
   rcases zbd j.cs M b.nx x (wF j b) q row n4 hq with h1 | ⟨h1,h2,⟨t,l,h3⟩,h4⟩ | ⟨o,ow,es,s,h1,h2,h3,h4,h5,h6⟩
   ·obtain ⟨row0,f1,f2,row2',f3,f4,_⟩:=cW q row h1
    have TZ:=(hbn q _ f1).2
    rw [hφlow q TZ,f3] at k1;cases k1
    rw [f4] at e2
    obtain ⟨rc,rm⟩:=row
    cases rc with
    | arr t l=>exact yS e2 rW ρ''
    | box cs=>
     obtain ⟨ri0,g1,g3,_⟩:=hb.heap.rows q _ f1
     rw [f2] at g3
     refine ⟨e2.1,fun i hi=>?_⟩
     obtain ⟨x1,y,x2,x3⟩:=e2.2 i hi
     obtain ⟨_,y0,_,y3⟩:=g3.2 i hi
     exact ⟨x1,y,x2,keepB _ _ x3 y3.refs⟩
   ·subst h3
    rw [hφhi q h1,h4] at k1;cases k1
    exact yS e2 rW ρ''
   ·have P6:=hb.slots s
    rw [h6] at P6
    obtain ⟨ri',e4,_⟩:=P6.bp_inv
    have TZ:=RV q (by rw [e4];simp)
    rw [hφlow q TZ,h2] at k1;cases k1
    subst h1
    refine ⟨e2.1,fun i hi=>?_⟩
    rw [ND] at hi
    obtain ⟨x1,y,x2,x3⟩:=e2.2 i (by rw [ND];exact hi)
    refine ⟨x1,y,x2,?_⟩
    have:=AP (w:=w') (ρ:=ρ2) (ρ2:=ρ'') (bad:=mA outer ρ2 g2) (bad2:=mA outer ρ'' (install j b x).h) ow (M+o) (b.nx+o) es 0 (fun i=>(w'.cell? (xA ri.b i)).getD undef) (fun p _ hp _ _=>by
      rw [Nat.add_assoc,Nat.add_assoc];exact hρhi (o+p) (by omega)) h4 rW (fun i hi=>by
      obtain ⟨_,y,x2,x3⟩:=e2.2 i hi
      rw [x2];exact x3) i (by rw [ND];exact hi)
    rw [x2] at this;exact this
  ·have cls:∀ q row,(install j b x).h q=some row→φ q=q∧q<b.nx∨b.nx≤q∧φ q=M+(q - b.nx):=fun q row _=>by
    rcases Nat.lt_or_ge q b.nx with h | h
    ·exact .inl ⟨hφlow q h,h⟩
    ·exact .inr ⟨h,hφhi q h⟩
   rcases cls q row h1 with ⟨c1,c2⟩ | ⟨c1,c2⟩ <;> rcases cls q' row' h2 with ⟨c3,c4⟩ | ⟨c3,c4⟩ <;> omega
 refine ⟨x,hx,ρ'',⟨hH,fun s=>?_,hr.size,hr.defers,hr.glob⟩,fun q hq=>?_,X4,fun q row V9 hq hm=>?_⟩
 ·show VR w' ρ'' _ _ (vE j.cs b.nx x (fun i=>bif rJ j.kill i then .undef else b.s i) s)
  rcases zqF (fun i=>bif rJ j.kill i then .undef else b.s i) s j.cs M b.nx x n4 with ⟨h1,h2⟩ | ⟨h1,h2⟩ | ⟨o,h1,h2,h3⟩
  ·rw [h2]
   cases hk:rJ j.kill s
   ·simp only [cond_false]
    have hhas:j.has s=false:=by simp [JI.has,hk,h1]
    have hv:=E.keep _ _ (hr.slots s)
    rw [M3 s hhas] at hv
    exact keepB _ _ hv (hb.slots s).refs
   ·simp only [cond_true];exact .undef _
  ·exact (h1.noRef h2 ρ'').mono (fun _ _ h=>h) (fun _ _ _=>rfl) fun c hc=> .inl (rW c hc)
  ·rw [h1]
   have hq:=hρhi o h3
   have h2:VR w' ρ2 (mA outer ρ2 g2) (a'.tmps.getD s undef) (.ow (M+o)):=h2
   generalize a'.tmps.getD s undef=T at h2 ⊢
   cases h2 with
   | ow _ ri e1 e2 e3 e4=>exact .ow _ ri (by rw [hq];exact e1) e2 e3 e4
   | owN _ ri ao e1 e2 e3=>exact .owN _ ri ao (by rw [hq];exact e1) e2 e3
 ·have h1:¬ q<b.nx:=by simp only [install] at hq;omega
  have h2:¬ q<b.nx+L:=by simp only [install] at hq;omega
  simp only [ρ'',h1,h2,if_false]
 ·have h1:(cC j b).h q=some row:=by
   simp only [cC,hq]
   obtain ⟨c,m⟩:=row
   cases m with
   | own=>cases hm
   | ro=>rfl
   | lock=>rfl
  have h2:wF j b q=some row:=by
   simp only [wF,hq]
   obtain ⟨c,m⟩:=row
   cases m with
   | own=>cases hm
   | ro=>rfl
   | lock=>rfl
  have h3:g2 q=some row:=E.lies _ _ (E.left (q+1) q _ (by omega) (qY q _ V9 h1 hm) hm)
  obtain ⟨row',h4⟩:=ze6 b.s j.cs b.nx x _ q row h2
  show sJ b.s j.cs b.nx x (wF j b) q=some row
  rcases zbd j.cs M b.nx x (wF j b) q row' n4 h4 with h5 | ⟨h5,_⟩ | ⟨o,ow,es,s,h5,h6,_⟩
  ·rw [h2] at h5;cases h5;exact h4
  ·omega
  ·rw [h3] at h6;cases h6;cases hm
end
end Go.D
namespace Go.D
variable [fA]
section
variable {C:Cx} {w0:World} {outer own:Nat→Prop} {ρ:Nat→Option RI} {st st' b:St} {a:Act} {w:World} {R:Type} {j:JI}
omit [fA] in
theorem zqY (j:JI) (st:St):xD (cC j st).h st.h:=fun r row' hr=>by
 simp only [cC] at hr
 split at hr
 ·rename_i c hc
  cases hi:DH j.cs st r
  ·simp only [hi,cond_false,Option.some.injEq] at hr;subst hr;exact ⟨_,hc,rfl,fun _=>rfl⟩
  ·simp only [hi,cond_true,Option.some.injEq] at hr;subst hr;exact ⟨_,hc,rfl,fun _=>rfl⟩
 ·exact ⟨row',hr,rfl,id⟩
omit [fA] in
theorem zvf (b st:St):xD (unlock b st).h st.h:=fun r row' hr=>by
 simp only [unlock] at hr
 split at hr
 ·rename_i c hc
  split at hr
  ·cases hr;exact ⟨_,hc,rfl,fun _=>rfl⟩
  ·cases hr;exact ⟨_,hc,rfl,fun _=>rfl⟩
 ·exact ⟨row',hr,rfl,id⟩
theorem RA.lock (hr:RA C w0 outer own ρ st a w) (j:JI):RA C w0 outer own ρ (cC j st) a w:=by
 obtain ⟨h1,h2⟩:=hr.heap.less (zqY j st)
 exact ⟨h1,fun i=>h2 _ _ (hr.slots i),hr.size,hr.defers,hr.glob⟩
theorem RA.unlock (hr:RA C w0 outer own ρ st a w) (b:St):RA C w0 outer own ρ (Go.D.unlock b st) a w:=by
 obtain ⟨h1,h2⟩:=hr.heap.less (zvf b st)
 exact ⟨h1,fun i=>h2 _ _ (hr.slots i),hr.size,hr.defers,hr.glob⟩
omit [fA] in
theorem zqK {n:Nat} (hk:YB n (cC j b).h st'.h):YB n b.h (unlock b st').h:=fun r row hn hr hm=>by
 have h1:(cC j b).h r=some row:=by
  simp only [cC,hr]
  obtain ⟨c,m⟩:=row
  cases m with
  | own=>cases hm
  | ro=>rfl
  | lock=>rfl
 have h2:=hk r row hn h1 hm
 simp only [unlock,h2,hr]
 obtain ⟨c,m⟩:=row
 cases m with
 | own=>cases hm
 | ro=>rfl
 | lock=>rfl
omit [fA] in
theorem zqD (f:Nat→V) (s:Nat):∀ (cs:List DB) (id:Nat) (x:oC cs),HC cs s=false→vE cs id x f s=f s:=by
 have one:∀ (c:DB) (r:List DB) (id:Nat) (x:c.T) (f:Nat→V),HC (c :: r) s=false→HC r s=false∧LF c id x f s=f s:=by
  intro c r id x f h
  cases c with
  | slot s' ty=>
   simp only [HC,Bool.or_eq_false_iff] at h
   refine ⟨h.2,vA _ _ _ _ ?_⟩
   rintro rfl;simp at h
  | own s' t=>
   simp only [HC,Bool.or_eq_false_iff] at h
   refine ⟨h.2,vA _ _ _ _ ?_⟩
   rintro rfl;simp at h
  | box s' t ow=>exact ⟨h,rfl⟩
  | drop s'=>exact ⟨h,rfl⟩
 intro cs
 induction cs with
 | nil=>intro id x _;rfl
 | cons c cs ih=>
  intro id x h
  cases cs with
  | nil=>exact (one c [] id x f h).2
  | cons d r=>
   obtain ⟨h1,h2⟩:=one c (d :: r) id x.1 (vE (d :: r) (id+128) x.2 f) h
   simp only [vE];rw [h2];exact ih (id+128) x.2 h1
omit [fA] in
theorem NN (j:JI) (b:St) (x:oC j.cs) (s:Nat) (h:j.has s=false):(install j b x).s s=b.s s:=by
 simp only [JI.has,Bool.or_eq_false_iff] at h
 show vE j.cs b.nx x _ s=_
 rw [zqD _ _ _ _ _ h.2,h.1];rfl
end
end Go.D
namespace Go.D
variable [fA]
structure xB (C:Cx) (w0:World) (outer own:Nat→Prop) (D:Nat→Prop) (st:St) (ρ:Nat→Option RI) (st':St) (a':Act) (w':World) (ρ':Nat→Option RI):Prop where
 rel:RA C w0 outer own ρ' st' a' w'
 ext:∀ q qi,ρ q=some qi→ρ' q=some qi
 slots:∀ s,¬ D s→st'.s s=st.s s
 keeps:YB st.nx st.h st'.h
 nx:st.nx≤st'.nx
 fresh:∀ q,st'.nx≤q→ρ' q=none
section
variable {C:Cx} {w0:World} {outer own D:Nat→Prop} {R:Type}
theorem zvh {w:World} {ρ:Nat→Option RI} {bad:Nat→Prop} {v:Value} (h:VR w ρ bad v (.tup [])):v=undef:=by
 cases h with
 | tup _ vs hs hv=>
  have:vs= #[]:=by simpa using hs
  subst this;rfl
omit [fA] in
theorem zvv {ops:Array Oper} {tmps:Array Value} {j dj:Nat} (h:(ops[j]?).bind (·.dst)=some dj) (RV:dj<tmps.size):
  yielded ops tmps j=match tmps.getD dj undef with | .bool b=>some b | _=>none:=by
 unfold yielded
 rw [h]
 simp only [Option.bind_some,Array.getElem?_eq_getElem RV,Array.getD_eq_getD_getElem?,Option.getD_some]
 split <;> split <;> simp_all
omit [fA] in
theorem zpA (ops:Array Oper) {k:Nat} (hk:k<ops.size):QD k (ops.toList.drop k)=(k,ops[k]) :: QD (k+1) (ops.toList.drop (k+1)):=by
 rw [List.drop_eq_getElem_cons (by simpa using hk)];rfl
omit [fA] in
theorem zvg (f:Nat→V) (i:Nat) (v:V) (h:f i=v):uA f i v=f:=by
 funext q
 by_cases hq:q=i
 ·subst hq;rw [IA,h]
 ·rw [vA _ _ _ _ hq]
theorem zbH (hC:yD C) (hΦ:RD C) {ops:Array Oper} {Q:Exit→Act→World→Prop} {K:St→Option R} {r:R} (nx:Nat) (hD:∀ o ∈ ops,∀ d,o.dst=some d→D d):∀ (m k:Nat) (st:St) (a:Act) (w:World) (ρ:Nat→Option RI),
  k+m=ops.size→RA C w0 outer own ρ st a w→(∀ q,nx+128 *k≤q→ρ q=none)→sG C ops nx (QD k (ops.toList.drop k)) st K=some r→
  (∀ st' a' w' ρ',RA C w0 outer own ρ' st' a' w'→(∀ q,nx+128 *ops.size≤q→ρ' q=none)→(∀ q qi,ρ q=some qi→ρ' q=some qi)→(∀ s,¬ D s→st'.s s=st.s s)→YB nx st.h st'.h→st'.nx=st.nx→
   K st'=some r→Q .normal a' w')→wpOps C.P ops Q (List.range' k m) a w
 | 0,k,st,a,w,ρ,hk,hr,hf,KV,OV=>by
  have:ops.toList.drop k=[]:=List.drop_eq_nil_of_le (by simp;omega)
  rw [this] at KV
  exact OV st a w ρ hr (fun q hq=>hf q (by omega)) (fun _ _ h=>h) (fun _ _=>rfl) (YB.refl _ _) rfl KV
 | m+1,k,st,a,w,ρ,hk,hr,hf,KV,OV=>by
  have RV:k<ops.size:=by omega
  have ho:ops[k]?=some ops[k]:=Array.getElem?_eq_getElem RV
  rw [zpA ops RV] at KV
  rw [List.range'_succ]
  simp only [wpOps,ho]
  have hDk:∀ d,(ops[k]).dst=some d→D d:=hD _ (Array.getElem_mem RV)
  -- a step
  have step:∀ (st0:St),RA C w0 outer own ρ st0 a w→st0.h=st.h→st0.nx=st.nx→(∀ s,¬ D s→st0.s s=st.s s)→(bB C (nx+128 *k) ops[k] st0 fun st'=>sG C ops nx (QD (k+1) (ops.toList.drop (k+1))) st' K)=some r→
    (ops[k]).wp C.P a w (wpOps C.P ops Q (List.range' (k+1) m)) Q:=by
   intro st0 hr0 hh0 hnx0 EY KV
   rw [CM] at KV
   obtain ⟨st1,h1,h2⟩:=Option.bind_eq_some_iff.1 KV
   have L:=zgP (n:=nx) (i:=nx+128 *k) (by omega) ops[k] st1 h1
   refine zgR hr0 hC hΦ ⟨_,hf⟩ (fun q _=>hf _ (by omega)) h1 _ Q fun a1 w1 hA=>?_
   obtain ⟨ρ1,MV,hE,hx⟩:=hA
   refine zbH hC hΦ nx hD m (k+1) st1 a1 w1 ρ1 (by omega) MV (fun q hq=>by rw [hE q (by omega)];exact hf q (by omega)) h2 fun st' a' w' ρ' p1 p2 p3 p4 p5 p6 p7=>?_
   refine OV st' a' w' ρ' p1 p2 (fun q qi hq=>p3 _ _ (hx q qi hq)) (fun s hs=>?_) ?_ (p6.trans (L.nx.trans hnx0)) p7
   ·rw [p4 s hs,L.slots s (fun e=>hs (hDk s e)),EY s hs]
   ·rw [← hh0];exact L.rows.trans p5
  have skip:(MA C (ops[k]).dst st (.tup []) fun st'=>sG C ops nx (QD (k+1) (ops.toList.drop (k+1))) st' K)=some r→wpOps C.P ops Q (List.range' (k+1) m) (a.put (ops[k]).dst undef) w:=by
   intro KV
   rw [lL] at KV
   obtain ⟨st1,h1,h2⟩:=Option.bind_eq_some_iff.1 KV
   have L:=MP (π:=fun r=>r<nx) (V.tup []) st1 h1
   obtain ⟨p1,_,_⟩:=hr.put (v:=undef) (d:= .tup []) (.tup [] #[] rfl fun j hj=>by simp at hj) h1
   refine zbH hC hΦ nx hD m (k+1) st1 _ w ρ (by omega) p1 (fun q hq=>hf q (by omega)) h2 fun st' a' w' ρ' q1 q2 q3 q4 q5 q6 q7=>?_
   refine OV st' a' w' ρ' q1 q2 q3 (fun s hs=>?_) (L.rows.trans q5) (q6.trans L.nx) q7
   rw [q4 s hs,L.slots s (fun e=>hs (hDk s e))]
  simp only [sG] at KV
  split at KV
  ·rename_i hg
   rw [if_pos (by simp [Region.wanted,hg])]
   exact .inl (step st hr rfl rfl (fun _ _=>rfl) KV)
  ·rename_i j want hg
   split at KV
   ·cases KV
   rename_i dj T0
   have hDj:D dj:=by
    obtain ⟨oj,h1,h2⟩:=Option.bind_eq_some_iff.1 T0
    exact hD oj (Array.mem_of_getElem? h1) dj h2
   have hv:=hr.slots dj
   have hyn:∀ v,a.tmps.getD dj undef=v→(∀ b,v≠ .bool b)→yielded ops a.tmps j=none:=fun v hv hn=>by
    unfold yielded
    rw [T0]
    simp only [Option.bind_some]
    split
    ·rename_i b hb
     rw [Array.getD_eq_getD_getElem?,hb] at hv
     exact absurd hv.symm (hn b)
    ·rfl
   split at KV
   ·rename_i hs
    rw [hs] at hv
    have hy:=hyn _ (zvh hv) (fun b h=>by cases h)
    rw [if_neg (by simp [Region.wanted,hg,hy])]
    exact skip KV
   ·rename_i t hs
    rw [hs] at hv
    have hb:a.tmps.getD dj undef= .bool t:=by
     generalize a.tmps.getD dj undef=v at hv;cases hv;rfl
    have QZ:dj<a.tmps.size:=by
     rcases Nat.lt_or_ge dj a.tmps.size with h | h
     ·exact h
     ·rw [Array.getD_eq_getD_getElem?,Array.getElem?_eq_none h] at hb;cases hb
    have hy:yielded ops a.tmps j=some t:=by rw [zvv T0 QZ,hb]
    have zY:({ st with s:=uA st.s dj (.bool t) }:St)=st:=by rw [zvg _ _ _ hs]
    have hw:Region.wanted ops[k] (yielded ops a.tmps)=(t==want):=by
     simp only [Region.wanted,hg,hy];cases t <;> cases want <;> rfl
    rw [hw]
    have KV:(bif t==want then bB C (nx+128 *k) ops[k] { st with s:=uA st.s dj (.bool t) } fun st'=>sG C ops nx (QD (k+1) (ops.toList.drop (k+1))) st' K
      else MA C (ops[k]).dst { st with s:=uA st.s dj (.bool t) } (.tup []) fun st'=>sG C ops nx (QD (k+1) (ops.toList.drop (k+1))) st' K)=some r:=by
     cases t <;> exact KV
    rw [zY] at KV
    cases htw:t==want
    ·rw [htw] at KV;simp only [Bool.false_eq_true,if_false];exact skip KV
    ·rw [htw] at KV;simp only [if_true];exact .inl (step st hr rfl rfl (fun _ _=>rfl) KV)
   ·cases KV
end
end Go.D
namespace Go.D
variable [fA]
def JD (D:Nat→Prop):Option JI→Prop
 | none=>True
 | some j=>∀ s,j.has s=true→D s
def AF (an:An) (D:Nat→Prop):Code→Prop
 | .region id ops _=>(∀ o ∈ ops,∀ d,o.dst=some d→D d)∧JD D (SB id an.r)
 | .seq a b=>AF an D a∧AF an D b
 | .cond (.tmp t) a b=>AF an D a∧AF an D b∧JD D (SB (zaz t a b) an.c)
 | .cond _ a b=>AF an D a∧AF an D b
 | .block id b=>AF an D b∧JD D (SB id an.b)
 | .loop b=>AF an D b∧match yH b with
  | some rid=>JD D (SB rid an.l)
  | none=>True
 | .scope b=>AF an D b
 | _=>True
omit [fA] in
theorem PN:∀ (cs:List DB) (s:Nat),HC cs s=true→∃ c ∈ cs,(∃ ty,c= .slot s ty)∨∃ t,c= .own s t
 | [],s,h=>by simp [HC] at h
 | .slot s' ty :: r,s,h=>by
  simp only [HC,Bool.or_eq_true] at h
  rcases h with h | h
  ·have:=Nat.eq_of_beq_eq_true h;subst this;exact ⟨_,by simp, .inl ⟨ty,rfl⟩⟩
  ·obtain ⟨c,h1,h2⟩:=PN r s h;exact ⟨c,by simp [h1],h2⟩
 | .own s' t :: r,s,h=>by
  simp only [HC,Bool.or_eq_true] at h
  rcases h with h | h
  ·have:=Nat.eq_of_beq_eq_true h;subst this;exact ⟨_,by simp, .inr ⟨t,rfl⟩⟩
  ·obtain ⟨c,h1,h2⟩:=PN r s h;exact ⟨c,by simp [h1],h2⟩
 | .drop s' :: r,s,h=>by
  obtain ⟨c,h1,h2⟩:=PN r s h;exact ⟨c,by simp [h1],h2⟩
 | .box s' t ow :: r,s,h=>by
  obtain ⟨c,h1,h2⟩:=PN r s h;exact ⟨c,by simp [h1],h2⟩
omit [fA] in
theorem gR (j:JI) (o:Option JI) (h:fits j o=true):JD (fun s=>j.has s=true) o:=by
 cases o with
 | none=>trivial
 | some i=>
  simp only [fits,Bool.and_eq_true,List.all_eq_true] at h
  intro s hs
  simp only [JI.has,Bool.or_eq_true] at hs
  rcases hs with hs | hs
  ·obtain ⟨p,hp,hps⟩:=List.any_eq_true.1 hs
   simp only [Bool.and_eq_true,Nat.ble_eq] at hps
   have h1:=h.1 p hp
   simp only [zgT,Bool.or_eq_true,Bool.and_eq_true] at h1
   rcases h1 with h1 | ⟨h1,h2⟩
   ·obtain ⟨q,hq,P6⟩:=List.any_eq_true.1 h1
    simp only [Bool.and_eq_true,Nat.ble_eq] at P6
    have:rJ j.kill s=true:=List.any_eq_true.2 ⟨q,hq,by simp only [Bool.and_eq_true,Nat.ble_eq];omega⟩
    simp [JI.has,this]
   ·have:=Nat.eq_of_beq_eq_true h1
    have hsp:s=p.1:=by omega
    subst hsp;simp [JI.has,h2]
  ·obtain ⟨c,h1,h2⟩:=PN _ _ hs
   have h3:=h.2 c h1
   rcases h2 with ⟨ty,rfl⟩ | ⟨t,rfl⟩ <;> exact h3
omit [fA] in
theorem bF (an:An) (j:JI):∀ (c:Code),Code.within an j c=true→AF an (fun s=>j.has s=true) c
 | .region id ops d,h=>by
  simp only [Code.within,Bool.and_eq_true,List.all_eq_true] at h
  refine ⟨fun o ho d hd=>?_,gR j _ h.2⟩
  have:=h.1 o (by simpa using ho)
  rw [hd] at this;exact this
 | .seq a b,h=>by
  simp only [Code.within,Bool.and_eq_true] at h
  exact ⟨bF an j a h.1,bF an j b h.2⟩
 | .cond c a b,h=>by
  cases c with
  | tmp t=>
   simp only [Code.within,Bool.and_eq_true] at h
   exact ⟨bF an j a h.1.1,bF an j b h.1.2,gR j _ h.2⟩
  | _=>
   simp only [Code.within,Bool.and_eq_true] at h
   exact ⟨bF an j a h.1,bF an j b h.2⟩
 | .block id b,h=>by
  simp only [Code.within,Bool.and_eq_true] at h
  exact ⟨bF an j b h.1,gR j _ h.2⟩
 | .loop b,h=>by
  simp only [Code.within,Bool.and_eq_true] at h
  refine ⟨bF an j b h.1,?_⟩
  have h2:=h.2
  split
  ·rename_i rid hr
   rw [hr] at h2;exact gR j _ h2
  ·trivial
 | .scope b,h=>bF an j b h
 | .skip,_=>trivial
 | .exit _,_=>trivial
 | .ret,_=>trivial
 | .label _,_=>trivial
 | .goto _,_=>trivial
 | .refuse _,_=>trivial
 | .rangeFunc _ _ _ _,_=>trivial
end Go.D

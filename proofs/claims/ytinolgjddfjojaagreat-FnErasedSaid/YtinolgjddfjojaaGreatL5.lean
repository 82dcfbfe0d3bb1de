/-
  The plain semantics of whole bodies: regions, branches that meet again, loops. What meets again meets by a tuple of plain data.
-/
import Derived.Test.YtinolgjddfjojaaGreatL4
namespace Go.D
noncomputable section
inductive Ty where
  | v (t:TN)
  | sl (t:TN)
  | raw
  | cells (t:TN)
    | pt (t:TN)
    | c1 (g:Nat) (t:TN)
  | p1 (g:Nat) (t:TN)
  | c2 (g h:Nat) (t:TN)
@[reducible] def Ty.T:Ty→Type
  | .v t=>El t
  | .sl t=>List (El t)
  | .raw=>V
  | .cells t=>El t
  | .pt t=>El t
  | .c1 _ t=>El t
  | .p1 _ t=>El t
  | .c2 _ _ t=>El t × El t
def encV (t:TN) (a:El t):V:=bif t.isAgg then .agg (enc t a) else match enc t a with
  | c :: _=>c
  | []=> .undef
def encTy:(t:Ty)→t.T→V
  | .v t,a=>encV t a
  | .sl t,l=> .sl t l
  | .raw,v=>v
  | .cells t,a=> .agg (enc t a)
  | .pt t,a=> .fp (enc t a) 0
  | .c1 g t,a=> .fn g [.fp (enc t a) 0]
  | .p1 g t,a=> .fp [.fn g [.fp (enc t a) 0]] 0
  | .c2 g h t,a=> .fn g [.fp [.fn h [.fp (enc t a.1) 0]] 0, .fp (enc t a.2) 0]
def decTy:(t:Ty)→V→Option t.T
  | .v t,v=>match v with
    | .agg cs=>bif t.isAgg then dec t cs else none
    | v=>bif t.isAgg then none else dec t [v]
  | .sl t,v=>asL t v
  | .raw,v=>some v
  | .cells t,v=>match v with
    | .agg cs=>dec t cs
    | _=>none
  | .pt t,v=>match v with
    | .fp cs 0=>dec t cs
    | _=>none
  | .c1 g t,v=>match v with
    | .fn g' [.fp cs 0]=>bif Nat.beq g' g then dec t cs else none
    | _=>none
  | .p1 g t,v=>match v with
    | .fp [.fn g' [.fp cs 0]] 0=>bif Nat.beq g' g then dec t cs else none
    | _=>none
  | .c2 g h t,v=>match v with
    | .fn g' [.fp [.fn h' [.fp cs 0]] 0, .fp ds 0]=>bif Nat.beq g' g&&Nat.beq h' h then Option.bind (dec t cs) fun x=>Option.bind (dec t ds) fun y=>some (x,y) else none
    | _=>none
inductive Comp where
  | slot (s:Nat) (ty:Ty)
  | own (s:Nat) (t:TN)
  | box (s:Nat) (t:TN) (own:List Nat)
@[reducible] def Comp.T:Comp→Type
  | .slot _ ty=>ty.T
  | .own _ t=>List (El t)
  | .box _ t _=>El t
@[reducible] def Tup:List Comp→Type
  | []=>Unit
  | [c]=>c.T
  | c :: d :: r=>c.T × Tup (d :: r)
@[reducible] def TyTup:List Ty→Type
  | []=>Unit
  | [c]=>c.T
  | c :: d :: r=>c.T × TyTup (d :: r)
def decTup:(ts:List Ty)→List V→Option (TyTup ts)
  | [],[]=>some ()
  | [t],[v]=>decTy t v
  | t :: d :: r,v :: vs=>Option.bind (decTy t v) fun x=>Option.bind (decTup (d :: r) vs) fun y=>some (x,y)
  | _,_=>none
def encTup:(ts:List Ty)→TyTup ts→List V
  | [],_=>[]
  | [t],x=>[encTy t x]
  | t :: d :: r,x=>encTy t x.1 :: encTup (d :: r) x.2
def flatTy:(t:Ty)→t.T→List V
  | .v t,a=>enc t a
  | .sl t,l=>[.sl t l]
  | .raw,v=>[v]
  | .cells t,a=>enc t a
  | .pt t,a=>[.fp (enc t a) 0]
  | .c1 g t,a=>[.fn g [.fp (enc t a) 0]]
  | .p1 g t,a=>[.fp [.fn g [.fp (enc t a) 0]] 0]
  | .c2 g h t,a=>[.fn g [.fp [.fn h [.fp (enc t a.1) 0]] 0, .fp (enc t a.2) 0]]
def flatTup:(ts:List Ty)→TyTup ts→List V
  | [],_=>[]
  | [t],x=>flatTy t x
  | t :: d :: r,x=>flatTy t x.1++flatTup (d :: r) x.2
def unflatTy:(t:Ty)→List V→Option (t.T × List V)
  | .v t,vs=>(dec t (vs.take (sz t))).bind fun a=>some (a,vs.drop (sz t))
  | .sl t,v :: vs=>(asL t v).bind fun l=>some (l,vs)
  | .sl _,[]=>none
  | .raw,v :: vs=>some (v,vs)
  | .raw,[]=>none
  | .cells t,vs=>(dec t (vs.take (sz t))).bind fun a=>some (a,vs.drop (sz t))
  | .pt _,_=>none
  | .c1 _ _,_=>none
  | .p1 _ _,_=>none
  | .c2 _ _ _,_=>none
def unflat:(ts:List Ty)→List V→Option (TyTup ts)
  | [],[]=>some ()
  | [t],vs=>(unflatTy t vs).bind fun x=>match x.2 with
    | []=>some x.1
    | _=>none
  | t :: d :: r,vs=>(unflatTy t vs).bind fun x=>(unflat (d :: r) x.2).bind fun y=>some (x.1,y)
  | [],_ :: _=>none
structure JI where
  cs:List Comp
  kill:List (Nat × Nat)
  pre:List Nat
structure An where
  c:List (Nat × JI)
  b:List (Nat × JI)
  l:List (Nat × JI)
  r:List (Nat × JI)
  d:List (Nat × List Nat)
inductive Ex where
  | normal
  | exit (id:Nat)
  | ret
def FU:Nat:=Classical.choose (⟨2^64,rfl⟩:∃ n:Nat,n=2^64)
theorem FU_eq:FU=2^64:=Classical.choose_spec (⟨2^64,rfl⟩:∃ n:Nat,n=2^64)
section
variable {R:Type}
def loopK {σ:Type}:Nat→(σ→(σ→Option R)→Option R)→σ→Option R
  | 0,_,_=>none
  | n+1,f,x=>f x (loopK n f)
def joinK {σ:Type} (k:σ→Option R) (b:(σ→Option R)→Option R):Option R:=b k
def look {α:Type} (k:Nat):List (Nat × α)→Option α
  | []=>none
  | (j,x) :: r=>bif Nat.beq j k then some x else look k r
def ex1:(c:Comp)→St→(c.T→St→Option R)→Option R
  | .slot s ty,st,k=>match frz st.h (st.s s) with
    | some (v,ids)=>Option.bind (decTy ty v) fun x=>k x { st with h:=markRo st.h ids }
    | none=>none
  | .own s t,st,k=>match takenOf st.h t (st.s s) with
    | some (l,r)=>k l { st with h:=killO st.h r }
    | none=>none
  | .box s t own,st,k=>match st.s s with
    | .bp r 0=>match st.h r with
      | some ⟨.box cs, .own⟩=>match takeLeaves own 0 cs (upd st.h r none) with
        | some (cs',h')=>Option.bind (dec t cs') fun x=>k x { st with h:=h' }
        | none=>none
      | _=>none
    | _=>none
def exK:(cs:List Comp)→St→(Tup cs→Option R)→Option R
  | [],_,k=>k ()
  | [c],st,k=>ex1 c st fun x _=>k x
  | c :: d :: r,st,k=>ex1 c st fun x st'=>exK (d :: r) st' fun y=>k (x,y)
def rowOf:V→Option Nat
  | .ow r=>some r
  | .ov r _ _ _=>some r
  | _=>none
def insS1:(c:Comp)→Nat→c.T→(Nat→V)→Nat→V
  | .slot s ty,_,x,f=>upd f s (encTy ty x)
  | .own s _,id,_,f=>upd f s (.ow id)
  | .box ..,_,_,f=>f
def insS:(cs:List Comp)→Nat→Tup cs→(Nat→V)→Nat→V
  | [],_,_,f=>f
  | [c],id,x,f=>insS1 c id x f
  | c :: d :: r,id,x,f=>insS1 c id x.1 (insS (d :: r) (id+128) x.2 f)
def insH1 (sl:Nat→V):(c:Comp)→Nat→c.T→(Nat→Option Row)→Nat→Option Row
  | .slot ..,_,_,h=>h
  | .own _ t,id,x,h=>upd h id (some ⟨.arr t x, .own⟩)
  | .box s t own,id,x,h=>match sl s with
    | .bp r 0=>upd (thawH own id h 0 (enc t x)) r (some ⟨.box (thawL own id 0 (enc t x)), .own⟩)
    | _=>h
def insH (sl:Nat→V):(cs:List Comp)→Nat→Tup cs→(Nat→Option Row)→Nat→Option Row
  | [],_,_,h=>h
  | [c],id,x,h=>insH1 sl c id x h
  | c :: d :: r,id,x,h=>insH1 sl c id x.1 (insH sl (d :: r) (id+128) x.2 h)
def inKill (kill:List (Nat × Nat)) (i:Nat):Bool:=kill.any fun p=>Nat.ble p.1 i&&Nat.ble i p.2
def isSlot:List Comp→Nat→Bool
  | [],_=>false
  | .slot s _ :: r,i=>Nat.beq s i||isSlot r i
  | .own s _ :: r,i=>Nat.beq s i||isSlot r i
  | .box .. :: r,i=>isSlot r i
def inRows1 (st:St) (r:Nat):Comp→Bool
  | .slot .. =>false
  | .own s _=>match rowOf (st.s s) with | some r'=>Nat.beq r r' | none=>false
  | .box s _ _=>match st.s s with
    | .bp b 0=>Nat.beq r b||match st.h b with
      | some ⟨.box cs,_⟩=>cs.any fun c=>match rowOf c with | some r'=>Nat.beq r r' | none=>false
      | _=>false
    | _=>false
def inRows (cs:List Comp) (st:St) (r:Nat):Bool:=cs.any (inRows1 st r)
def restH (j:JI) (base:St):Nat→Option Row:=fun r=>match base.h r with
  | some ⟨c, .own⟩=>bif inRows j.cs base r then none else some ⟨c, .own⟩
  | x=>x
def install (j:JI) (base:St) (x:Tup j.cs):St:=
  { s:=insS j.cs base.nx x fun i=>bif inKill j.kill i then .undef else base.s i
    h:=insH base.s j.cs base.nx x (restH j base)
    nx:=base.nx+128 *j.cs.length }
def lockBut (j:JI) (st:St):St:=
  { st with h:=fun r=>match st.h r with
      | some ⟨c, .own⟩=>bif inRows j.cs st r then some ⟨c, .own⟩ else some ⟨c, .lock⟩
      | x=>x }
def unlock (base st:St):St:=
  { st with h:=fun r=>match st.h r with
      | some ⟨c, .lock⟩=>match base.h r with
        | some ⟨_, .own⟩=>some ⟨c, .own⟩
        | _=>some ⟨c, .lock⟩
      | x=>x }
def preIds (st:St) (s:Nat):Option (List Nat):=
  bif Nat.ble 1000000 s then
    match st.s (s - 1000000) with
    | .bp r _=>match st.h r with
      | some ⟨.box cs,_⟩=>match frzList st.h cs with
        | some (_,ids)=>some ids
        | none=>none
      | _=>none
    | _=>none
  else match frz st.h (st.s s) with
    | some (_,ids)=>some ids
    | none=>none
def preRo (pre:List Nat) (st:St):Option St:=
  match pre with
  | []=>some st
  | s :: r=>match preIds st s with
    | some ids=>preRo r { st with h:=markRo st.h ids }
    | none=>none
def firstRegion:Code→Option Nat
  | .region id _ _=>some id
  | .seq a b=>match firstRegion a with
    | some i=>some i
    | none=>firstRegion b
  | .cond _ a _=>firstRegion a
  | .block _ b | .loop b | .scope b=>firstRegion b
  | _=>none
def condKey (t:Nat) (a b:Code):Nat:=t *65536+match firstRegion a with
  | some i=>i+1
  | none=>match firstRegion b with
    | some i=>i+1
    | none=>0
def JI.has (j:JI) (i:Nat):Bool:=inKill j.kill i||isSlot j.cs i
def subKill (kill:List (Nat × Nat)) (j:JI) (p:Nat × Nat):Bool:=kill.any (fun q=>Nat.ble q.1 p.1&&Nat.ble p.2 q.2)||(Nat.beq p.1 p.2&&isSlot j.cs p.1)
def compOk (j:JI):Comp→Bool
  | .slot s _=>j.has s
  | .own s _=>j.has s
  | .box .. =>true
def fits (j:JI):Option JI→Bool
  | none=>true
  | some i=>i.kill.all (subKill j.kill j)&&i.cs.all (compOk j)
def Code.within (an:An) (j:JI):Code→Bool
  | .region id ops _=>ops.toList.all (fun o=>match o.dst with | some d=>j.has d | none=>true)&&fits j (look id an.r)
  | .seq a b=>Code.within an j a&&Code.within an j b
  | .cond (.tmp t) a b=>Code.within an j a&&Code.within an j b&&fits j (look (condKey t a b) an.c)
  | .cond _ a b=>Code.within an j a&&Code.within an j b
  | .block id b=>Code.within an j b&&fits j (look id an.b)
  | .loop b=>Code.within an j b&&match firstRegion b with
    | some rid=>fits j (look rid an.l)
    | none=>true
  | .scope b=>Code.within an j b
  | _=>true
def boxSlots (j:JI):Bool:=j.cs.all fun c=>match c with
  | .box s _ _=>!(j.has s)
  | _=>true
def slotsNodup:List Comp→Bool
  | []=>true
  | .slot s _ :: r=>!(isSlot r s)&&slotsNodup r
  | .own s _ :: r=>!(isSlot r s)&&slotsNodup r
  | .box .. :: r=>slotsNodup r
def joinOk (an:An) (j:JI) (c:Code):Bool:=Code.within an j c&&boxSlots j&&slotsNodup j.cs
variable (C:Cx)
def runG (ops:Array Oper) (nx:Nat):List (Nat × Oper)→St→(St→Option R)→Option R
  | [],st,K=>K st
  | (i,o) :: rest,st,K=>
    match o.guard with
    | none=>stepK C (nx+128 *i) o st fun st'=>runG ops nx rest st' K
    | some (j,want)=>match (ops[j]?).bind (·.dst) with
      | none=>none
      | some dj=>match st.s dj with
        | .tup []=>putK C o.dst st (.tup []) fun st'=>runG ops nx rest st' K
        | .bool t=>
          let G:Bool→Option R:=fun b=>
            let st:= { st with s:=upd st.s dj (.bool b) }
            gd (b==want) (stepK C (nx+128 *i) o st fun st'=>runG ops nx rest st' K) (putK C o.dst st (.tup []) fun st'=>runG ops nx rest st' K)
          cond t (G true) (G false)
        | _=>none
def zipFrom {α:Type}:Nat→List α→List (Nat × α)
  | _,[]=>[]
  | i,x :: r=>(i,x) :: zipFrom (i+1) r
structure Rec where
  i:Nat
  dst:Option Nat
  ls:List Nat
  rd:List Nat
  wr:List Nat
def memN (r:Nat) (l:List Nat):Bool:=l.any (Nat.beq r)
def lockRow:Option Row→Option Row
  | some ⟨c, .own⟩=>some ⟨c, .lock⟩
  | x=>x
def cutH (rd wr:List Nat) (h:Nat→Option Row):Nat→Option Row:=fun r=>bif memN r wr then h r else bif memN r rd then lockRow (h r) else none
def cutS (ls:List Nat) (s:Nat→V):Nat→V:=fun t=>bif memN t ls then s t else .undef
def inFresh (b r:Nat):Bool:=Nat.ble b r&&Nat.blt r (b+128)
def layH (b:Nat) (wr:List Nat) (h h':Nat→Option Row):Nat→Option Row:=fun r=>bif memN r wr||inFresh b r then h' r else h r
def layS (dst:Option Nat) (s s':Nat→V):Nat→V:=match dst with
  | none=>s
  | some d=>upd s d (s' d)
def stepR (b:Nat) (o:Oper) (ls rd wr:List Nat) (st:St) (K:St→Option R):Option R:=
  stepK C b o { s:=cutS ls st.s,h:=cutH rd wr st.h,nx:=st.nx } fun st'=>K { s:=layS o.dst st.s st'.s,h:=layH b wr st.h st'.h,nx:=st.nx }
def nameLeaf:V→List Nat
  | .ow r=>[r]
  | .ov r _ _ _=>[r]
  | .bp r _=>[r]
  | .ep r _ _ _=>[r]
  | _=>[]
def names1:V→List Nat
  | .agg cs=>cs.flatMap nameLeaf
  | v=>nameLeaf v
def names2 (h:Nat→Option Row):V→List Nat
  | .bp r _=>r :: match h r with
    | some ⟨.box cs,_⟩=>cs.flatMap nameLeaf
    | _=>[]
  | v=>names1 v
def isRoAt (h:Nat→Option Row) (r:Nat):Bool:=match h r with
  | some ⟨_, .ro⟩=>true
  | _=>false
def splitRo (h:Nat→Option Row) (l:List Nat):List Nat × List Nat:=(l.filter (isRoAt h),l.filter fun r=>!isRoAt h r)
def foot (o:Oper) (st:St):List Nat × List Nat:=
  match o.op with
  | .load _ a=>(nameLeaf (opd st.s a),[])
  | .store _ a x=>match opd st.s a with
    | .ep r _ _ _=>let p:=splitRo st.h (names1 (opd st.s x));(p.1,r :: p.2)
    | v=>([],nameLeaf v)
  | .slice _ x _ _ _=>(nameLeaf (opd st.s x),[])
  | .indexAddr _ x _=>(nameLeaf (opd st.s x),[])
  | .convert _ _ x=>(nameLeaf (opd st.s x),[])
  | .buildSlice _ _ ps=>splitRo st.h (ps.toList.flatMap fun p=>names1 (opd st.s p.2))
  | .makeFunc _ _ cs=>splitRo st.h (cs.toList.flatMap fun x=>names2 st.h (opd st.s x))
  | .call { callee:= .builtin .append,args,argTypes:=_ }=>match args.toList with
    | [x,y]=>(nameLeaf (opd st.s y),nameLeaf (opd st.s x))
    | _=>([],[])
  | .call { callee:= .builtin _,args,argTypes:=_ }=>(args.toList.flatMap fun x=>nameLeaf (opd st.s x),[])
  | .call { callee:=_,args,argTypes:=_ }=>splitRo st.h (args.toList.flatMap fun x=>names2 st.h (opd st.s x))
  | _=>([],[])
def slotsOf (o:Oper):List Nat:=o.op.operands.toList.filterMap fun x=>match x with
  | .tmp t=>some t
  | _=>none
def dstIs (d:Option Nat) (l:List Nat):Bool:=match d with
  | some d=>memN d l
  | none=>false
def okPair (nx:Nat) (e1 e:Rec):Bool:=
  !(dstIs e1.dst e.ls)&&!(dstIs e.dst e1.ls)&&!(dstIs e1.dst e.dst.toList)&&
  e1.wr.all (fun r=>!(memN r e.rd)&&!(memN r e.wr))&&e.wr.all (fun r=>!(memN r e1.rd))&&
  e.rd.all (fun r=>!(inFresh (nx+128 *e1.i) r))&&e.wr.all (fun r=>!(inFresh (nx+128 *e1.i) r))&&
  e1.rd.all (fun r=>!(inFresh (nx+128 *e.i) r))&&e1.wr.all (fun r=>!(inFresh (nx+128 *e.i) r))
def okRecs (mask nx:Nat) (rs:List Rec) (e:Rec):Bool:=rs.all fun e1=>Nat.testBit mask e1.i||okPair nx e1 e
def maskOf (ms:List Nat) (es:List Edge):Nat:=es.foldl (fun s e=>bif Region.binds .any e then s|||(2^e.on|||ms.getD e.on 0) else s) 0
def masksGo:List Nat→List Oper→List Nat
  | ms,[]=>ms
  | ms,o :: r=>masksGo (ms++[maskOf ms o.after.toList]) r
def edgesOk (i:Nat) (o:Oper):Bool:=o.after.toList.all fun e=>!(Region.binds .any e)||Nat.blt e.on i
def runD1 (ops:Array Oper) (ms:List Nat) (nx:Nat):List (Nat × Oper)→List Rec→St→(St→Option R)→Option R
  | [],_,st,K=>K st
  | (i,o) :: rest,rs,st,K=>
    gd (edgesOk i o) (
    match o.guard with
    | none=>
      let f:=foot o st
      let e:Rec:=⟨i,o.dst,slotsOf o,f.1,f.2⟩
      gd (okRecs (ms.getD i 0) nx rs e) (stepR C (nx+128 *i) o e.ls e.rd e.wr st fun st'=>runD1 ops ms nx rest (e :: rs) st' K) none
    | some (j,want)=>match (ops[j]?).bind (·.dst) with
      | none=>none
      | some dj=>
        let skip:St→Option R:=fun st=>
          let e:Rec:=⟨i,o.dst,[dj],[],[]⟩
          gd (okRecs (ms.getD i 0) nx rs e) (putK C o.dst st (.tup []) fun st'=>runD1 ops ms nx rest (e :: rs) st' K) none
        match st.s dj with
        | .tup []=>skip st
        | .bool t=>
          let G:Bool→Option R:=fun b=>
            let st:= { st with s:=upd st.s dj (.bool b) }
            gd (b==want) (
              let f:=foot o st
              let e:Rec:=⟨i,o.dst,dj :: slotsOf o,f.1,f.2⟩
              gd (okRecs (ms.getD i 0) nx rs e) (stepR C (nx+128 *i) o e.ls e.rd e.wr st fun st'=>runD1 ops ms nx rest (e :: rs) st' K) none) (skip st)
          cond t (G true) (G false)
        | _=>none) none
def runD (pre:List Nat) (ops:Array Oper) (st:St) (K:St→Option R):Option R:=
  match preRo pre st with
  | none=>none
  | some st=>runD1 C ops (masksGo [] ops.toList) st.nx (zipFrom 0 ops.toList) [] st fun st'=>K { st' with nx:=st.nx+128 *ops.size }
def runR (pre:List Nat) (draw:Bool) (ops:Array Oper) (st:St) (K:St→Option R):Option R:=
  gd (draw) (runD C pre ops st K) (
  runG C ops st.nx (zipFrom 0 ops.toList) st fun st'=>K { st' with nx:=st.nx+128 *ops.size })
def runC (an:An):Code→St→(Ex→St→Option R)→Option R
  | .skip,st,K=>K .normal st
  | .region id ops d,st,K=>match look id an.r with
    | none=>runR C ((look id an.d).getD []) d ops st (K .normal)
    | some j=>match preRo j.pre st with
      | none=>none
      | some st=>gd (joinOk an j (.region id ops d)) (
          joinK (fun y:Tup j.cs=>K .normal (install j st y)) fun k=>runR C ((look id an.d).getD []) d ops (lockBut j st) fun st'=>exK j.cs st' k) none
  | .seq a b,st,K=>runC an a st fun e st'=>match e with
    | .normal=>runC an b st' K
    | e=>K e st'
  | .cond (.tmp t) a b,st,K=>match st.s t with
    | .bool x=>match look (condKey t a b) an.c with
      | none=>cond x (runC an a st K) (runC an b st K)
      | some j=>match preRo j.pre st with
        | none=>none
        | some st=>gd (joinOk an j a&&joinOk an j b) (
            joinK (fun y:Tup j.cs=>K .normal (install j st y)) fun k=>
              let K':Ex→St→Option R:=fun e st'=>match e with
                | .normal=>exK j.cs st' k
                | e=>K e (unlock st st')
              cond x (runC an a (lockBut j st) K') (runC an b (lockBut j st) K')) none
    | _=>none
  | .block id b,st,K=>match look id an.b with
    | none=>runC an b st fun e st'=>match e with
      | .exit id'=>gd (Nat.beq id' id) (K .normal st') (K e st')
      | e=>K e st'
    | some j=>match preRo j.pre st with
      | none=>none
      | some st=>gd (joinOk an j b) (
          joinK (fun y:Tup j.cs=>K .normal (install j st y)) fun k=>
            runC an b (lockBut j st) fun e st'=>match e with
              | .normal=>exK j.cs st' k
              | .exit id'=>gd (Nat.beq id' id) (exK j.cs st' k) (K e (unlock st st'))
              | e=>K e (unlock st st')) none
  | .loop b,st,K=>match firstRegion b with
    | none=>none
    | some rid=>match look rid an.l with
      | none=>none
      | some j=>match preRo j.pre st with
        | none=>none
        | some st=>gd (joinOk an j b) (
            exK j.cs (lockBut j st) fun x0=>loopK FU (fun (x:Tup j.cs) (k:Tup j.cs→Option R)=>
              runC an b (lockBut j (install j st x)) fun e st'=>match e with
                | .normal=>exK j.cs st' k
                | e=>K e (unlock (install j st x) st')) x0) none
  | .exit id,st,K=>K (.exit id) st
  | .ret,st,K=>K .ret st
  | _,_,_=>none
def resLeaves (P:Program) (st:St):List ResultVar→List (Bool × Nat)→Option (List V)
  | [],[]=>some []
  | .tmp t :: r,(ag,n) :: sh=>match st.s t,resLeaves P st r sh with
    | .agg cs,some vs=>bif ag&&Nat.beq n cs.length then some (cs++vs) else none
    | v,some vs=>bif !ag&&Nat.beq n 1&&v.leaf then some (v :: vs) else none
    | _,none=>none
  | .cell a t :: r,(ag,n) :: sh=>match st.s a,resLeaves P st r sh,isAggT P t,sizeT P t with
    | .bp b 0,some vs,some ag',some n'=>match st.h b with
      | some ⟨.box cs,_⟩=>bif (ag==ag')&&Nat.beq n n'&&Nat.beq n cs.length&&(ag||Nat.beq n 1) then some (cs++vs) else none
      | _=>none
    | _,_,_,_=>none
  | _,_=>none
def boxLeaves (st:St):List ArgK→List V→Nat→Option (List V)
  | .plain :: ks,_ :: as,k=>boxLeaves st ks as (k+1)
  | .mv _ :: ks,_ :: as,k=>boxLeaves st ks as (k+1)
  | .ptr _ :: ks, .agg cs0 :: as,k=>match st.h (128 *k+127),boxLeaves st ks as (k+1) with
    | some ⟨.box cs, .own⟩,some vs=>bif Nat.beq cs.length cs0.length then some (cs++vs) else none
    | _,_=>none
  | [],[],_=>some []
  | _,_,_=>none
def ksOk:List ArgK→List Ty→Bool
  | [],[]=>true
  | .plain :: ks,_ :: ts=>ksOk ks ts
  | .ptr _ :: ks, .cells t :: ts=>Nat.ble (sz t) 127&&ksOk ks ts
  | .mv _ :: ks, .v t :: ts=>t.isAgg&&Nat.ble (sz t) 127&&ksOk ks ts
  | _,_=>false
def evalF (fn:Func) (body:Code) (an:An) (ks:List ArgK) (own:List Nat) (shape:List (Bool × Nat)) (ts:List Ty) (as:List V):Option (TyTup ts):=
  runC C an body { s:=fun i=>match (entS ks 0 as).drop i with | v :: _=>v | []=> .undef,h:=entH ks 0 as,nx:=128 *ks.length } fun e st=>
    match e with
    | .exit _=>none
    | _=>match resLeaves C.P st fn.results.toList shape,boxLeaves st ks as 0 with
      | some vs,some us=>match takeLeaves own 0 (vs++us) st.h with
        | some (rs,_)=>unflat ts rs
        | none=>none
      | _,_=>none
end
end
end Go.D
namespace Go.D
section
variable {C:Cx} {w0:World} {outer own:Nat→Prop} {ρ:Nat→Option RI} {st st':St} {a:Act} {w:World} {R:Type}
theorem takeLeaves_len (ow:List Nat):∀ (cs:List V) (p:Nat) (h:Nat→Option Row) (x:List V × (Nat→Option Row)),takeLeaves ow p cs h=some x→x.1.length=cs.length
  | [],p,h,x,ht=>by simp [takeLeaves] at ht;subst ht;rfl
  | c :: cs,p,h,x,ht=>by
    simp only [takeLeaves] at ht
    cases hb:ow.any (Nat.beq p)
    · simp only [hb,cond_false] at ht
      split at ht
      case h_2=>cases ht
      split at ht
      case h_2=>cases ht
      rename_i hr
      have k:=takeLeaves_len ow cs (p+1) _ _ hr
      cases ht
      simpa using k
    · simp only [hb,cond_true] at ht
      split at ht
      · split at ht
        case h_2=>cases ht
        split at ht
        case h_2=>cases ht
        rename_i hr
        have k:=takeLeaves_len ow cs (p+1) _ _ hr
        cases ht
        simpa using k
      · split at ht
        case h_2=>cases ht
        rename_i hr
        have k:=takeLeaves_len ow cs (p+1) _ _ hr
        cases ht
        simpa using k
      · cases ht
def CompOk (w:World) (ρ:Nat→Option RI) (bad:Nat→Prop) (g:Nat→Option Row) (tv:Nat→Value) (sl:Nat→V):(c:Comp)→Nat→c.T→Prop
  | .slot s ty,_,x=>VR w ρ bad (tv s) (encTy ty x)∧NoRef (encTy ty x)
  | .own s t,id,x=>VR w ρ bad (tv s) (.ow id)∧g id=some ⟨.arr t x, .own⟩
  | .box s t ow,id,x=>∃ r,sl s= .bp r 0∧g r=some ⟨.box (thawL ow id 0 (enc t x)), .own⟩∧∀ q,q<128→g (id+q)=thawH ow id (fun _=>none) 0 (enc t x) (id+q)
theorem sub1 {v:V} {ds:List V} (h:Subs [v] ds):∃ d,ds=[d]∧Sub v d:=by
  cases h with
  | cons h1 h2=>cases h2;exact ⟨_,rfl,h1⟩
theorem enc_pos (t:TN) (x:El t):0<(enc t x).length:=by rw [enc_length];exact sz_pos t
theorem fp_dec {t:TN} {cs:List V} {x:El t} {bad:Nat→Prop} {u:Value} (hd:dec t cs=some x) (hv:VR w ρ bad u (.fp cs 0)):VR w ρ bad u (.fp (enc t x) 0):=by
  have hs:=dec_sub t hd
  cases hv with
  | fp _ off b o u h0 hb hu hv=>
  exact .fp _ _ b o u (enc_pos t x) hb (fun j hj=>hu j (by rw [hs.len];exact hj)) fun j hj=>VR.sub (hs.get j (by rw [hs.len];exact hj) hj) (hv j (by rw [hs.len];exact hj))
theorem fn1 {bad:Nat→Prop} {u:Value} {g:Nat} {c d:V} (h:∀ u',VR w ρ bad u' c→VR w ρ bad u' d) (hv:VR w ρ bad u (.fn g [c])):VR w ρ bad u (.fn g [d]):=by
  cases hv with
  | fn _ _ caps hs hv=>
  exact .fn _ _ caps hs fun j hj=>by
    have:j=0:=by simp at hj;omega
    subst this;exact h _ (hv 0 (by simp))
theorem fn2 {bad:Nat→Prop} {u:Value} {g:Nat} {c d c' d':V} (h:∀ u',VR w ρ bad u' c→VR w ρ bad u' d) (h':∀ u',VR w ρ bad u' c'→VR w ρ bad u' d') (hv:VR w ρ bad u (.fn g [c,c'])):VR w ρ bad u (.fn g [d,d']):=by
  cases hv with
  | fn _ _ caps hs hv=>
  exact .fn _ _ caps hs fun j hj=>by
    match j,hj with
    | 0,_=>exact h _ (hv 0 (by simp))
    | 1,_=>exact h' _ (hv 1 (by simp))
theorem fp1 {bad:Nat→Prop} {u:Value} {c d:V} (h:∀ u',VR w ρ bad u' c→VR w ρ bad u' d) (hv:VR w ρ bad u (.fp [c] 0)):VR w ρ bad u (.fp [d] 0):=by
  cases hv with
  | fp _ off b o u h0 hb hu hv=>
  exact .fp _ _ b o u (by simp) hb (fun j hj=>hu j hj) fun j hj=>by
    have:j=0:=by simp at hj;omega
    subst this;exact h _ (hv 0 (by simp))
theorem decTy_ok (ty:Ty) (v:V) (x:ty.T) {bad:Nat→Prop} {u:Value} (hd:decTy ty v=some x) (hv:VR w ρ bad u v):VR w ρ bad u (encTy ty x):=by
  cases ty with
  | v t=>
    simp only [decTy] at hd
    split at hd
    · rename_i cs
      cases hag:t.isAgg
      case false=>simp [hag] at hd
      simp only [hag,cond_true] at hd
      have hs:=dec_sub t hd
      simp only [encTy,encV,hag,cond_true]
      cases hv with
      | agg _ vs h1 h2=>
      refine .agg _ _ (by rw [h1];exact hs.len) fun j hj=>VR.sub (hs.get j (by rw [hs.len];exact hj) hj) (h2 j (by rw [hs.len];exact hj))
    · cases hag:t.isAgg
      case true=>simp [hag] at hd
      simp only [hag,cond_false] at hd
      obtain ⟨d,h1,h2⟩:=sub1 (dec_sub t hd)
      simp only [encTy,encV,hag,cond_false,h1]
      exact VR.sub h2 hv
  | sl t=>exact VR.sub (asL_sub hd) hv
  | raw=>simp only [decTy,Option.some.injEq] at hd;subst hd;exact hv
  | cells t=>
    simp only [decTy] at hd
    split at hd
    · have hs:=dec_sub t hd
      simp only [encTy]
      cases hv with
      | agg _ vs h1 h2=>
      exact .agg _ _ (by rw [h1];exact hs.len) fun j hj=>VR.sub (hs.get j (by rw [hs.len];exact hj) hj) (h2 j (by rw [hs.len];exact hj))
    · cases hd
  | pt t=>
    simp only [decTy] at hd
    split at hd
    · exact fp_dec hd hv
    · cases hd
  | c1 g t=>
    simp only [decTy] at hd
    split at hd
    · rename_i g' cs
      cases hg:Nat.beq g' g
      case false=>rw [hg] at hd;cases hd
      rw [hg,cond_true] at hd
      have:=Nat.eq_of_beq_eq_true hg
      subst this
      exact fn1 (fun _=>fp_dec hd) hv
    · cases hd
  | p1 g t=>
    simp only [decTy] at hd
    split at hd
    · rename_i g' cs
      cases hg:Nat.beq g' g
      case false=>rw [hg] at hd;cases hd
      rw [hg,cond_true] at hd
      have:=Nat.eq_of_beq_eq_true hg
      subst this
      exact fp1 (fun _=>fn1 fun _=>fp_dec hd) hv
    · cases hd
  | c2 g h t=>
    simp only [decTy] at hd
    split at hd
    · rename_i g' h' cs ds
      cases hgh:Nat.beq g' g&&Nat.beq h' h
      case false=>rw [hgh] at hd;cases hd
      rw [hgh,cond_true] at hd
      rw [Bool.and_eq_true] at hgh
      have:=Nat.eq_of_beq_eq_true hgh.1
      have h2:=Nat.eq_of_beq_eq_true hgh.2
      subst this h2
      obtain ⟨a,ha,hd⟩:=Option.bind_eq_some_iff.1 hd
      obtain ⟨b,hb,hd⟩:=Option.bind_eq_some_iff.1 hd
      cases hd
      exact fn2 (fun _=>fp1 fun _=>fn1 fun _=>fp_dec ha) (fun _=>fp_dec hb) hv
    · cases hd
theorem noRef_fp (t:TN) (x:El t):NoRef (.fp (enc t x) 0):=fun S=> .fp _ _ fun j hj=>by
  have:=rin_enc S t x j
  rw [List.getD_eq_getElem?_getD,List.getElem?_eq_getElem hj] at this;exact this
theorem noRef_fn1 {g:Nat} {c:V} (h:NoRef c):NoRef (.fn g [c]):=fun S=> .fn _ _ fun j hj=>by
  have:j=0:=by simp at hj;omega
  subst this;exact h S
theorem noRef_fn2 {g:Nat} {c d:V} (h:NoRef c) (h':NoRef d):NoRef (.fn g [c,d]):=fun S=> .fn _ _ fun j hj=>by
  match j,hj with
  | 0,_=>exact h S
  | 1,_=>exact h' S
theorem noRef_fp1 {c:V} (h:NoRef c):NoRef (.fp [c] 0):=fun S=> .fp _ _ fun j hj=>by
  have:j=0:=by simp at hj;omega
  subst this;exact h S
theorem noRef_encTy (ty:Ty) (v:V) (x:ty.T) (hd:decTy ty v=some x) (hv:NoRef v):NoRef (encTy ty x):=by
  cases ty with
  | v t=>
    intro S
    simp only [encTy,encV]
    cases hag:t.isAgg
    · simp only [cond_false]
      split
      · rename_i c r he
        have:=rin_enc S t x 0
        rw [he] at this;exact this
      · exact .undef
    · refine .agg _ fun j hj=>?_
      have:=rin_enc S t x j
      rw [List.getD_eq_getElem?_getD,List.getElem?_eq_getElem hj] at this;exact this
  | sl t=>exact noRef_sl _ _
  | raw=>simp only [decTy,Option.some.injEq] at hd;subst hd;exact hv
  | cells t=>
    intro S
    simp only [encTy]
    refine .agg _ fun j hj=>?_
    have:=rin_enc S t x j
    rw [List.getD_eq_getElem?_getD,List.getElem?_eq_getElem hj] at this;exact this
  | pt t=>exact noRef_fp t x
  | c1 g t=>exact noRef_fn1 (noRef_fp t x)
  | p1 g t=>exact noRef_fp1 (noRef_fn1 (noRef_fp t x))
  | c2 g h t=>exact noRef_fn2 (noRef_fp1 (noRef_fn1 (noRef_fp t x.1))) (noRef_fp t x.2)
structure Ex1 (w0:World) (outer own:Nat→Prop) (w:World) (tv:Nat→Value) (c:Comp) (id:Nat) (ρ:Nat→Option RI) (g:Nat→Option Row) (st1:St) (x:c.T) (st2:St) (ρ':Nat→Option RI) (g':Nat→Option Row):Prop where
  slots:st2.s=st1.s
  heap:HRel w0 outer own ρ' g' w
  lies:Lies st2.h g'
  less:∀ q,st1.h q=none→st2.h q=none
  left:∀ n,Keeps n st1.h st2.h
  out:∀ q,Out id 128 q→ρ' q=ρ q∧(st1.h q=none→g' q=g q)
  ext:∀ q qi,ρ q=some qi→ρ' q=some qi
  keep:∀ u d,VR w ρ (Bad outer ρ g) u d→VR w ρ' (Bad outer ρ' g') u d
  ok:CompOk w ρ' (Bad outer ρ' g') g' tv st1.s c id x
  gone:∀ s t ow r,c= .box s t ow→st1.s s= .bp r 0→st2.h r=none∧Out id 128 r
theorem ex1_ok {tv:Nat→Value} (c:Comp) (id:Nat) (st1:St) (k:c.T→St→Option R) {r:R} {g:Nat→Option Row} (he:ex1 c st1 k=some r) (hh:HRel w0 outer own ρ g w) (hl:Lies st1.h g)
    (hv:∀ s,VR w ρ (Bad outer ρ g) (tv s) (st1.s s)) (hρ:∀ q,q<128→ρ (id+q)=none) (hn:∀ q,q<128→st1.h (id+q)=none):
    ∃ x st2 ρ' g',k x st2=some r∧Ex1 w0 outer own w tv c id ρ g st1 x st2 ρ' g':=by
  have hin:∀ q row,st1.h q=some row→Out id 128 q:=fun q row hq h3=>by
    have:=hn (q - id) (by omega)
    rw [show id+(q - id)=q by omega,hq] at this;cases this
  have h0:ρ id=none:=hρ 0 (by omega)
  have hn0:st1.h id=none:=hn 0 (by omega)
  cases c with
  | slot s ty=>
    simp only [ex1] at he
    split at he
    case h_2=>cases he
    rename_i v ids hfz
    obtain ⟨x,hx,he⟩:=Option.bind_eq_some_iff.1 he
    obtain ⟨k1,k2⟩:=frz_lies hl hfz
    have k2:∀ r ∈ ids,∃ row,st1.h r=some row:=k2
    obtain ⟨m1,m2⟩:=hh.mark ids
    obtain ⟨f1,f2⟩:=frz_ok hh (hv s) k1
    have hnn:∀ r,st1.h r=none→r ∉ ids:=fun r hn hm=>by obtain ⟨row,h5⟩:=k2 r hm;rw [hn] at h5;cases h5
    exact ⟨x,_,ρ,markRo g ids,he,rfl,m1,lies_mark hl ids,fun q hq=>by show markRo st1.h ids q=none;rw [markRo_get,if_neg (hnn q hq)];exact hq,fun n=>keeps_mark _ (frz_noLock hfz),
      fun q _=>⟨rfl,fun hq=>by rw [markRo_get,if_neg (hnn q hq)]⟩,fun _ _ h=>h,m2,⟨decTy_ok ty v x hx f1,noRef_encTy ty v x hx f2⟩,fun s t ow r h=>by cases h⟩
  | own s t=>
    simp only [ex1] at he
    split at he
    case h_2=>cases he
    rename_i l ro htk
    have htk0:=htk
    have hvs:=hv s
    -- a row that has moved
    have moved:∀ (q:Nat) (m:Mode) (l0:List (El t)) (ri':RI),ro=some q→st1.h q=some ⟨.arr t l0, .own⟩→HRel w0 outer own (upd ρ id (some ri')) (upd (upd g q none) id (some ⟨.arr t l, .own⟩)) w→
        (∀ u d,VR w ρ (Bad outer ρ g) u d→VR w (upd ρ id (some ri')) (Bad outer (upd ρ id (some ri')) (upd (upd g q none) id (some ⟨.arr t l, .own⟩))) u d)→
        VR w (upd ρ id (some ri')) (Bad outer (upd ρ id (some ri')) (upd (upd g q none) id (some ⟨.arr t l, .own⟩))) (tv s) (.ow id)→
        ∃ x st2 ρ' g',k x st2=some r∧Ex1 w0 outer own w tv (.own s t) id ρ g st1 x st2 ρ' g':=by
      rintro q m l0 ri' rfl hq n1 n2 n3
      have hqo:=hin q _ hq
      refine ⟨l,_,_,_,he,rfl,n1,fun p row hp=>?_,fun p hp=>?_,fun n=>keeps_kill htk0,fun p hp=>⟨upd_other _ _ _ _ ?_,fun hpn=>?_⟩,fun p pi hp=>?_,n2,⟨n3,upd_same _ _ _⟩,fun s t ow r h=>by cases h⟩
      · have hp:upd st1.h q none p=some row:=hp
        by_cases hpq:p=q
        · subst hpq;rw [upd_same] at hp;cases hp
        · rw [upd_other _ _ _ _ hpq] at hp
          rw [upd_other _ _ _ _ (by rintro rfl;rw [hn0] at hp;cases hp),upd_other _ _ _ _ hpq];exact hl _ _ hp
      · show upd st1.h q none p=none
        by_cases hpq:p=q
        · subst hpq;exact upd_same _ _ _
        · rw [upd_other _ _ _ _ hpq];exact hp
      · rintro rfl;exact hp ⟨Nat.le_refl _,by omega⟩
      · rw [upd_other _ _ _ _ (by rintro rfl;exact hp ⟨Nat.le_refl _,by omega⟩),upd_other]
        rintro rfl;rw [hq] at hpn;cases hpn
      · rw [upd_other];exact hp
        rintro rfl;rw [h0] at hp;cases hp
    unfold takenOf at htk
    split at htk
    · rename_i hop
      simp only [Option.some.injEq,Prod.mk.injEq] at htk
      obtain ⟨rfl,rfl⟩:=htk
      rw [hop] at hvs
      have hvn:tv s= .slice none 0 0:=by generalize tv s=x at hvs;cases hvs;rfl
      obtain ⟨n1,n2⟩:=hh.empty t h0
      refine ⟨[],_,_,_,he,rfl,n1,fun p row hp=>?_,fun p hp=>hp,fun n=>Keeps.refl n _,fun p hp=>⟨upd_other _ _ _ _ ?_,fun hpn=>upd_other _ _ _ _ ?_⟩,fun p pi hp=>?_,n2,⟨?_,upd_same _ _ _⟩,fun s t ow r h=>by cases h⟩
      · have hp:st1.h p=some row:=hp
        rw [upd_other _ _ _ _ (by rintro rfl;rw [hn0] at hp;cases hp)];exact hl _ _ hp
      · rintro rfl;exact hp ⟨Nat.le_refl _,by omega⟩
      · rintro rfl;exact hp ⟨Nat.le_refl _,by omega⟩
      · rw [upd_other];exact hp
        rintro rfl;rw [h0] at hp;cases hp
      · rw [hvn];exact .owN _ ⟨0,0,0,true⟩ none (upd_same _ _ _) rfl rfl
    · rename_i q hop
      split at htk
      case h_2=>cases htk
      rename_i t' l1 hrow
      split at htk
      case isFalse=>cases htk
      rename_i e1
      subst e1
      simp only [cast_rfl,Option.some.injEq,Prod.mk.injEq] at htk
      obtain ⟨rfl,rfl⟩:=htk
      rw [hop] at hvs
      obtain ⟨ri,hρq,_⟩:=hh.rows q _ (hl _ _ hrow)
      obtain ⟨n1,n2⟩:=hh.rename (hl _ _ hrow) hρq h0
      refine moved q .own l1 ri rfl hrow n1 n2 ?_
      rcases hvs.ow_inv hρq with ⟨e1,e2,e3,e4⟩ | ⟨ao,e1,e2,e3⟩
      · rw [e1];exact .ow _ ri (upd_same _ _ _) e3 e4 e2
      · rw [e1];exact .owN _ ri ao (upd_same _ _ _) e3 e2
    · rename_i q t0 len hop
      split at htk
      case h_2=>cases htk
      rename_i t' l1 hrow
      split at htk
      case isFalse=>cases htk
      rename_i e1
      subst e1
      simp only [cast_rfl,Option.some.injEq,Prod.mk.injEq] at htk
      obtain ⟨rfl,rfl⟩:=htk
      rw [hop] at hvs
      obtain ⟨ri,hρq,hro,_⟩:=hh.rows q _ (hl _ _ hrow)
      have hn1:ri.n=l1.length:=hro.1
      obtain ⟨ao,cap,h1,h2,h3,h4,h5⟩:=hvs.ov_inv hρq
      rcases h3 with ⟨rfl,rfl⟩ | ⟨rfl,hnl,hc⟩
      · -- nothing of it
        obtain ⟨k1,k2⟩:=hh.less (less_kill g q)
        obtain ⟨n1,n2⟩:=k1.empty t' h0
        rw [List.take_zero] at he moved
        refine moved q .own l1 ⟨0,0,0,true⟩ rfl hrow n1 (fun u d hu=>n2 _ _ (k2 _ _ hu)) ?_
        rw [h1];exact .owN _ ⟨0,0,0,true⟩ ao (upd_same _ _ _) rfl rfl
      · rw [Nat.zero_mul] at h1
        rcases hro.2 with h6 | ⟨_,c1,c2,c3,c4⟩
        · rw [hnl] at h6;cases h6.1
        obtain ⟨n1,n2⟩:=hh.move (hl _ _ hrow) hρq hnl h0 (ri':=⟨ri.b,len,cap,false⟩) rfl rfl w (Wx.refl _) rfl (fun _ _=>rfl) (.arr t' (l1.take len)) fun bad hk2=>by
          refine ⟨by simp;omega, .inr ⟨rfl,h4,h5,fun j hj=>c3 j ?_,fun i hi j hj=>?_⟩⟩
          · have:cap *sz t'≤ri.cap *sz t':=Nat.mul_le_mul_right _ (by omega)
            have hj:j<cap *sz t':=hj
            omega
          · obtain ⟨u,f1,f2⟩:=c4 i (by simp at hi;omega) j hj
            refine ⟨u,f1,?_⟩
            rw [List.getElem_take];exact hk2 _ _ f2
        refine moved q .own l1 _ rfl hrow n1 n2 ?_
        rw [h1];exact .ow _ ⟨ri.b,len,cap,false⟩ (upd_same _ _ _) h4 h5 rfl
    · cases htk
  | box s t ow=>
    simp only [ex1] at he
    split at he
    case h_2=>cases he
    rename_i q hop
    split at he
    case h_2=>cases he
    rename_i cs hrow
    split at he
    case h_2=>cases he
    rename_i cs' h' htl
    obtain ⟨x,hx,he⟩:=Option.bind_eq_some_iff.1 he
    have hs:=dec_sub t hx
    have hqo:=hin q _ hrow
    have hgq:=hl _ _ hrow
    obtain ⟨ri,hρq,hro,_⟩:=hh.rows q _ hgq
    have hlen:cs.length≤128:=by
      have h1:=takeLeaves_len _ _ _ _ _ htl
      have h2:=hs.len
      rw [enc_length] at h2
      have:=sz_le t
      simp only at h1
      omega
    have hless:∀ p,st1.h p=none→upd st1.h q none p=none:=fun p hp=>by
      by_cases hpq:p=q
      · subst hpq;exact upd_same _ _ _
      · rw [upd_other _ _ _ _ hpq];exact hp
    obtain ⟨ρ1,g1,T,hl2⟩:=take_thaw ow id 128 cs 0 (upd st1.h q none) h' cs' (enc t x) ρ g (fun j=>(w.cell? (at_ ri.b j)).getD undef) htl hs (by omega) hh
      (fun j hj=>by obtain ⟨_,y,f1,f2⟩:=hro.2 j hj;rw [f1];exact f2)
      (fun p row hp=>by
        by_cases hpq:p=q
        · subst hpq;rw [upd_same] at hp;cases hp
        · rw [upd_other _ _ _ _ hpq] at hp;exact hl _ _ hp)
      (fun p hp=>hless _ (hn p hp)) (fun p _ hp=>hρ p hp)
    have hg1q:g1 q=some ⟨.box cs, .own⟩:=by rw [(T.out q hqo).2 (upd_same _ _ _)];exact hgq
    have hρ1:ρ1 q=some ri:=T.ext _ _ hρq
    obtain ⟨n1,n2⟩:=T.heap.reread hg1q (es:=thawL ow id 0 (enc t x)) (by rw [thawL_len];exact hl2) (fun ri' h3 j hj=>by rw [hρ1] at h3;cases h3;exact T.vals j hj)
    have hh'q:h' q=none:=T.less q (upd_same _ _ _)
    refine ⟨x,_,_,_,he,rfl,n1,fun p row hp=>?_,fun p hp=>T.less p (hless p hp),fun n=>(keeps_upd (Keeps.refl n _) _ none (.inr ⟨_,hrow,rfl⟩)).trans (takeLeaves_keeps (fun r=>r<n) _ _ _ _ _ htl),fun p hp=>⟨(T.out p hp).1,fun hpn=>?_⟩,T.ext,fun u d hu=>n2 _ _ (T.keep _ _ hu),
      ⟨q,hop,upd_same _ _ _,fun p hp=>?_⟩,fun s' t' ow' r' h1 h2=>?_⟩
    · have hp:h' p=some row:=hp
      rw [upd_other _ _ _ _ (by rintro rfl;rw [hh'q] at hp;cases hp)];exact T.lies _ _ hp
    · rw [upd_other _ _ _ _ (by rintro rfl;rw [hrow] at hpn;cases hpn),(T.out p hp).2 (hless p hpn)]
    · rw [upd_other _ _ _ _ (by rintro rfl;exact hqo ⟨by omega,by omega⟩)];exact T.new p (by omega) hp
    · cases h1;rw [hop] at h2;cases h2;exact ⟨hh'q,hqo⟩
def CompsOk (w:World) (ρ:Nat→Option RI) (bad:Nat→Prop) (g:Nat→Option Row) (tv:Nat→Value) (sl:Nat→V):(cs:List Comp)→Nat→Tup cs→Prop
  | [],_,_=>True
  | [c],id,x=>CompOk w ρ bad g tv sl c id x
  | c :: d :: r,id,x=>CompOk w ρ bad g tv sl c id x.1∧CompsOk w ρ bad g tv sl (d :: r) (id+128) x.2
theorem CompOk.later {tv:Nat→Value} {sl:Nat→V} {c:Comp} {id:Nat} {x:c.T} {ρ ρ':Nat→Option RI} {bad bad':Nat→Prop} {g g':Nat→Option Row} (h:CompOk w ρ bad g tv sl c id x)
    (hk:∀ u d,VR w ρ bad u d→VR w ρ' bad' u d) (hg:∀ q,q<128→g' (id+q)=g (id+q)) (hb:∀ s t ow r,c= .box s t ow→sl s= .bp r 0→g' r=g r):CompOk w ρ' bad' g' tv sl c id x:=by
  cases c with
  | slot s ty=>exact ⟨hk _ _ h.1,h.2⟩
  | own s t=>exact ⟨hk _ _ h.1,by rw [show id=id+0 from rfl,hg 0 (by omega)];exact h.2⟩
  | box s t ow=>
    obtain ⟨r,h1,h2,h3⟩:=h
    exact ⟨r,h1,by rw [hb s t ow r rfl h1];exact h2,fun q hq=>by rw [hg q hq];exact h3 q hq⟩
structure ExA (w0:World) (outer own:Nat→Prop) (w:World) (tv:Nat→Value) (cs:List Comp) (id:Nat) (ρ:Nat→Option RI) (g:Nat→Option Row) (st1:St) (x:Tup cs) (hn:Nat→Option Row) (ρ':Nat→Option RI) (g':Nat→Option Row):Prop where
  heap:HRel w0 outer own ρ' g' w
  lies:Lies hn g'
  left:∀ n,Keeps n st1.h hn
  out:∀ q,q<id→ρ' q=ρ q∧(st1.h q=none→g' q=g q)
  fresh:∀ q,id+128 *cs.length≤q→ρ' q=none
  ext:∀ q qi,ρ q=some qi→ρ' q=some qi
  keep:∀ u d,VR w ρ (Bad outer ρ g) u d→VR w ρ' (Bad outer ρ' g') u d
  ok:CompsOk w ρ' (Bad outer ρ' g') g' tv st1.s cs id x
theorem exK_ok {tv:Nat→Value}:∀ (cs:List Comp) (id:Nat) (st1:St) (k:Tup cs→Option R) (r:R) (ρ:Nat→Option RI) (g:Nat→Option Row),exK cs st1 k=some r→HRel w0 outer own ρ g w→Lies st1.h g→
    (∀ s,VR w ρ (Bad outer ρ g) (tv s) (st1.s s))→(∀ q,id≤q→ρ q=none)→(∀ q,id≤q→st1.h q=none)→∃ x hn ρ' g',k x=some r∧ExA w0 outer own w tv cs id ρ g st1 x hn ρ' g'
  | [],id,st1,k,r,ρ,g,he,hh,hl,hv,hρ,hn=>⟨(),st1.h,ρ,g,he,hh,hl,fun n=>Keeps.refl n _,fun q _=>⟨rfl,fun _=>rfl⟩,fun q hq=>hρ q (by simpa using hq),fun _ _ h=>h,fun _ _ h=>h,trivial⟩
  | [c],id,st1,k,r,ρ,g,he,hh,hl,hv,hρ,hn=>by
    simp only [exK] at he
    obtain ⟨x,st2,ρ',g',h1,E⟩:=ex1_ok c id st1 _ he hh hl hv (fun q hq=>hρ _ (by omega)) (fun q hq=>hn _ (by omega))
    refine ⟨x,st2.h,ρ',g',h1,E.heap,E.lies,E.left,fun q hq=>E.out q (fun h=>by omega),fun q hq=>?_,E.ext,E.keep,E.ok⟩
    simp at hq
    rw [(E.out q (fun h=>by omega)).1];exact hρ q (by omega)
  | c :: d :: cs,id,st1,k,r,ρ,g,he,hh,hl,hv,hρ,hn=>by
    simp only [exK] at he
    obtain ⟨x,st2,ρ1,g1,h1,E⟩:=ex1_ok c id st1 _ he hh hl hv (fun q hq=>hρ _ (by omega)) (fun q hq=>hn _ (by omega))
    obtain ⟨y,hn',ρ',g',h2,F⟩:=exK_ok (d :: cs) (id+128) st2 _ r ρ1 g1 h1 E.heap E.lies (fun s=>by rw [E.slots];exact E.keep _ _ (hv s))
      (fun q hq=>by rw [(E.out q (fun h=>by omega)).1];exact hρ q (by omega)) (fun q hq=>E.less q (hn q (by omega)))
    refine ⟨(x,y),hn',ρ',g',h2,F.heap,F.lies,fun n=>(E.left n).trans (F.left n),fun q hq=>?_,fun q hq=>?_,fun q qi hq=>F.ext _ _ (E.ext _ _ hq),fun u d hu=>F.keep _ _ (E.keep _ _ hu),?_,by rw [← E.slots];exact F.ok⟩
    · have ho:Out id 128 q:=fun h=>by omega
      exact ⟨((F.out q (by omega)).1).trans (E.out q ho).1,fun hq0=>((F.out q (by omega)).2 (E.less q hq0)).trans ((E.out q ho).2 hq0)⟩
    · exact F.fresh q (by simp at hq ⊢;omega)
    · refine E.ok.later F.keep (fun q hq=>(F.out (id+q) (by omega)).2 (E.less _ (hn _ (by omega)))) fun s t ow r h3 h4=>?_
      obtain ⟨h5,h6⟩:=E.gone s t ow r h3 h4
      have hrlt:r<id:=by
        rcases Nat.lt_or_ge r id with h7 | h7
        · exact h7
        · obtain ⟨ri,h8,_⟩:=(show VR w ρ (Bad outer ρ g) (tv s) (.bp r 0) by rw [← h4];exact hv s).bp_inv
          rw [hρ r h7] at h8;cases h8
      exact (F.out r (by omega)).2 h5
theorem insH_row {tv:Nat→Value} {sl:Nat→V} {ρ2:Nat→Option RI} {bad2:Nat→Prop} {g2:Nat→Option Row}:∀ (cs:List Comp) (M id:Nat) (x:Tup cs) (h:Nat→Option Row) (q:Nat) (row:Row),
    CompsOk w ρ2 bad2 g2 tv sl cs M x→insH sl cs id x h q=some row→
    h q=some row∨(id≤q∧q<id+128 *cs.length∧(∃ t l,row=⟨.arr t l, .own⟩)∧g2 (M+(q - id))=some row)∨
      (∃ o ow es s,row=⟨.box (thawL ow (id+o) 0 es), .own⟩∧g2 q=some ⟨.box (thawL ow (M+o) 0 es), .own⟩∧o+128≤128 *cs.length∧(∀ j (hj:j<es.length),NoRef es[j])∧es.length≤128∧sl s= .bp q 0):=by
  have one:∀ (c:Comp) (M id:Nat) (x:c.T) (h:Nat→Option Row) (q:Nat) (row:Row),CompOk w ρ2 bad2 g2 tv sl c M x→insH1 sl c id x h q=some row→
      h q=some row∨(id≤q∧q<id+128∧(∃ t l,row=⟨.arr t l, .own⟩)∧g2 (M+(q - id))=some row)∨
      (∃ ow es s,row=⟨.box (thawL ow id 0 es), .own⟩∧g2 q=some ⟨.box (thawL ow M 0 es), .own⟩∧(∀ j (hj:j<es.length),NoRef es[j])∧es.length≤128∧sl s= .bp q 0):=by
    intro c M id x h q row hc hi
    cases c with
    | slot s ty=>exact .inl hi
    | own s t=>
      simp only [insH1] at hi
      by_cases hq:q=id
      · subst hq;rw [upd_same] at hi;cases hi
        exact .inr (.inl ⟨Nat.le_refl _,by omega,⟨_,_,rfl⟩,by rw [Nat.sub_self];exact hc.2⟩)
      · rw [upd_other _ _ _ _ hq] at hi;exact .inl hi
    | box s t ow=>
      obtain ⟨r,h1,h2,h3⟩:=hc
      simp only [insH1,h1] at hi
      by_cases hq:q=r
      · subst hq;rw [upd_same] at hi;cases hi
        refine .inr (.inr ⟨ow,enc t x,s,rfl,h2,fun j hj=>?_,by rw [enc_length];exact sz_le t,h1⟩)
        intro S
        have:=rin_enc S t x j
        rw [List.getD_eq_getElem?_getD,List.getElem?_eq_getElem hj] at this;exact this
      · rw [upd_other _ _ _ _ hq,thawH_or] at hi
        split at hi
        · rename_i y hy
          cases hi
          obtain ⟨t',l,e1,e2,e3⟩:=thawH_arr _ _ _ _ _ _ hy
          have hsz:=sz_le t
          rw [enc_length] at e3
          refine .inr (.inl ⟨by omega,by omega,⟨t',l,e1⟩,?_⟩)
          rw [h3 (q - id) (by omega),thawH_shift ow M id,show id+(q - id)=q by omega];exact hy
        · exact .inl hi
  intro cs
  induction cs with
  | nil=>intro M id x h q row _ hi;exact .inl hi
  | cons c cs ih=>
    intro M id x h q row hc hi
    cases cs with
    | nil=>
      rcases one c M id x h q row hc hi with h1 | ⟨h1,h2,h3⟩ | ⟨ow,es,s,h1,h2,h3⟩
      · exact .inl h1
      · exact .inr (.inl ⟨h1,by simp only [List.length_cons,List.length_nil];omega,h3⟩)
      · exact .inr (.inr ⟨0,ow,es,s,h1,h2,by simp only [List.length_cons];omega,h3⟩)
    | cons d r=>
      simp only [insH] at hi
      rcases one c M id x.1 _ q row hc.1 hi with h1 | ⟨h1,h2,h3⟩ | ⟨ow,es,s,h1,h2,h3⟩
      · rcases ih (M+128) (id+128) x.2 h q row hc.2 h1 with h4 | ⟨h4,h5,h6,h7⟩ | ⟨o,ow,es,s,h4,h5,h6,h7⟩
        · exact .inl h4
        · refine .inr (.inl ⟨by omega,by simp at h5 ⊢;omega,h6,?_⟩)
          rw [show M+(q - id)=M+128+(q - (id+128)) by omega];exact h7
        · refine .inr (.inr ⟨o+128,ow,es,s,?_,?_,by simp at h6 ⊢;omega,h7⟩)
          · rw [show id+(o+128)=id+128+o by omega];exact h4
          · rw [show M+(o+128)=M+128+o by omega];exact h5
      · exact .inr (.inl ⟨h1,by simp only [List.length_cons];omega,h3⟩)
      · exact .inr (.inr ⟨0,ow,es,s,h1,h2,by simp only [List.length_cons];omega,h3⟩)
theorem insS_val {tv:Nat→Value} {sl:Nat→V} {ρ2:Nat→Option RI} {bad2:Nat→Prop} {g2:Nat→Option Row} (f:Nat→V) (s:Nat):∀ (cs:List Comp) (M id:Nat) (x:Tup cs),
    CompsOk w ρ2 bad2 g2 tv sl cs M x→(isSlot cs s=false∧insS cs id x f s=f s)∨(VR w ρ2 bad2 (tv s) (insS cs id x f s)∧NoRef (insS cs id x f s))∨
      (∃ o,insS cs id x f s= .ow (id+o)∧VR w ρ2 bad2 (tv s) (.ow (M+o))∧o<128 *cs.length):=by
  have one:∀ (c:Comp) (M id:Nat) (x:c.T) (f:Nat→V),CompOk w ρ2 bad2 g2 tv sl c M x→((∀ r,isSlot (c :: r) s=isSlot r s)∧insS1 c id x f s=f s)∨(VR w ρ2 bad2 (tv s) (insS1 c id x f s)∧NoRef (insS1 c id x f s))∨
      (insS1 c id x f s= .ow id∧VR w ρ2 bad2 (tv s) (.ow M)):=by
    intro c M id x f hc
    cases c with
    | slot s' ty=>
      by_cases hs:s=s'
      · subst hs;simp only [insS1,upd_same];exact .inr (.inl hc)
      · simp only [insS1];rw [upd_other _ _ _ _ hs]
        refine .inl ⟨fun r=>?_,rfl⟩
        have:Nat.beq s' s=false:=by
          cases hb:Nat.beq s' s with
          | false=>rfl
          | true=>exact absurd (Nat.eq_of_beq_eq_true hb).symm hs
        simp [isSlot,this]
    | own s' t=>
      by_cases hs:s=s'
      · subst hs;exact .inr (.inr ⟨upd_same _ _ _,hc.1⟩)
      · simp only [insS1];rw [upd_other _ _ _ _ hs]
        refine .inl ⟨fun r=>?_,rfl⟩
        have:Nat.beq s' s=false:=by
          cases hb:Nat.beq s' s with
          | false=>rfl
          | true=>exact absurd (Nat.eq_of_beq_eq_true hb).symm hs
        simp [isSlot,this]
    | box s' t ow=>exact .inl ⟨fun r=>rfl,rfl⟩
  intro cs
  induction cs with
  | nil=>intro M id x _;exact .inl ⟨rfl,rfl⟩
  | cons c cs ih=>
    intro M id x hc
    cases cs with
    | nil=>
      rcases one c M id x f hc with ⟨h1,h2⟩ | h | ⟨h1,h2⟩
      · exact .inl ⟨by rw [h1];rfl,h2⟩
      · exact .inr (.inl h)
      · exact .inr (.inr ⟨0,h1,h2,by simp only [List.length_cons];omega⟩)
    | cons d r=>
      simp only [insS]
      rcases one c M id x.1 (insS (d :: r) (id+128) x.2 f) hc.1 with ⟨h1,h2⟩ | h | ⟨h1,h2⟩
      · rw [h2]
        rcases ih (M+128) (id+128) x.2 hc.2 with ⟨h3,h4⟩ | h3 | ⟨o,h3,h4,h5⟩
        · exact .inl ⟨by rw [h1];exact h3,h4⟩
        · exact .inr (.inl h3)
        · exact .inr (.inr ⟨o+128,by rw [h3];congr 1;omega,by rw [show M+(o+128)=M+128+o by omega];exact h4,by simp only [List.length_cons] at h5 ⊢;omega⟩)
      · exact .inr (.inl h)
      · exact .inr (.inr ⟨0,h1,h2,by simp only [List.length_cons];omega⟩)
theorem CompsOk.slots {tv:Nat→Value} {sl sl':Nat→V} {ρ2:Nat→Option RI} {bad2:Nat→Prop} {g2:Nat→Option Row}:∀ (cs:List Comp) (M:Nat) (x:Tup cs),
    (∀ s t ow,Comp.box s t ow ∈ cs→sl' s=sl s)→CompsOk w ρ2 bad2 g2 tv sl cs M x→CompsOk w ρ2 bad2 g2 tv sl' cs M x:=by
  have one:∀ (c:Comp) (M:Nat) (x:c.T),(∀ s t ow,c=Comp.box s t ow→sl' s=sl s)→CompOk w ρ2 bad2 g2 tv sl c M x→CompOk w ρ2 bad2 g2 tv sl' c M x:=by
    intro c M x hs hc
    cases c with
    | slot s ty=>exact hc
    | own s t=>exact hc
    | box s t ow=>obtain ⟨r,h1,h2⟩:=hc;exact ⟨r,by rw [hs s t ow rfl];exact h1,h2⟩
  intro cs
  induction cs with
  | nil=>intro M x _ _;trivial
  | cons c cs ih=>
    intro M x hs hc
    cases cs with
    | nil=>exact one c M x (fun s t ow h=>hs s t ow (by simp [h])) hc
    | cons d r=>exact ⟨one c M x.1 (fun s t ow h=>hs s t ow (by simp [h])) hc.1,ih (M+128) x.2 (fun s t ow h=>hs s t ow (List.mem_cons_of_mem _ h)) hc.2⟩
theorem insH_some (sl:Nat→V):∀ (cs:List Comp) (id:Nat) (x:Tup cs) (h:Nat→Option Row) (q:Nat) (row:Row),h q=some row→∃ row',insH sl cs id x h q=some row':=by
  have up:∀ (h:Nat→Option Row) (i:Nat) (y:Row) (q:Nat),(∃ row,h q=some row)→∃ row',upd h i (some y) q=some row':=by
    intro h i y q hq
    by_cases hi:q=i
    · subst hi;exact ⟨y,upd_same _ _ _⟩
    · rw [upd_other _ _ _ _ hi];exact hq
  have one:∀ (c:Comp) (id:Nat) (x:c.T) (h:Nat→Option Row) (q:Nat),(∃ row,h q=some row)→∃ row',insH1 sl c id x h q=some row':=by
    intro c id x h q hq
    cases c with
    | slot s' ty=>exact hq
    | own s' t=>exact up _ _ _ _ hq
    | box s' t ow=>
      simp only [insH1]
      generalize sl s'=v
      cases v with
      | bp r off=>
        cases off with
        | zero=>
          refine up _ _ _ _ ?_
          rw [thawH_or]
          cases thawH ow id (fun _=>none) 0 (enc t x) q with
          | some y=>exact ⟨_,rfl⟩
          | none=>exact hq
        | succ n=>exact hq
      | _=>exact hq
  intro cs
  induction cs with
  | nil=>intro id x h q row hq;exact ⟨row,hq⟩
  | cons c cs ih=>
    intro id x h q row hq
    cases cs with
    | nil=>exact one c id x h q ⟨row,hq⟩
    | cons d r=>exact one c id x.1 _ q (ih (id+128) x.2 h q row hq)
theorem install_ok {j:JI} {b:St} {ρ':Nat→Option RI} {a':Act} {w':World} {k:Tup j.cs→Option R} {r:R} (hb:Rel C w0 outer own ρ b a w) (hfb:∀ q,b.nx≤q→ρ q=none)
    (hr:Rel C w0 outer own ρ' st' a' w') (hf:∀ q,st'.nx≤q→ρ' q=none) (hnx:b.nx≤st'.nx) (hext:∀ q qi,ρ q=some qi→ρ' q=some qi)
    (hslots:∀ s,j.has s=false→st'.s s=b.s s) (hkeep:Keeps b.nx (lockBut j b).h st'.h) (hbox:boxSlots j=true) (he:exK j.cs st' k=some r):
    ∃ x,k x=some r∧∃ ρ'',Rel C w0 outer own ρ'' (install j b x) a' w'∧(∀ q,(install j b x).nx≤q→ρ'' q=none)∧(∀ q qi,ρ q=some qi→ρ'' q=some qi)∧Keeps b.nx b.h (install j b x).h:=by
  have hbn:∀ q row,b.h q=some row→ρ q≠none∧q<b.nx:=fun q row hq=>by
    obtain ⟨ri,h1,_⟩:=hb.heap.rows q row hq
    refine ⟨by rw [h1];simp,?_⟩
    rcases Nat.lt_or_ge q b.nx with h | h
    · exact h
    · rw [hfb q h] at h1;cases h1
  have hhn:∀ q,st'.nx≤q→st'.h q=none:=fun q hq=>by
    cases hg:st'.h q with
    | none=>rfl
    | some row=>obtain ⟨ri,h3,_⟩:=hr.heap.rows _ _ hg;rw [hf q hq] at h3;cases h3
  obtain ⟨x,hn,ρ2,g2,hx,E⟩:=exK_ok (tv:=fun s=>a'.tmps.getD s undef) j.cs st'.nx st' k r ρ' st'.h he hr.heap (fun _ _ h=>h) hr.slots hf hhn
  let M:=st'.nx
  let L:=128 *j.cs.length
  let ρ'':Nat→Option RI:=fun q=>if q<b.nx then ρ q else if q<b.nx+L then ρ2 (M+(q - b.nx)) else none
  let φ:Nat→Nat:=fun q=>if q<b.nx then q else M+(q - b.nx)
  have hρ2:∀ q qi,ρ q=some qi→ρ2 q=some qi:=fun q qi hq=>E.ext _ _ (hext _ _ hq)
  have hlt:∀ q,ρ q≠none→q<b.nx:=fun q hq=>by
    rcases Nat.lt_or_ge q b.nx with h | h
    · exact h
    · exact absurd (hfb q h) hq
  have hρlow:∀ q,q<b.nx→ρ'' q=ρ q:=fun q hq=>by simp only [ρ'',hq,if_true]
  have hext2:∀ q qi,ρ q=some qi→ρ'' q=some qi:=fun q qi hq=>by rw [hρlow q (hlt q (by rw [hq];simp))];exact hq
  have hρhi:∀ o,o<L→ρ'' (b.nx+o)=ρ2 (M+o):=fun o ho=>by
    have h1:¬ (b.nx+o<b.nx):=by omega
    have h2:b.nx+o<b.nx+L:=by omega
    simp only [ρ'',h1,h2,if_false,if_true];congr 1;omega
  have hφlow:∀ q,q<b.nx→φ q=q:=fun q hq=>by simp only [φ,hq,if_true]
  have hφhi:∀ q,b.nx≤q→φ q=M+(q - b.nx):=fun q hq=>by
    have:¬ q<b.nx:=by omega
    simp only [φ,this,if_false]
  have hsl:CompsOk w' ρ2 (Bad outer ρ2 g2) g2 (fun s=>a'.tmps.getD s undef) b.s j.cs M x:=by
    refine CompsOk.slots j.cs M x (fun s t ow hm=>?_) E.ok
    have:=List.all_eq_true.1 hbox _ hm
    simp only [Bool.not_eq_true'] at this
    exact (hslots s this).symm
  -- the rows that stayed
  have hrest:∀ q row,restH j b q=some row→∃ row0,b.h q=some row0∧row0.c=row.c∧∃ row2,g2 q=some row2∧row2.c=row.c∧(row.m.isRo=false→row2.m.isRo=false):=fun q row hq=>by
    unfold restH at hq
    split at hq
    · rename_i c hc
      cases hi:inRows j.cs b q
      · simp only [hi,cond_false,Option.some.injEq] at hq
        subst hq
        have h1:(lockBut j b).h q=some ⟨c, .lock⟩:=by simp [lockBut,hc,hi]
        exact ⟨_,hc,rfl,_,E.lies _ _ (E.left (q+1) q _ (by omega) (hkeep q _ (hbn q _ hc).2 h1 rfl) rfl),rfl,fun _=>rfl⟩
      · simp [hi] at hq
    · rename_i hno
      obtain ⟨c,m⟩:=row
      have hm:m.isOwn=false:=by
        cases m with
        | own=>exact absurd hq (hno c)
        | ro=>rfl
        | lock=>rfl
      have hq':b.h q=some ⟨c,m⟩:=hq
      have h1:(lockBut j b).h q=some ⟨c,m⟩:=by
        simp only [lockBut,hq']
        cases m with
        | own=>cases hm
        | ro=>rfl
        | lock=>rfl
      exact ⟨_,hq,rfl,_,E.lies _ _ (E.left (q+1) q _ (by omega) (hkeep q _ (hbn q _ hq).2 h1 hm) hm),rfl,fun h=>h⟩
  have hrow:∀ q row,(install j b x).h q=some row→∃ row2,g2 (φ q)=some row2∧(row.m.isRo=false→row2.m.isRo=false)∧ρ'' q=ρ2 (φ q):=fun q row hq=>by
    rcases insH_row j.cs M b.nx x (restH j b) q row hsl hq with h1 | ⟨h1,h2,_,h4⟩ | ⟨o,ow,es,s,h1,h2,h3,h4,h5,h6⟩
    · obtain ⟨row0,k1,_,row2,k2,_,k3⟩:=hrest q row h1
      have hql:=(hbn q _ k1).2
      obtain ⟨ri,e1,_⟩:=hb.heap.rows q _ k1
      exact ⟨row2,by rw [hφlow q hql];exact k2,k3,by rw [hφlow q hql,hρlow q hql,e1,hρ2 q ri e1]⟩
    · refine ⟨row,by rw [hφhi q h1];exact h4,fun h=>h,?_⟩
      have:=hρhi (q - b.nx) (by omega)
      rw [show b.nx+(q - b.nx)=q by omega] at this
      rw [this,hφhi q h1]
    · have hqs:=hb.slots s
      rw [h6] at hqs
      obtain ⟨ri,e1,_⟩:=hqs.bp_inv
      have hql:=hlt q (by rw [e1];simp)
      exact ⟨_,by rw [hφlow q hql];exact h2,fun _=>rfl,by rw [hφlow q hql,hρlow q hql,e1,hρ2 q ri e1]⟩
  have hbad:∀ c,Bad outer ρ'' (install j b x).h c→Bad outer ρ2 g2 c:=by
    rintro c (hc | ⟨q,row,ri,f1,f2,f3,f4,f5⟩)
    · exact .inl hc
    · obtain ⟨row2,k1,k2,k3⟩:=hrow q row f1
      rw [k3] at f3
      exact .inr ⟨_,row2,ri,k1,k2 f2,f3,f4,f5⟩
  -- what is said ahead holds behind
  have keepB:∀ u d,VR w' ρ2 (Bad outer ρ2 g2) u d→RIn (fun q=>ρ q≠none) d→VR w' ρ'' (Bad outer ρ'' (install j b x).h) u d:=fun u d hu hS=>
    hu.keep hS (fun q qi hq h2=>by
      cases h3:ρ q with
      | none=>exact absurd h3 hq
      | some ri=>rw [hρ2 q ri h3] at h2;cases h2;exact hext2 q _ h3) (fun _ _ _=>rfl) fun c hc=> .inl (hbad c hc)
  have hH:HRel w0 outer own ρ'' (install j b x).h w':=by
    refine E.heap.sub φ E.heap.wx E.heap.old E.heap.outLt (fun q row hq=>?_) (fun q q' row row' h1 h2 h3=>?_)
    · obtain ⟨row2,k1,k2,k3⟩:=hrow q row hq
      obtain ⟨ri,e1,e2,e3⟩:=E.heap.rows _ _ k1
      refine ⟨row2,ri,k1,by rw [k3];exact e1,e1,?_,fun hn=>⟨(e3 hn).1.1,fun hm=>(e3 hn).1.2 (k2 hm)⟩⟩
      rcases insH_row j.cs M b.nx x (restH j b) q row hsl hq with h1 | ⟨h1,h2,⟨t,l,h3⟩,h4⟩ | ⟨o,ow,es,s,h1,h2,h3,h4,h5,h6⟩
      · obtain ⟨row0,f1,f2,row2',f3,f4,_⟩:=hrest q row h1
        have hql:=(hbn q _ f1).2
        rw [hφlow q hql,f3] at k1;cases k1
        rw [f4] at e2
        obtain ⟨rc,rm⟩:=row
        cases rc with
        | arr t l=>exact rowOk_closed e2 hbad ρ''
        | box cs=>
          obtain ⟨ri0,g1,g3,_⟩:=hb.heap.rows q _ f1
          rw [f2] at g3
          refine ⟨e2.1,fun i hi=>?_⟩
          obtain ⟨x1,y,x2,x3⟩:=e2.2 i hi
          obtain ⟨_,y0,_,y3⟩:=g3.2 i hi
          exact ⟨x1,y,x2,keepB _ _ x3 y3.refs⟩
      · subst h3
        rw [hφhi q h1,h4] at k1;cases k1
        exact rowOk_closed e2 hbad ρ''
      · have hqs:=hb.slots s
        rw [h6] at hqs
        obtain ⟨ri',e4,_⟩:=hqs.bp_inv
        have hql:=hlt q (by rw [e4];simp)
        rw [hφlow q hql,h2] at k1;cases k1
        subst h1
        refine ⟨e2.1,fun i hi=>?_⟩
        rw [thawL_len] at hi
        obtain ⟨x1,y,x2,x3⟩:=e2.2 i (by rw [thawL_len];exact hi)
        refine ⟨x1,y,x2,?_⟩
        have:=thawL_shift (w:=w') (ρ:=ρ2) (ρ2:=ρ'') (bad:=Bad outer ρ2 g2) (bad2:=Bad outer ρ'' (install j b x).h) ow (M+o) (b.nx+o) es 0 (fun i=>(w'.cell? (at_ ri.b i)).getD undef) (fun p _ hp _ _=>by
            rw [Nat.add_assoc,Nat.add_assoc];exact hρhi (o+p) (by omega)) h4 hbad (fun i hi=>by
            obtain ⟨_,y,x2,x3⟩:=e2.2 i hi
            rw [x2];exact x3) i (by rw [thawL_len];exact hi)
        rw [x2] at this;exact this
    · have cls:∀ q row,(install j b x).h q=some row→φ q=q∧q<b.nx∨b.nx≤q∧φ q=M+(q - b.nx):=fun q row _=>by
        rcases Nat.lt_or_ge q b.nx with h | h
        · exact .inl ⟨hφlow q h,h⟩
        · exact .inr ⟨h,hφhi q h⟩
      rcases cls q row h1 with ⟨c1,c2⟩ | ⟨c1,c2⟩ <;> rcases cls q' row' h2 with ⟨c3,c4⟩ | ⟨c3,c4⟩ <;> omega
  refine ⟨x,hx,ρ'',⟨hH,fun s=>?_,hr.size,hr.defers,hr.glob⟩,fun q hq=>?_,hext2,fun q row hqn hq hm=>?_⟩
  · show VR w' ρ'' _ _ (insS j.cs b.nx x (fun i=>bif inKill j.kill i then .undef else b.s i) s)
    rcases insS_val (fun i=>bif inKill j.kill i then .undef else b.s i) s j.cs M b.nx x hsl with ⟨h1,h2⟩ | ⟨h1,h2⟩ | ⟨o,h1,h2,h3⟩
    · rw [h2]
      cases hk:inKill j.kill s
      · simp only [cond_false]
        have hhas:j.has s=false:=by simp [JI.has,hk,h1]
        have hv:=E.keep _ _ (hr.slots s)
        rw [hslots s hhas] at hv
        exact keepB _ _ hv (hb.slots s).refs
      · simp only [cond_true];exact .undef _
    · exact (h1.noRef h2 ρ'').mono (fun _ _ h=>h) (fun _ _ _=>rfl) fun c hc=> .inl (hbad c hc)
    · rw [h1]
      have hq:=hρhi o h3
      have h2:VR w' ρ2 (Bad outer ρ2 g2) (a'.tmps.getD s undef) (.ow (M+o)):=h2
      generalize a'.tmps.getD s undef=T at h2 ⊢
      cases h2 with
      | ow _ ri e1 e2 e3 e4=>exact .ow _ ri (by rw [hq];exact e1) e2 e3 e4
      | owN _ ri ao e1 e2 e3=>exact .owN _ ri ao (by rw [hq];exact e1) e2 e3
  · have h1:¬ q<b.nx:=by simp only [install] at hq;omega
    have h2:¬ q<b.nx+L:=by simp only [install] at hq;omega
    simp only [ρ'',h1,h2,if_false]
  · have h1:(lockBut j b).h q=some row:=by
      simp only [lockBut,hq]
      obtain ⟨c,m⟩:=row
      cases m with
      | own=>cases hm
      | ro=>rfl
      | lock=>rfl
    have h2:restH j b q=some row:=by
      simp only [restH,hq]
      obtain ⟨c,m⟩:=row
      cases m with
      | own=>cases hm
      | ro=>rfl
      | lock=>rfl
    have h3:g2 q=some row:=E.lies _ _ (E.left (q+1) q _ (by omega) (hkeep q _ hqn h1 hm) hm)
    obtain ⟨row',h4⟩:=insH_some b.s j.cs b.nx x _ q row h2
    show insH b.s j.cs b.nx x (restH j b) q=some row
    rcases insH_row j.cs M b.nx x (restH j b) q row' hsl h4 with h5 | ⟨h5,_⟩ | ⟨o,ow,es,s,h5,h6,_⟩
    · rw [h2] at h5;cases h5;exact h4
    · omega
    · rw [h3] at h6;cases h6;cases hm
end
end Go.D
namespace Go.D
section
variable {C:Cx} {w0:World} {outer own:Nat→Prop} {ρ:Nat→Option RI} {st st' b:St} {a:Act} {w:World} {R:Type} {j:JI}
theorem lock_less (j:JI) (st:St):LessH (lockBut j st).h st.h:=fun r row' hr=>by
  simp only [lockBut] at hr
  split at hr
  · rename_i c hc
    cases hi:inRows j.cs st r
    · simp only [hi,cond_false,Option.some.injEq] at hr;subst hr;exact ⟨_,hc,rfl,fun _=>rfl⟩
    · simp only [hi,cond_true,Option.some.injEq] at hr;subst hr;exact ⟨_,hc,rfl,fun _=>rfl⟩
  · exact ⟨row',hr,rfl,id⟩
theorem unlock_less (b st:St):LessH (unlock b st).h st.h:=fun r row' hr=>by
  simp only [unlock] at hr
  split at hr
  · rename_i c hc
    split at hr
    · cases hr;exact ⟨_,hc,rfl,fun _=>rfl⟩
    · cases hr;exact ⟨_,hc,rfl,fun _=>rfl⟩
  · exact ⟨row',hr,rfl,id⟩
theorem Rel.lock (hr:Rel C w0 outer own ρ st a w) (j:JI):Rel C w0 outer own ρ (lockBut j st) a w:=by
  obtain ⟨h1,h2⟩:=hr.heap.less (lock_less j st)
  exact ⟨h1,fun i=>h2 _ _ (hr.slots i),hr.size,hr.defers,hr.glob⟩
theorem Rel.unlock (hr:Rel C w0 outer own ρ st a w) (b:St):Rel C w0 outer own ρ (Go.D.unlock b st) a w:=by
  obtain ⟨h1,h2⟩:=hr.heap.less (unlock_less b st)
  exact ⟨h1,fun i=>h2 _ _ (hr.slots i),hr.size,hr.defers,hr.glob⟩
theorem keeps_unlock {n:Nat} (hk:Keeps n (lockBut j b).h st'.h):Keeps n b.h (unlock b st').h:=fun r row hn hr hm=>by
  have h1:(lockBut j b).h r=some row:=by
    simp only [lockBut,hr]
    obtain ⟨c,m⟩:=row
    cases m with
    | own=>cases hm
    | ro=>rfl
    | lock=>rfl
  have h2:=hk r row hn h1 hm
  simp only [unlock,h2,hr]
  obtain ⟨c,m⟩:=row
  cases m with
  | own=>cases hm
  | ro=>rfl
  | lock=>rfl
theorem insS_else (f:Nat→V) (s:Nat):∀ (cs:List Comp) (id:Nat) (x:Tup cs),isSlot cs s=false→insS cs id x f s=f s:=by
  have one:∀ (c:Comp) (r:List Comp) (id:Nat) (x:c.T) (f:Nat→V),isSlot (c :: r) s=false→isSlot r s=false∧insS1 c id x f s=f s:=by
    intro c r id x f h
    cases c with
    | slot s' ty=>
      simp only [isSlot,Bool.or_eq_false_iff] at h
      refine ⟨h.2,upd_other _ _ _ _ ?_⟩
      rintro rfl;simp at h
    | own s' t=>
      simp only [isSlot,Bool.or_eq_false_iff] at h
      refine ⟨h.2,upd_other _ _ _ _ ?_⟩
      rintro rfl;simp at h
    | box s' t ow=>exact ⟨h,rfl⟩
  intro cs
  induction cs with
  | nil=>intro id x _;rfl
  | cons c cs ih=>
    intro id x h
    cases cs with
    | nil=>exact (one c [] id x f h).2
    | cons d r=>
      obtain ⟨h1,h2⟩:=one c (d :: r) id x.1 (insS (d :: r) (id+128) x.2 f) h
      simp only [insS];rw [h2];exact ih (id+128) x.2 h1
theorem install_slots (j:JI) (b:St) (x:Tup j.cs) (s:Nat) (h:j.has s=false):(install j b x).s s=b.s s:=by
  simp only [JI.has,Bool.or_eq_false_iff] at h
  show insS j.cs b.nx x _ s=_
  rw [insS_else _ _ _ _ _ h.2,h.1];rfl
end
end Go.D
namespace Go.D
structure Goes (C:Cx) (w0:World) (outer own:Nat→Prop) (D:Nat→Prop) (st:St) (ρ:Nat→Option RI) (st':St) (a':Act) (w':World) (ρ':Nat→Option RI):Prop where
  rel:Rel C w0 outer own ρ' st' a' w'
  ext:∀ q qi,ρ q=some qi→ρ' q=some qi
  slots:∀ s,¬ D s→st'.s s=st.s s
  keeps:Keeps st.nx st.h st'.h
  nx:st.nx≤st'.nx
  fresh:∀ q,st'.nx≤q→ρ' q=none
section
variable {C:Cx} {w0:World} {outer own D:Nat→Prop} {R:Type}
theorem vr_tup0 {w:World} {ρ:Nat→Option RI} {bad:Nat→Prop} {v:Value} (h:VR w ρ bad v (.tup [])):v=undef:=by
  cases h with
  | tup _ vs hs hv=>
    have:vs= #[]:=by simpa using hs
    subst this;rfl
theorem yielded_of {ops:Array Oper} {tmps:Array Value} {j dj:Nat} (h:(ops[j]?).bind (·.dst)=some dj) (hlt:dj<tmps.size):
    yielded ops tmps j=match tmps.getD dj undef with | .bool b=>some b | _=>none:=by
  unfold yielded
  rw [h]
  simp only [Option.bind_some,Array.getElem?_eq_getElem hlt,Array.getD_eq_getD_getElem?,Option.getD_some]
  split <;> split <;> simp_all
theorem drop_zip (ops:Array Oper) {k:Nat} (hk:k<ops.size):zipFrom k (ops.toList.drop k)=(k,ops[k]) :: zipFrom (k+1) (ops.toList.drop (k+1)):=by
  rw [List.drop_eq_getElem_cons (by simpa using hk)];rfl
theorem upd_self (f:Nat→V) (i:Nat) (v:V) (h:f i=v):upd f i v=f:=by
  funext q
  by_cases hq:q=i
  · subst hq;rw [upd_same,h]
  · rw [upd_other _ _ _ _ hq]
theorem runG_ok (hC:TnOk C) (hΦ:PhiOk C) {ops:Array Oper} {Q:Exit→Act→World→Prop} {K:St→Option R} {r:R} (nx:Nat) (hD:∀ o ∈ ops,∀ d,o.dst=some d→D d):∀ (m k:Nat) (st:St) (a:Act) (w:World) (ρ:Nat→Option RI),
    k+m=ops.size→Rel C w0 outer own ρ st a w→(∀ q,nx+128 *k≤q→ρ q=none)→runG C ops nx (zipFrom k (ops.toList.drop k)) st K=some r→
    (∀ st' a' w' ρ',Rel C w0 outer own ρ' st' a' w'→(∀ q,nx+128 *ops.size≤q→ρ' q=none)→(∀ q qi,ρ q=some qi→ρ' q=some qi)→(∀ s,¬ D s→st'.s s=st.s s)→Keeps nx st.h st'.h→st'.nx=st.nx→
      K st'=some r→Q .normal a' w')→wpOps C.P ops Q (List.range' k m) a w
  | 0,k,st,a,w,ρ,hk,hr,hf,hrun,hpost=>by
    have:ops.toList.drop k=[]:=List.drop_eq_nil_of_le (by simp;omega)
    rw [this] at hrun
    exact hpost st a w ρ hr (fun q hq=>hf q (by omega)) (fun _ _ h=>h) (fun _ _=>rfl) (Keeps.refl _ _) rfl hrun
  | m+1,k,st,a,w,ρ,hk,hr,hf,hrun,hpost=>by
    have hlt:k<ops.size:=by omega
    have ho:ops[k]?=some ops[k]:=Array.getElem?_eq_getElem hlt
    rw [drop_zip ops hlt] at hrun
    rw [List.range'_succ]
    simp only [wpOps,ho]
    have hDk:∀ d,(ops[k]).dst=some d→D d:=hD _ (Array.getElem_mem hlt)
    -- a step
    have step:∀ (st0:St),Rel C w0 outer own ρ st0 a w→st0.h=st.h→st0.nx=st.nx→(∀ s,¬ D s→st0.s s=st.s s)→(stepK C (nx+128 *k) ops[k] st0 fun st'=>runG C ops nx (zipFrom (k+1) (ops.toList.drop (k+1))) st' K)=some r→
        (ops[k]).wp C.P a w (wpOps C.P ops Q (List.range' (k+1) m)) Q:=by
      intro st0 hr0 hh0 hnx0 hs0 hrun
      rw [stepK_nat] at hrun
      obtain ⟨st1,h1,h2⟩:=Option.bind_eq_some_iff.1 hrun
      have L:=stepK_left (n:=nx) (i:=nx+128 *k) (by omega) ops[k] st1 h1
      refine step_ok hr0 hC hΦ ⟨_,hf⟩ (fun q _=>hf _ (by omega)) h1 _ Q fun a1 w1 hA=>?_
      obtain ⟨ρ1,hr1,hE,hx⟩:=hA
      refine runG_ok hC hΦ nx hD m (k+1) st1 a1 w1 ρ1 (by omega) hr1 (fun q hq=>by rw [hE q (by omega)];exact hf q (by omega)) h2 fun st' a' w' ρ' p1 p2 p3 p4 p5 p6 p7=>?_
      refine hpost st' a' w' ρ' p1 p2 (fun q qi hq=>p3 _ _ (hx q qi hq)) (fun s hs=>?_) ?_ (p6.trans (L.nx.trans hnx0)) p7
      · rw [p4 s hs,L.slots s (fun e=>hs (hDk s e)),hs0 s hs]
      · rw [← hh0];exact L.rows.trans p5
    have skip:(putK C (ops[k]).dst st (.tup []) fun st'=>runG C ops nx (zipFrom (k+1) (ops.toList.drop (k+1))) st' K)=some r→wpOps C.P ops Q (List.range' (k+1) m) (a.put (ops[k]).dst undef) w:=by
      intro hrun
      rw [putK_nat] at hrun
      obtain ⟨st1,h1,h2⟩:=Option.bind_eq_some_iff.1 hrun
      have L:=all_put0 (π:=fun r=>r<nx) (V.tup []) st1 h1
      obtain ⟨p1,_,_⟩:=hr.put (v:=undef) (d:= .tup []) (.tup [] #[] rfl fun j hj=>by simp at hj) h1
      refine runG_ok hC hΦ nx hD m (k+1) st1 _ w ρ (by omega) p1 (fun q hq=>hf q (by omega)) h2 fun st' a' w' ρ' q1 q2 q3 q4 q5 q6 q7=>?_
      refine hpost st' a' w' ρ' q1 q2 q3 (fun s hs=>?_) (L.rows.trans q5) (q6.trans L.nx) q7
      rw [q4 s hs,L.slots s (fun e=>hs (hDk s e))]
    simp only [runG] at hrun
    split at hrun
    · rename_i hg
      rw [if_pos (by simp [Region.wanted,hg])]
      exact .inl (step st hr rfl rfl (fun _ _=>rfl) hrun)
    · rename_i j want hg
      split at hrun
      · cases hrun
      rename_i dj hdj
      have hDj:D dj:=by
        obtain ⟨oj,h1,h2⟩:=Option.bind_eq_some_iff.1 hdj
        exact hD oj (Array.mem_of_getElem? h1) dj h2
      have hv:=hr.slots dj
      have hyn:∀ v,a.tmps.getD dj undef=v→(∀ b,v≠ .bool b)→yielded ops a.tmps j=none:=fun v hv hn=>by
        unfold yielded
        rw [hdj]
        simp only [Option.bind_some]
        split
        · rename_i b hb
          rw [Array.getD_eq_getD_getElem?,hb] at hv
          exact absurd hv.symm (hn b)
        · rfl
      split at hrun
      · rename_i hs
        rw [hs] at hv
        have hy:=hyn _ (vr_tup0 hv) (fun b h=>by cases h)
        rw [if_neg (by simp [Region.wanted,hg,hy])]
        exact skip hrun
      · rename_i t hs
        rw [hs] at hv
        have hb:a.tmps.getD dj undef= .bool t:=by
          generalize a.tmps.getD dj undef=v at hv;cases hv;rfl
        have hlt2:dj<a.tmps.size:=by
          rcases Nat.lt_or_ge dj a.tmps.size with h | h
          · exact h
          · rw [Array.getD_eq_getD_getElem?,Array.getElem?_eq_none h] at hb;cases hb
        have hy:yielded ops a.tmps j=some t:=by rw [yielded_of hdj hlt2,hb]
        have hself:({ st with s:=upd st.s dj (.bool t) }:St)=st:=by rw [upd_self _ _ _ hs]
        have hw:Region.wanted ops[k] (yielded ops a.tmps)=(t==want):=by
          simp only [Region.wanted,hg,hy];cases t <;> cases want <;> rfl
        rw [hw]
        have hrun:(bif t==want then stepK C (nx+128 *k) ops[k] { st with s:=upd st.s dj (.bool t) } fun st'=>runG C ops nx (zipFrom (k+1) (ops.toList.drop (k+1))) st' K
            else putK C (ops[k]).dst { st with s:=upd st.s dj (.bool t) } (.tup []) fun st'=>runG C ops nx (zipFrom (k+1) (ops.toList.drop (k+1))) st' K)=some r:=by
          cases t <;> exact hrun
        rw [hself] at hrun
        cases htw:t==want
        · rw [htw] at hrun;simp only [Bool.false_eq_true,if_false];exact skip hrun
        · rw [htw] at hrun;simp only [if_true];exact .inl (step st hr rfl rfl (fun _ _=>rfl) hrun)
      · cases hrun
end
end Go.D
namespace Go.D
def JD (D:Nat→Prop):Option JI→Prop
  | none=>True
  | some j=>∀ s,j.has s=true→D s
def Touch (an:An) (D:Nat→Prop):Code→Prop
  | .region id ops _=>(∀ o ∈ ops,∀ d,o.dst=some d→D d)∧JD D (look id an.r)
  | .seq a b=>Touch an D a∧Touch an D b
  | .cond (.tmp t) a b=>Touch an D a∧Touch an D b∧JD D (look (condKey t a b) an.c)
  | .cond _ a b=>Touch an D a∧Touch an D b
  | .block id b=>Touch an D b∧JD D (look id an.b)
  | .loop b=>Touch an D b∧match firstRegion b with
    | some rid=>JD D (look rid an.l)
    | none=>True
  | .scope b=>Touch an D b
  | _=>True
theorem isSlot_mem:∀ (cs:List Comp) (s:Nat),isSlot cs s=true→∃ c ∈ cs,(∃ ty,c= .slot s ty)∨∃ t,c= .own s t
  | [],s,h=>by simp [isSlot] at h
  | .slot s' ty :: r,s,h=>by
    simp only [isSlot,Bool.or_eq_true] at h
    rcases h with h | h
    · have:=Nat.eq_of_beq_eq_true h;subst this;exact ⟨_,by simp, .inl ⟨ty,rfl⟩⟩
    · obtain ⟨c,h1,h2⟩:=isSlot_mem r s h;exact ⟨c,by simp [h1],h2⟩
  | .own s' t :: r,s,h=>by
    simp only [isSlot,Bool.or_eq_true] at h
    rcases h with h | h
    · have:=Nat.eq_of_beq_eq_true h;subst this;exact ⟨_,by simp, .inr ⟨t,rfl⟩⟩
    · obtain ⟨c,h1,h2⟩:=isSlot_mem r s h;exact ⟨c,by simp [h1],h2⟩
  | .box s' t ow :: r,s,h=>by
    obtain ⟨c,h1,h2⟩:=isSlot_mem r s h;exact ⟨c,by simp [h1],h2⟩
theorem fits_jd (j:JI) (o:Option JI) (h:fits j o=true):JD (fun s=>j.has s=true) o:=by
  cases o with
  | none=>trivial
  | some i=>
    simp only [fits,Bool.and_eq_true,List.all_eq_true] at h
    intro s hs
    simp only [JI.has,Bool.or_eq_true] at hs
    rcases hs with hs | hs
    · obtain ⟨p,hp,hps⟩:=List.any_eq_true.1 hs
      simp only [Bool.and_eq_true,Nat.ble_eq] at hps
      have h1:=h.1 p hp
      simp only [subKill,Bool.or_eq_true,Bool.and_eq_true] at h1
      rcases h1 with h1 | ⟨h1,h2⟩
      · obtain ⟨q,hq,hqs⟩:=List.any_eq_true.1 h1
        simp only [Bool.and_eq_true,Nat.ble_eq] at hqs
        have:inKill j.kill s=true:=List.any_eq_true.2 ⟨q,hq,by simp only [Bool.and_eq_true,Nat.ble_eq];omega⟩
        simp [JI.has,this]
      · have:=Nat.eq_of_beq_eq_true h1
        have hsp:s=p.1:=by omega
        subst hsp;simp [JI.has,h2]
    · obtain ⟨c,h1,h2⟩:=isSlot_mem _ _ hs
      have h3:=h.2 c h1
      rcases h2 with ⟨ty,rfl⟩ | ⟨t,rfl⟩ <;> exact h3
theorem within_touch (an:An) (j:JI):∀ (c:Code),Code.within an j c=true→Touch an (fun s=>j.has s=true) c
  | .region id ops d,h=>by
    simp only [Code.within,Bool.and_eq_true,List.all_eq_true] at h
    refine ⟨fun o ho d hd=>?_,fits_jd j _ h.2⟩
    have:=h.1 o (by simpa using ho)
    rw [hd] at this;exact this
  | .seq a b,h=>by
    simp only [Code.within,Bool.and_eq_true] at h
    exact ⟨within_touch an j a h.1,within_touch an j b h.2⟩
  | .cond c a b,h=>by
    cases c with
    | tmp t=>
      simp only [Code.within,Bool.and_eq_true] at h
      exact ⟨within_touch an j a h.1.1,within_touch an j b h.1.2,fits_jd j _ h.2⟩
    | _=>
      simp only [Code.within,Bool.and_eq_true] at h
      exact ⟨within_touch an j a h.1,within_touch an j b h.2⟩
  | .block id b,h=>by
    simp only [Code.within,Bool.and_eq_true] at h
    exact ⟨within_touch an j b h.1,fits_jd j _ h.2⟩
  | .loop b,h=>by
    simp only [Code.within,Bool.and_eq_true] at h
    refine ⟨within_touch an j b h.1,?_⟩
    have h2:=h.2
    split
    · rename_i rid hr
      rw [hr] at h2;exact fits_jd j _ h2
    · trivial
  | .scope b,h=>within_touch an j b h
  | .skip,_=>trivial
  | .exit _,_=>trivial
  | .ret,_=>trivial
  | .label _,_=>trivial
  | .goto _,_=>trivial
  | .refuse _,_=>trivial
  | .rangeFunc _ _ _ _,_=>trivial
end Go.D

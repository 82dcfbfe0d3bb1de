/-
 The plain semantics of whole bodies: regions, branches that meet again, loops. What meets again meets by a tuple of plain data.
-/
import Derived.Test.YthmhafeaiaigoaaGreatL4
set_option linter.all false
namespace Go.D
open Option renaming bind→ob
noncomputable section
variable [jA]
inductive Ty where
 | v (t:TN)
 | sl (t:TN)
 | raw
 | cells (t:TN)
  | pt (t:TN)
  | c1 (g:Nat) (t:TN)
 | p1 (g:Nat) (t:TN)
 | c2 (g h:Nat) (t:TN)
@[reducible] def Ty.T:Ty→Type
 | .v t=>El t
 | .sl t=>List (El t)
 | .raw=>V
 | .cells t=>El t
 | .pt t=>El t
 | .c1 _ t=>El t
 | .p1 _ t=>El t
 | .c2 _ _ t=>El t×El t
def uK(t:TN)(a:El t):V:=bif t.isAgg then .agg (enc t a)else match enc t a with
 | c :: _=>c
 | []=> .undef
def YC:(t:Ty)→t.T→V
 | .v t,a=>uK t a
 | .sl t,l=> .sl t l
 | .raw,v=>v
 | .cells t,a=> .agg (enc t a)
 | .pt t,a=> .fp (enc t a) 0
 | .c1 g t,a=> .fn g [.fp (enc t a) 0]
 | .p1 g t,a=> .fp [.fn g [.fp (enc t a) 0]] 0
 | .c2 g h t,a=> .fn g [.fp [.fn h [.fp (enc t a.1) 0]] 0, .fp (enc t a.2) 0]
def oE:(t:Ty)→V→Option t.T
 | .v t,v=>match v with
  | .agg cs=>bif t.isAgg then oF t cs else none
  | v=>bif t.isAgg then none else oF t [v]
 | .sl t,v=>WA t v
 | .raw,v=>some v
 | .cells t,v=>match v with
  | .agg cs=>oF t cs
  | _=>none
 | .pt t,v=>match v with
  | .fp cs 0=>oF t cs
  | _=>none
 | .c1 g t,v=>match v with
  | .fn g' [.fp cs 0]=>bif Nat.beq g' g then oF t cs else none
  | _=>none
 | .p1 g t,v=>match v with
  | .fp [.fn g' [.fp cs 0]] 0=>bif Nat.beq g' g then oF t cs else none
  | _=>none
 | .c2 g h t,v=>match v with
  | .fn g' [.fp [.fn h' [.fp cs 0]] 0, .fp ds 0]=>bif Nat.beq g' g&&Nat.beq h' h then ob (oF t cs) λx=>ob (oF t ds) λy=>some (x,y)else none
  | _=>none
inductive lC where
 | slot (s:Nat) (ty:Ty)
 | own (s:Nat) (t:TN)
 | box (s:Nat) (t:TN) (own:List Nat)
  | drop (s:Nat)
@[reducible] def lC.T:lC→Type
 | .slot _ ty=>ty.T
 | .own _ t=>List (El t)
 | .box _ t _=>El t
 | .drop _=>Unit
@[reducible] def ND:List lC→Type
 | []=>Unit
 | [c]=>c.T
 | c :: d :: r=>c.T×ND (d :: r)
@[reducible] def fB:List Ty→Type
 | []=>Unit
 | [c]=>c.T
 | c :: d :: r=>c.T×fB (d :: r)
def yD:(ts:List Ty)→List V→Option (fB ts)
 | [],[]=>some ()
 | [t],[v]=>oE t v
 | t :: d :: r,v :: vs=>ob (oE t v) λx=>ob (yD (d :: r) vs) λy=>some (x,y)
 | _,_=>none
def iB:(ts:List Ty)→fB ts→List V
 | [],_=>[]
 | [t],x=>[YC t x]
 | t :: d :: r,x=>YC t x.1 :: iB (d :: r) x.2
def zec:(t:Ty)→t.T→List V
 | .v t,a=>enc t a
 | .sl t,l=>[.sl t l]
 | .raw,v=>[v]
 | .cells t,a=>enc t a
 | .pt t,a=>[.fp (enc t a) 0]
 | .c1 g t,a=>[.fn g [.fp (enc t a) 0]]
 | .p1 g t,a=>[.fp [.fn g [.fp (enc t a) 0]] 0]
 | .c2 g h t,a=>[.fn g [.fp [.fn h [.fp (enc t a.1) 0]] 0, .fp (enc t a.2) 0]]
def wE:(ts:List Ty)→fB ts→List V
 | [],_=>[]
 | [t],x=>zec t x
 | t :: d :: r,x=>zec t x.1++wE (d :: r) x.2
def HH:(t:Ty)→List V→Option (t.T×List V)
 | .v t,vs=>(oF t (vs.take (sz t))).bind λa=>some (a,vs.drop (sz t))
 | .sl t,v :: vs=>(WA t v).bind λl=>some (l,vs)
 | .sl _,[]=>none
 | .raw,v :: vs=>some (v,vs)
 | .raw,[]=>none
 | .cells t,vs=>(oF t (vs.take (sz t))).bind λa=>some (a,vs.drop (sz t))
 | .pt _,_=>none
 | .c1 _ _,_=>none
 | .p1 _ _,_=>none
 | .c2 _ _ _,_=>none
def jJ:(ts:List Ty)→List V→Option (fB ts)
 | [],[]=>some ()
 | [t],vs=>(HH t vs).bind λx=>match x.2 with
  | []=>some x.1
  | _=>none
 | t :: d :: r,vs=>(HH t vs).bind λx=>(jJ (d :: r) x.2).bind λy=>some (x.1,y)
 | [],_ :: _=>none
structure JI where
 cs:List lC
 kill:List (Nat×Nat)
 pre:List Nat
structure An where
 c:List (Nat×JI)
 b:List (Nat×JI)
 l:List (Nat×JI)
 r:List (Nat×JI)
 d:List (Nat×List Nat)
inductive Ex where
 | normal
 | exit (id:Nat)
 | ret
def FU:Nat:=Classical.choose (⟨2^64,rfl⟩:∃n:Nat,n=2^64)
omit [jA]in
def zhl:FU=2^64:=Classical.choose_spec (⟨2^64,rfl⟩:∃n:Nat,n=2^64)
section
variable {R:Type}
def tA{σ:Type}:Nat→(σ→(σ→Option R)→Option R)→σ→Option R
 | 0,_,_=>none
 | n+1,f,x=>f x (tA n f)
def aA{σ:Type}(k:σ→Option R)(b:(σ→Option R)→Option R):Option R:=b k
def UC{α:Type}(k:Nat):List (Nat×α)→Option α
 | []=>none
 | (j,x) :: r=>bif Nat.beq j k then some x else UC k r
def GT:(c:lC)→St→(c.T→St→Option R)→Option R
 | .slot s ty,st,k=>match uH st.h (st.s s)with
  | some (v,ids)=>ob (oE ty v) λx=>k x {st with h:=BC st.h ids}
  | none=>none
 | .own s t,st,k=>match VS st.h t (st.s s)with
  | some (l,r)=>k l {st with h:=PO st.h r}
  | none=>none
 | .box s t own,st,k=>match st.s s with
  | .bp r 0=>match st.h r with
   | some ⟨.box cs, .own⟩=>match bE own 0 cs (AA st.h r none)with
    | some (cs',h')=>ob (oF t cs') λx=>k x {st with h:=h'}
    | none=>none
   | _=>none
  | _=>none
 | .drop _,st,k=>k () st
def ZG:(cs:List lC)→St→(ND cs→Option R)→Option R
 | [],_,k=>k ()
 | [c],st,k=>GT c st λx _=>k x
 | c :: d :: r,st,k=>GT c st λx st'=>ZG (d :: r) st' λy=>k (x,y)
def xL:V→Option Nat
 | .ow r=>some r
 | .ov r _ _ _=>some r
 | _=>none
def tI:(c:lC)→Nat→c.T→(Nat→V)→Nat→V
 | .slot s ty,_,x,f=>AA f s (YC ty x)
 | .own s _,id,_,f=>AA f s (.ow id)
 | .box ..,_,_,f=>f
 | .drop _,_,_,f=>f
def WG:(cs:List lC)→Nat→ND cs→(Nat→V)→Nat→V
 | [],_,_,f=>f
 | [c],id,x,f=>tI c id x f
 | c :: d :: r,id,x,f=>tI c id x.1 (WG (d :: r) (id+128) x.2 f)
def rK(sl:Nat→V):(c:lC)→Nat→c.T→(Nat→Option vA)→Nat→Option vA
 | .slot ..,_,_,h=>h
 | .own _ t,id,x,h=>AA h id (some ⟨.arr t x, .own⟩)
 | .box s t own,id,x,h=>match sl s with
  | .bp r 0=>AA (bB own id h 0 (enc t x)) r (some ⟨.box (RA own id 0 (enc t x)), .own⟩)
  | _=>h
 | .drop _,_,_,h=>h
def UO(sl:Nat→V):(cs:List lC)→Nat→ND cs→(Nat→Option vA)→Nat→Option vA
 | [],_,_,h=>h
 | [c],id,x,h=>rK sl c id x h
 | c :: d :: r,id,x,h=>rK sl c id x.1 (UO sl (d :: r) (id+128) x.2 h)
def LO(kill:List (Nat×Nat))(i:Nat):Bool:=kill.any λp=>Nat.ble p.1 i&&Nat.ble i p.2
def nE:List lC→Nat→Bool
 | [],_=>false
 | .slot s _ :: r,i=>Nat.beq s i||nE r i
 | .own s _ :: r,i=>Nat.beq s i||nE r i
 | .box .. :: r,i=>nE r i
 | .drop _ :: r,i=>nE r i
def fJ(st:St)(r:Nat):lC→Bool
 | .slot .. =>false
 | .own s _=>match xL (st.s s)with | some r'=>Nat.beq r r' | none=>false
 | .box s _ _ | .drop s=>match st.s s with
  | .bp b 0=>Nat.beq r b||match st.h b with
   | some ⟨.box cs,_⟩=>cs.any λc=>match xL c with | some r'=>Nat.beq r r' | none=>false
   | _=>false
  | _=>false
def uL(cs:List lC)(st:St)(r:Nat):Bool:=cs.any (fJ st r)
def QH(j:JI)(base:St):Nat→Option vA:=λr=>match base.h r with
 | some ⟨c, .own⟩=>bif uL j.cs base r then none else some ⟨c, .own⟩
 | x=>x
def install(j:JI)(base:St)(x:ND j.cs):St:=
 { s:=WG j.cs base.nx x fun i=>bif LO j.kill i then .undef else base.s i
   h:=UO base.s j.cs base.nx x (QH j base)
   nx:=base.nx+128 *j.cs.length}
def lD(j:JI)(st:St):St:=
 { st with h:=fun r=>match st.h r with
   | some ⟨c, .own⟩=>bif uL j.cs st r then some ⟨c, .own⟩else some ⟨c, .lock⟩
   | x=>x}
def unlock(base st:St):St:=
 { st with h:=fun r=>match st.h r with
   | some ⟨c, .lock⟩=>match base.h r with
    | some ⟨_, .own⟩=>some ⟨c, .own⟩
    | _=>some ⟨c, .lock⟩
   | x=>x}
def zhi(st:St)(s:Nat):Option (List Nat):=
 bif Nat.ble 1000000 s then
  match st.s (s - 1000000)with
  | .bp r _=>match st.h r with
   | some ⟨.box cs,_⟩=>match bG st.h cs with
    | some (_,ids)=>some ids
    | none=>none
   | _=>none
  | _=>none
 else match uH st.h (st.s s)with
  | some (_,ids)=>some ids
  | none=>none
def tK(pre:List Nat)(st:St):Option St:=
 match pre with
 | []=>some st
 | s :: r=>match zhi st s with
  | some ids=>tK r {st with h:=BC st.h ids}
  | none=>none
def JK:Code→Option Nat
 | .region id _ _=>some id
 | .seq a b=>match JK a with
  | some i=>some i
  | none=>JK b
 | .cond _ a _=>JK a
 | .block _ b | .loop b | .scope b=>JK b
 | _=>none
def zg1(t:Nat)(a b:Code):Nat:=t *65536+match JK a with
 | some i=>i+1
 | none=>match JK b with
  | some i=>i+1
  | none=>0
def JI.has(j:JI)(i:Nat):Bool:=LO j.kill i||nE j.cs i
def zl3(kill:List (Nat×Nat))(j:JI)(p:Nat×Nat):Bool:=kill.any (λq=>Nat.ble q.1 p.1&&Nat.ble p.2 q.2)||(Nat.beq p.1 p.2&&nE j.cs p.1)
def zxf(j:JI):lC→Bool
 | .slot s _=>j.has s
 | .own s _=>j.has s
 | .box .. | .drop _=>true
def fits(j:JI):Option JI→Bool
 | none=>true
 | some i=>i.kill.all (zl3 j.kill j)&&i.cs.all (zxf j)
def Code.within(an:An)(j:JI):Code→Bool
 | .region id ops _=>ops.toList.all (λo=>match o.dst with | some d=>j.has d | none=>true)&&fits j (UC id an.r)
 | .seq a b=>Code.within an j a&&Code.within an j b
 | .cond (.tmp t) a b=>Code.within an j a&&Code.within an j b&&fits j (UC (zg1 t a b) an.c)
 | .cond _ a b=>Code.within an j a&&Code.within an j b
 | .block id b=>Code.within an j b&&fits j (UC id an.b)
 | .loop b=>Code.within an j b&&match JK b with
  | some rid=>fits j (UC rid an.l)
  | none=>true
 | .scope b=>Code.within an j b
 | _=>true
def CS(j:JI):Bool:=j.cs.all λc=>match c with
 | .box s _ _ | .drop s=>!(j.has s)
 | _=>true
def fI:List lC→Bool
 | []=>true
 | .slot s _ :: r=>!(nE r s)&&fI r
 | .own s _ :: r=>!(nE r s)&&fI r
 | .box .. :: r=>fI r
 | .drop _ :: r=>fI r
def kH(an:An)(j:JI)(c:Code):Bool:=Code.within an j c&&CS j&&fI j.cs
variable (C:Cx)
def xJ(ops:Array Oper)(nx:Nat):List (Nat×Oper)→St→(St→Option R)→Option R
 | [],st,K=>K st
 | (i,o) :: rest,st,K=>
  match o.guard with
  | none=>qB C (nx+128 *i) o st λst'=>xJ ops nx rest st' K
  | some (j,want)=>match(ops[j]?).bind (·.dst)with
   | none=>none
   | some dj=>match st.s dj with
    | .tup []=>VA C o.dst st (.tup []) λst'=>xJ ops nx rest st' K
    | .bool t=>
     let G:Bool→Option R:=λb=>
      let st:={st with s:=AA st.s dj (.bool b)}
      gd (b==want) (qB C (nx+128 *i) o st λst'=>xJ ops nx rest st' K) (VA C o.dst st (.tup []) λst'=>xJ ops nx rest st' K)
     cond t (G true) (G false)
    | _=>none
def JF{α:Type}:Nat→List α→List (Nat×α)
 | _,[]=>[]
 | i,x :: r=>(i,x) :: JF (i+1) r
structure zD where
 i:Nat
 dst:Option Nat
 ls:List Nat
 rd:List Nat
 wr:List Nat
def WE(r:Nat)(l:List Nat):Bool:=l.any (Nat.beq r)
def zad:Option vA→Option vA
 | some ⟨c, .own⟩=>some ⟨c, .lock⟩
 | x=>x
def yG(rd wr:List Nat)(h:Nat→Option vA):Nat→Option vA:=λr=>bif WE r wr then h r else bif WE r rd then zad (h r)else none
def CL(ls:List Nat)(s:Nat→V):Nat→V:=λt=>bif WE t ls then s t else .undef
def nI(b r:Nat):Bool:=Nat.ble b r&&Nat.blt r (b+128)
def EL(b:Nat)(wr:List Nat)(h h':Nat→Option vA):Nat→Option vA:=λr=>bif WE r wr||nI b r then h' r else h r
def fN(dst:Option Nat)(s s':Nat→V):Nat→V:=match dst with
 | none=>s
 | some d=>AA s d (s' d)
def TF(b:Nat)(o:Oper)(ls rd wr:List Nat)(st:St)(K:St→Option R):Option R:=
 qB C b o {s:=CL ls st.s,h:=yG rd wr st.h,nx:=st.nx} λst'=>K {s:=fN o.dst st.s st'.s,h:=EL b wr st.h st'.h,nx:=st.nx}
def XI:V→List Nat
 | .ow r=>[r]
 | .ov r _ _ _=>[r]
 | .bp r _=>[r]
 | .ep r _ _ _=>[r]
 | _=>[]
def zg7:V→List Nat
 | .agg cs=>cs.flatMap XI
 | v=>XI v
def zmJ(h:Nat→Option vA):V→List Nat
 | .bp r _=>r :: match h r with
  | some ⟨.box cs,_⟩=>cs.flatMap XI
  | _=>[]
 | v=>zg7 v
def zmB(h:Nat→Option vA)(r:Nat):Bool:=match h r with
 | some ⟨_, .ro⟩=>true
 | _=>false
def zdK(h:Nat→Option vA)(l:List Nat):List Nat×List Nat:=(l.filter (zmB h),l.filter λr=>!zmB h r)
def AI(o:Oper)(st:St):List Nat×List Nat:=
 match o.op with
 | .load _ a=>(XI (opd st.s a),[])
 | .store _ a x=>match opd st.s a with
  | .ep r _ _ _=>let p:=zdK st.h (zg7 (opd st.s x));(p.1,r :: p.2)
  | v=>([],XI v)
 | .slice _ x _ _ _=>(XI (opd st.s x),[])
 | .indexAddr _ x _=>(XI (opd st.s x),[])
 | .convert _ _ x=>(XI (opd st.s x),[])
 | .buildSlice _ _ ps=>zdK st.h (ps.toList.flatMap λp=>zg7 (opd st.s p.2))
 | .makeFunc _ _ cs=>zdK st.h (cs.toList.flatMap λx=>zmJ st.h (opd st.s x))
 | .call {callee:= .builtin .append,args,argTypes:=_}=>match args.toList with
  | [x,y]=>(XI (opd st.s y),XI (opd st.s x))
  | _=>([],[])
 | .call {callee:= .builtin _,args,argTypes:=_}=>(args.toList.flatMap λx=>XI (opd st.s x),[])
 | .call {callee:=_,args,argTypes:=_}=>zdK st.h (args.toList.flatMap λx=>zmJ st.h (opd st.s x))
 | _=>([],[])
def CO(o:Oper):List Nat:=o.op.operands.toList.filterMap λx=>match x with
 | .tmp t=>some t
 | _=>none
def zee(d:Option Nat)(l:List Nat):Bool:=match d with
 | some d=>WE d l
 | none=>false
def oJ(nx:Nat)(e1 e:zD):Bool:=
 !(zee e1.dst e.ls)&&!(zee e.dst e1.ls)&&!(zee e1.dst e.dst.toList)&&
 e1.wr.all (λr=>!(WE r e.rd)&&!(WE r e.wr))&&e.wr.all (λr=>!(WE r e1.rd))&&
 e.rd.all (λr=>!(nI (nx+128 *e1.i) r))&&e.wr.all (λr=>!(nI (nx+128 *e1.i) r))&&
 e1.rd.all (λr=>!(nI (nx+128 *e.i) r))&&e1.wr.all (λr=>!(nI (nx+128 *e.i) r))
def gJ(mask nx:Nat)(rs:List zD)(e:zD):Bool:=rs.all λe1=>Nat.testBit mask e1.i||oJ nx e1 e
def zav(ms:List Nat)(es:List Edge):Nat:=es.foldl (λs e=>bif Region.binds .any e then s|||(2^e.on|||ms.getD e.on 0)else s) 0
def rD:List Nat→List Oper→List Nat
 | ms,[]=>ms
 | ms,o :: r=>rD (ms++[zav ms o.after.toList]) r
def zlW(i:Nat)(o:Oper):Bool:=o.after.toList.all λe=>!(Region.binds .any e)||Nat.blt e.on i
def pJ(ops:Array Oper)(ms:List Nat)(nx:Nat):List (Nat×Oper)→List zD→St→(St→Option R)→Option R
 | [],_,st,K=>K st
 | (i,o) :: rest,rs,st,K=>
  gd (zlW i o) (
  match o.guard with
  | none=>
   let f:=AI o st;let e:zD:=⟨i,o.dst,CO o,f.1,f.2⟩
   gd (gJ (ms.getD i 0) nx rs e) (TF C (nx+128 *i) o e.ls e.rd e.wr st λst'=>pJ ops ms nx rest (e :: rs) st' K) none
  | some (j,want)=>match(ops[j]?).bind (·.dst)with
   | none=>none
   | some dj=>
    let skip:St→Option R:=λst=>
     let e:zD:=⟨i,o.dst,[dj],[],[]⟩
     gd (gJ (ms.getD i 0) nx rs e) (VA C o.dst st (.tup []) λst'=>pJ ops ms nx rest (e :: rs) st' K) none
    match st.s dj with
    | .tup []=>skip st
    | .bool t=>
     let G:Bool→Option R:=λb=>
      let st:={st with s:=AA st.s dj (.bool b)}
      gd (b==want) (
       let f:=AI o st;let e:zD:=⟨i,o.dst,dj :: CO o,f.1,f.2⟩
       gd (gJ (ms.getD i 0) nx rs e) (TF C (nx+128 *i) o e.ls e.rd e.wr st λst'=>pJ ops ms nx rest (e :: rs) st' K) none) (skip st)
     cond t (G true) (G false)
    | _=>none) none
def zm1(pre:List Nat)(ops:Array Oper)(st:St)(K:St→Option R):Option R:=
 match tK pre st with
 | none=>none
 | some st=>pJ C ops (rD [] ops.toList) st.nx (JF 0 ops.toList) [] st λst'=>K {st' with nx:=st.nx+128 *ops.size}
def zaO(pre:List Nat)(draw:Bool)(ops:Array Oper)(st:St)(K:St→Option R):Option R:=
 gd (draw) (zm1 C pre ops st K) (
 xJ C ops st.nx (JF 0 ops.toList) st λst'=>K {st' with nx:=st.nx+128 *ops.size})
def YE (an:An):Code→St→(Ex→St→Option R)→Option R
 | .skip,st,K=>K .normal st
 | .region id ops d,st,K=>match UC id an.r with
  | none=>zaO C ((UC id an.d).getD []) d ops st (K .normal)
  | some j=>match tK j.pre st with
   | none=>none
   | some st=>gd (kH an j (.region id ops d)) (
     aA (λy:ND j.cs=>K .normal (install j st y)) λk=>zaO C ((UC id an.d).getD []) d ops (lD j st) λst'=>ZG j.cs st' k) none
 | .seq a b,st,K=>YE an a st λe st'=>match e with
  | .normal=>YE an b st' K
  | e=>K e st'
 | .cond (.tmp t) a b,st,K=>match st.s t with
  | .bool x=>match UC (zg1 t a b) an.c with
   | none=>cond x (YE an a st K) (YE an b st K)
   | some j=>match tK j.pre st with
    | none=>none
    | some st=>gd (kH an j a&&kH an j b) (
      aA (λy:ND j.cs=>K .normal (install j st y)) λk=>
       let K':Ex→St→Option R:=λe st'=>match e with
        | .normal=>ZG j.cs st' k
        | e=>K e (unlock st st')
       cond x (YE an a (lD j st) K') (YE an b (lD j st) K')) none
  | _=>none
 | .block id b,st,K=>match UC id an.b with
  | none=>YE an b st λe st'=>match e with
   | .exit id'=>gd (Nat.beq id' id) (K .normal st') (K e st')
   | e=>K e st'
  | some j=>match tK j.pre st with
   | none=>none
   | some st=>gd (kH an j b) (
     aA (λy:ND j.cs=>K .normal (install j st y)) λk=>
      YE an b (lD j st) λe st'=>match e with
       | .normal=>ZG j.cs st' k
       | .exit id'=>gd (Nat.beq id' id) (ZG j.cs st' k) (K e (unlock st st'))
       | e=>K e (unlock st st')) none
 | .loop b,st,K=>match JK b with
  | none=>none
  | some rid=>match UC rid an.l with
   | none=>none
   | some j=>match tK j.pre st with
    | none=>none
    | some st=>gd (kH an j b) (
      ZG j.cs (lD j st) λx0=>tA FU (λ(x:ND j.cs) (k:ND j.cs→Option R)=>
       YE an b (lD j (install j st x)) λe st'=>match e with
        | .normal=>ZG j.cs st' k
        | e=>K e (unlock (install j st x) st')) x0) none
 | .exit id,st,K=>K (.exit id) st
 | .ret,st,K=>K .ret st
 | _,_,_=>none
def DH(P:Program)(st:St):List ResultVar→List (Bool×Nat)→Option (List V)
 | [],[]=>some []
 | .tmp t :: r,(ag,n) :: sh=>match st.s t,DH P st r sh with
  | .agg cs,some vs=>bif ag&&Nat.beq n cs.length then some (cs++vs)else none
  | v,some vs=>bif !ag&&Nat.beq n 1&&v.leaf then some (v :: vs)else none
  | _,none=>none
 | .cell a t :: r,(ag,n) :: sh=>match st.s a,DH P st r sh,jF P t,vF P t with
  | .bp b 0,some vs,some ag',some n'=>match st.h b with
   | some ⟨.box cs,_⟩=>bif (ag==ag')&&Nat.beq n n'&&Nat.beq n cs.length&&(ag||Nat.beq n 1)then some (cs++vs)else none
   | _=>none
  | _,_,_,_=>none
 | _,_=>none
def oG(st:St):List sB→List V→Nat→Option (List V)
 | .plain :: ks,_ :: as,k=>oG st ks as (k+1)
 | .mv _ :: ks,_ :: as,k=>oG st ks as (k+1)
 | .ptr _ :: ks, .agg cs0 :: as,k=>match st.h (128 *k+127),oG st ks as (k+1)with
  | some ⟨.box cs, .own⟩,some vs=>bif Nat.beq cs.length cs0.length then some (cs++vs)else none
  | _,_=>none
 | [],[],_=>some []
 | _,_,_=>none
def DC:List sB→List Ty→Bool
 | [],[]=>true
 | .plain :: ks,_ :: ts=>DC ks ts
 | .ptr _ :: ks, .cells t :: ts=>Nat.ble (sz t) 127&&DC ks ts
 | .mv _ :: ks, .v t :: ts=>t.isAgg&&Nat.ble (sz t) 127&&DC ks ts
 | _,_=>false
def zaA(fn:Func)(body:Code)(an:An)(ks:List sB)(own:List Nat)(shape:List (Bool×Nat))(ts:List Ty)(as:List V):Option (fB ts):=
 YE C an body {s:=λi=>match(VB ks 0 as).drop i with | v :: _=>v | []=> .undef,h:=EA ks 0 as,nx:=128 *ks.length} λe st=>
  match e with
  | .exit _=>none
  | _=>match DH C.P st fn.results.toList shape,oG st ks as 0 with
   | some vs,some us=>match bE own 0 (vs++us) st.h with
    | some (rs,_)=>jJ ts rs
    | none=>none
   | _,_=>none
end
end
end Go.D
namespace Go.D
variable [jA]
section
variable {C:Cx} {w0:World} {outer own:Nat→Prop} {ρ:Nat→Option RI} {st st':St} {a:Act} {w:World} {R:Type}
omit [jA]in
def IP(ow:List Nat):∀(cs:List V) (p:Nat) (h:Nat→Option vA) (x:List V×(Nat→Option vA)),bE ow p cs h=some x→x.1.length=cs.length
 | [],p,h,x,ht=>by simp[bE]at ht;subst ht;rfl
 | c :: cs,p,h,x,ht=>by
  simp only[bE]at ht;cases hb:ow.any (Nat.beq p)
  ·simp only[hb,cond_false]at ht;split at ht
   case h_2=>cases ht
   split at ht
   case h_2=>cases ht
   rename_i hr;have k:=IP ow cs (p+1) _ _ hr;cases ht;simpa using k
  ·simp only[hb,cond_true]at ht;split at ht
   ·split at ht
    case h_2=>cases ht
    split at ht
    case h_2=>cases ht
    rename_i hr;have k:=IP ow cs (p+1) _ _ hr;cases ht;simpa using k
   ·split at ht
    case h_2=>cases ht
    rename_i hr;have k:=IP ow cs (p+1) _ _ hr;cases ht;simpa using k
   ·split at ht
    case h_2=>cases ht
    split at ht
    case h_2=>cases ht
    rename_i hr;have k:=IP ow cs (p+1) _ _ hr;cases ht;simpa using k
   ·cases ht
def lK(w:World)(ρ:Nat→Option RI)(bad:Nat→Prop)(g:Nat→Option vA)(tv:Nat→Value)(sl:Nat→V):(c:lC)→Nat→c.T→Prop
 | .slot s ty,_,x=>VR w ρ bad (tv s) (YC ty x)∧nD (YC ty x)
 | .own s t,id,x=>VR w ρ bad (tv s) (.ow id)∧g id=some ⟨.arr t x, .own⟩
 | .drop _,_,_=>True
 | .box s t ow,id,x=>∃r,sl s= .bp r 0∧g r=some ⟨.box (RA ow id 0 (enc t x)), .own⟩∧∀q,q<128→g (id+q)=bB ow id (λ_=>none) 0 (enc t x) (id+q)
omit [jA]in
def zzZ{v:V}{ds:List V}(h:aC [v] ds):∃d,ds=[d]∧WH v d:=by
 cases h with
 | cons h1 h2=>cases h2;exact⟨_,rfl,h1⟩
omit [jA]in
def zvT(t:TN)(x:El t):0<(enc t x).length:=by rw[qD];exact MO t
def zan{t:TN}{cs:List V}{x:El t}{bad:Nat→Prop}{u:Value}(hd:oF t cs=some x)(hv:VR w ρ bad u (.fp cs 0)):VR w ρ bad u (.fp (enc t x) 0):=by
 have hs:=MF t hd;cases hv with
 | fp _ off b o u h0 hb hu hv=>
 exact .fp _ _ b o u (zvT t x) hb (λj hj=>hu j (by rw[hs.len];exact hj)) λj hj=>VR.sub (hs.get j (by rw[hs.len];exact hj) hj) (hv j (by rw[hs.len];exact hj))
def fn1{bad:Nat→Prop}{u:Value}{g:Nat}{c d:V}(h:∀u',VR w ρ bad u' c→VR w ρ bad u' d)(hv:VR w ρ bad u (.fn g [c])):VR w ρ bad u (.fn g [d]):=by
 cases hv with
 | fn _ _ caps hs hv=>
 exact .fn _ _ caps hs λj hj=>by
  have:j=0:=by simp at hj;omega
  subst this;exact h _ (hv 0 (by simp))
def fn2{bad:Nat→Prop}{u:Value}{g:Nat}{c d c' d':V}(h:∀u',VR w ρ bad u' c→VR w ρ bad u' d)(h':∀u',VR w ρ bad u' c'→VR w ρ bad u' d')(hv:VR w ρ bad u (.fn g [c,c'])):VR w ρ bad u (.fn g [d,d']):=by
 cases hv with
 | fn _ _ caps hs hv=>
 exact .fn _ _ caps hs λj hj=>by
  match j,hj with
  | 0,_=>exact h _ (hv 0 (by simp))
  | 1,_=>exact h' _ (hv 1 (by simp))
def fp1{bad:Nat→Prop}{u:Value}{c d:V}(h:∀u',VR w ρ bad u' c→VR w ρ bad u' d)(hv:VR w ρ bad u (.fp [c] 0)):VR w ρ bad u (.fp [d] 0):=by
 cases hv with
 | fp _ off b o u h0 hb hu hv=>
 exact .fp _ _ b o u (by simp) hb (λj hj=>hu j hj) λj hj=>by
  have:j=0:=by simp at hj;omega
  subst this;exact h _ (hv 0 (by simp))
def zlt(ty:Ty)(v:V)(x:ty.T){bad:Nat→Prop}{u:Value}(hd:oE ty v=some x)(hv:VR w ρ bad u v):VR w ρ bad u (YC ty x):=by
 cases ty with
 | v t=>
  simp only[oE]at hd;split at hd
  ·rename_i cs;cases AW:t.isAgg
   case false=>simp[AW]at hd
   simp only[AW,cond_true]at hd;have hs:=MF t hd;simp only[YC,uK,AW,cond_true];cases hv with
   | agg _ vs h1 h2=>
   refine .agg _ _ (by rw[h1];exact hs.len) λj hj=>VR.sub (hs.get j (by rw[hs.len];exact hj) hj) (h2 j (by rw[hs.len];exact hj))
  ·cases AW:t.isAgg
   case true=>simp[AW]at hd
   simp only[AW,cond_false]at hd;obtain⟨d,h1,h2⟩:=zzZ (MF t hd);simp only[YC,uK,AW,cond_false,h1];exact VR.sub h2 hv
 | sl t=>exact VR.sub (YA hd) hv
 | raw=>simp only[oE,Option.some.injEq]at hd;subst hd;exact hv
 | cells t=>
  simp only[oE]at hd;split at hd
  ·have hs:=MF t hd;simp only[YC];cases hv with
   | agg _ vs h1 h2=>
   exact .agg _ _ (by rw[h1];exact hs.len) λj hj=>VR.sub (hs.get j (by rw[hs.len];exact hj) hj) (h2 j (by rw[hs.len];exact hj))
  ·cases hd
 | pt t=>
  simp only[oE]at hd;split at hd
  ·exact zan hd hv
  ·cases hd
 | c1 g t=>
  simp only[oE]at hd;split at hd
  ·rename_i g' cs;cases hg:Nat.beq g' g
   case false=>rw[hg]at hd;cases hd
   rw[hg,cond_true]at hd;have:=Nat.eq_of_beq_eq_true hg;subst this;exact fn1 (λ_=>zan hd) hv
  ·cases hd
 | p1 g t=>
  simp only[oE]at hd;split at hd
  ·rename_i g' cs;cases hg:Nat.beq g' g
   case false=>rw[hg]at hd;cases hd
   rw[hg,cond_true]at hd;have:=Nat.eq_of_beq_eq_true hg;subst this;exact fp1 (λ_=>fn1 λ_=>zan hd) hv
  ·cases hd
 | c2 g h t=>
  simp only[oE]at hd;split at hd
  ·rename_i g' h' cs ds;cases C6:Nat.beq g' g&&Nat.beq h' h
   case false=>rw[C6]at hd;cases hd
   rw[C6,cond_true]at hd;rw[Bool.and_eq_true]at C6;have:=Nat.eq_of_beq_eq_true C6.1;have h2:=Nat.eq_of_beq_eq_true C6.2;subst this h2;obtain⟨a,ha,hd⟩:=Option.bind_eq_some_iff.1 hd;obtain⟨b,hb,hd⟩:=Option.bind_eq_some_iff.1 hd;cases hd;exact fn2 (λ_=>fp1 λ_=>fn1 λ_=>zan ha) (λ_=>zan hb) hv
  ·cases hd
omit [jA]in
def yV(t:TN)(x:El t):nD (.fp (enc t x) 0):=λS=> .fp _ _ λj hj=>by
 have:=OM S t x j;rw[List.getD_eq_getElem?_getD,List.getElem?_eq_getElem hj]at this;exact this
omit [jA]in
def zf5{g:Nat}{c:V}(h:nD c):nD (.fn g [c]):=λS=> .fn _ _ λj hj=>by
 have:j=0:=by simp at hj;omega
 subst this;exact h S
omit [jA]in
def ztI{g:Nat}{c d:V}(h:nD c)(h':nD d):nD (.fn g [c,d]):=λS=> .fn _ _ λj hj=>by
 match j,hj with
 | 0,_=>exact h S
 | 1,_=>exact h' S
omit [jA]in
def zkJ{c:V}(h:nD c):nD (.fp [c] 0):=λS=> .fp _ _ λj hj=>by
 have:j=0:=by simp at hj;omega
 subst this;exact h S
omit [jA]in
def zst(ty:Ty)(v:V)(x:ty.T)(hd:oE ty v=some x)(hv:nD v):nD (YC ty x):=by
 cases ty with
 | v t=>
  intro S;simp only[YC,uK];cases AW:t.isAgg
  ·simp only[cond_false];split
   ·rename_i c r he;have:=OM S t x 0;rw[he]at this;exact this
   ·exact .undef
  ·refine .agg _ λj hj=>?_;have:=OM S t x j;rw[List.getD_eq_getElem?_getD,List.getElem?_eq_getElem hj]at this;exact this
 | sl t=>exact BM _ _
 | raw=>simp only[oE,Option.some.injEq]at hd;subst hd;exact hv
 | cells t=>
  intro S;simp only[YC];refine .agg _ λj hj=>?_;have:=OM S t x j;rw[List.getD_eq_getElem?_getD,List.getElem?_eq_getElem hj]at this;exact this
 | pt t=>exact yV t x
 | c1 g t=>exact zf5 (yV t x)
 | p1 g t=>exact zkJ (zf5 (yV t x))
 | c2 g h t=>exact ztI (zkJ (zf5 (yV t x.1))) (yV t x.2)
structure Ex1(w0:World)(outer own:Nat→Prop)(w:World)(tv:Nat→Value)(c:lC)(id:Nat)(ρ:Nat→Option RI)(g:Nat→Option vA)(st1:St)(x:c.T)(st2:St)(ρ':Nat→Option RI)(g':Nat→Option vA):Prop where
 slots:st2.s=st1.s
 heap:rB w0 outer own ρ' g' w
 lies:oH st2.h g'
 less:∀q,st1.h q=none→st2.h q=none
 left:∀n,oD n st1.h st2.h
 out:∀q,Out id 128 q→ρ' q=ρ q∧(st1.h q=none→g' q=g q)
 ext:∀q qi,ρ q=some qi→ρ' q=some qi
 keep:∀u d,VR w ρ (uA outer ρ g) u d→VR w ρ' (uA outer ρ' g') u d
 ok:lK w ρ' (uA outer ρ' g') g' tv st1.s c id x
 gone:∀s t ow r,c= .box s t ow→st1.s s= .bp r 0→st2.h r=none∧Out id 128 r
def zmv{tv:Nat→Value}(c:lC)(id:Nat)(st1:St)(k:c.T→St→Option R){r:R}{g:Nat→Option vA}(he:GT c st1 k=some r)(hh:rB w0 outer own ρ g w)(hl:oH st1.h g)
  (hv:∀s,VR w ρ (uA outer ρ g) (tv s) (st1.s s)) (hρ:∀q,q<128→ρ (id+q)=none) (hn:∀q,q<128→st1.h (id+q)=none):
  ∃x st2 ρ' g',k x st2=some r∧Ex1 w0 outer own w tv c id ρ g st1 x st2 ρ' g':=by
 have IW:∀q row,st1.h q=some row→Out id 128 q:=λq row hq h3=>by
  have:=hn (q - id) (by omega);rw[show id+(q - id)=q by omega,hq]at this;cases this
 have h0:ρ id=none:=hρ 0 (by omega);have O1:st1.h id=none:=hn 0 (by omega);cases c with
 | drop s=>exact⟨(),st1,ρ,g,he,rfl,hh,hl,λ_ h=>h,λn=>oD.refl n _,λq _=>⟨rfl,λ_=>rfl⟩,λ_ _ h=>h,λ_ _ h=>h,trivial,λs t ow r h=>by cases h⟩
 | slot s ty=>
  simp only[GT]at he;split at he
  case h_2=>cases he
  rename_i v ids zZ;obtain⟨x,hx,he⟩:=Option.bind_eq_some_iff.1 he;obtain⟨k1,k2⟩:=zlp hl zZ;have k2:∀r∈ids,∃row,st1.h r=some row:=k2;obtain⟨m1,m2⟩:=hh.mark ids;obtain⟨f1,f2⟩:=zhh hh (hv s) k1;have T1:∀r,st1.h r=none→r∉ids:=λr hn hm=>by obtain⟨row,h5⟩:=k2 r hm;rw[hn]at h5;cases h5
  exact⟨x,_,ρ,BC g ids,he,rfl,m1,zga hl ids,λq hq=>by show BC st1.h ids q=none;rw[EF,if_neg (T1 q hq)];exact hq,λn=>RN _ (zcq zZ),
   λq _=>⟨rfl,λhq=>by rw[EF,if_neg (T1 q hq)]⟩,λ_ _ h=>h,m2,⟨zlt ty v x hx f1,zst ty v x hx f2⟩,λs t ow r h=>by cases h⟩
 | own s t=>
  simp only[GT]at he;split at he
  case h_2=>cases he
  rename_i l ro LW;have htk0:=LW;have GX:=hv s
  -- a row that has moved
  have moved:∀(q:Nat) (m:rH) (l0:List (El t)) (ri':RI),ro=some q→st1.h q=some ⟨.arr t l0, .own⟩→rB w0 outer own (AA ρ id (some ri')) (AA (AA g q none) id (some ⟨.arr t l, .own⟩)) w→
    (∀u d,VR w ρ (uA outer ρ g) u d→VR w (AA ρ id (some ri')) (uA outer (AA ρ id (some ri')) (AA (AA g q none) id (some ⟨.arr t l, .own⟩))) u d)→
    VR w (AA ρ id (some ri')) (uA outer (AA ρ id (some ri')) (AA (AA g q none) id (some ⟨.arr t l, .own⟩))) (tv s) (.ow id)→
    ∃x st2 ρ' g',k x st2=some r∧Ex1 w0 outer own w tv (.own s t) id ρ g st1 x st2 ρ' g':=by
   rintro q m l0 ri' rfl hq n1 n2 n3;have Y8:=IW q _ hq;refine⟨l,_,_,_,he,rfl,n1,λp row hp=>?_,λp hp=>?_,λn=>zkx htk0,λp hp=>⟨CA _ _ _ _ ?_,λP4=>?_⟩,λp pi hp=>?_,n2,⟨n3,QA _ _ _⟩,λs t ow r h=>by cases h⟩
   ·have hp:AA st1.h q none p=some row:=hp
    by_cases LX:p=q
    ·subst LX;rw[QA]at hp;cases hp
    ·rw[CA _ _ _ _ LX]at hp;rw[CA _ _ _ _ (by rintro rfl;rw[O1]at hp;cases hp),CA _ _ _ _ LX];exact hl _ _ hp
   ·show AA st1.h q none p=none
    by_cases LX:p=q
    ·subst LX;exact QA _ _ _
    ·rw[CA _ _ _ _ LX];exact hp
   ·rintro rfl;exact hp ⟨Nat.le_refl _,by omega⟩
   ·rw[CA _ _ _ _ (by rintro rfl;exact hp ⟨Nat.le_refl _,by omega⟩),CA];rintro rfl;rw[hq]at P4;cases P4
   ·rw[CA];exact hp;rintro rfl;rw[h0]at hp;cases hp
  unfold VS at LW;split at LW
  ·rename_i cW;simp only[Option.some.injEq,Prod.mk.injEq]at LW;obtain⟨rfl,rfl⟩:=LW;rw[cW]at GX;have hvn:tv s= .slice none 0 0:=by generalize tv s=x at GX;cases GX;rfl
   obtain⟨n1,n2⟩:=hh.empty t h0;refine⟨[],_,_,_,he,rfl,n1,λp row hp=>?_,λp hp=>hp,λn=>oD.refl n _,λp hp=>⟨CA _ _ _ _ ?_,λP4=>CA _ _ _ _ ?_⟩,λp pi hp=>?_,n2,⟨?_,QA _ _ _⟩,λs t ow r h=>by cases h⟩
   ·have hp:st1.h p=some row:=hp;rw[CA _ _ _ _ (by rintro rfl;rw[O1]at hp;cases hp)];exact hl _ _ hp
   ·rintro rfl;exact hp ⟨Nat.le_refl _,by omega⟩
   ·rintro rfl;exact hp ⟨Nat.le_refl _,by omega⟩
   ·rw[CA];exact hp;rintro rfl;rw[h0]at hp;cases hp
   ·rw[hvn];exact .owN _ ⟨0,0,0,true⟩ none (QA _ _ _) rfl rfl
  ·rename_i q cW;split at LW
   case h_2=>cases LW
   rename_i t' l1 HV;split at LW
   case isFalse=>cases LW
   rename_i e1;subst e1;simp only[DM,Option.some.injEq,Prod.mk.injEq]at LW;obtain⟨rfl,rfl⟩:=LW;rw[cW]at GX;obtain⟨ri,hρq,_⟩:=hh.rows q _ (hl _ _ HV);obtain⟨n1,n2⟩:=hh.rename (hl _ _ HV) hρq h0;refine moved q .own l1 ri rfl HV n1 n2 ?_
   rcases GX.ow_inv hρq with⟨e1,e2,e3,e4⟩ | ⟨ao,e1,e2,e3⟩
   ·rw[e1];exact .ow _ ri (QA _ _ _) e3 e4 e2
   ·rw[e1];exact .owN _ ri ao (QA _ _ _) e3 e2
  ·rename_i q t0 len cW;split at LW
   case h_2=>cases LW
   rename_i t' l1 HV;split at LW
   case isFalse=>cases LW
   rename_i e1;subst e1;simp only[DM,Option.some.injEq,Prod.mk.injEq]at LW;obtain⟨rfl,rfl⟩:=LW;rw[cW]at GX;obtain⟨ri,hρq,WV,_⟩:=hh.rows q _ (hl _ _ HV);have dZ:ri.n=l1.length:=WV.1;obtain⟨ao,cap,h1,h2,h3,h4,h5⟩:=GX.ov_inv hρq
   rcases h3 with⟨rfl,rfl⟩ | ⟨rfl,fW,hc⟩
   ·-- nothing of it
    obtain⟨k1,k2⟩:=hh.less (rV g q);obtain⟨n1,n2⟩:=k1.empty t' h0;rw[List.take_zero]at he moved;refine moved q .own l1 ⟨0,0,0,true⟩ rfl HV n1 (λu d hu=>n2 _ _ (k2 _ _ hu)) ?_;rw[h1];exact .owN _ ⟨0,0,0,true⟩ ao (QA _ _ _) rfl rfl
   ·rw[Nat.zero_mul]at h1
    rcases WV.2 with h6 | ⟨_,ce,c1,c2,c3,c4⟩
    ·rw[fW]at h6;cases h6.1
    obtain⟨n1,n2⟩:=hh.move (hl _ _ HV) hρq fW h0 (ri':=⟨ri.b,len,cap,false⟩) rfl rfl w (Wx.refl _) rfl (λ_ _=>rfl) (.arr t' (l1.take len)) λbad IV=>by
     refine⟨by simp;omega, .inr ⟨rfl,ce,h4,h5,λj hj=>c3 j ?_,λi hi j hj=>?_⟩⟩
     ·have:cap *sz t'≤ri.cap *sz t':=Nat.mul_le_mul_right _ (by omega);have hj:j<cap *sz t':=hj;omega
     ·obtain⟨u,f1,f2⟩:=c4 i (by simp at hi;omega) j hj;refine⟨u,f1,?_⟩;rw[List.getElem_take];exact IV _ _ f2
    refine moved q .own l1 _ rfl HV n1 n2 ?_;rw[h1];exact .ow _ ⟨ri.b,len,cap,false⟩ (QA _ _ _) h4 h5 rfl
  ·cases LW
 | box s t ow=>
  simp only[GT]at he;split at he
  case h_2=>cases he
  rename_i q cW;split at he
  case h_2=>cases he
  rename_i cs HV;split at he
  case h_2=>cases he
  rename_i cs' h' L2;obtain⟨x,hx,he⟩:=Option.bind_eq_some_iff.1 he;have hs:=MF t hx;have Y8:=IW q _ HV;have J5:=hl _ _ HV;obtain⟨ri,hρq,WV,_⟩:=hh.rows q _ J5
  have KV:cs.length≤128:=by
   have h1:=IP _ _ _ _ _ L2;have h2:=hs.len;rw[qD]at h2;have:=zer t;simp only at h1;omega
  have bW:∀p,st1.h p=none→AA st1.h q none p=none:=λp hp=>by
   by_cases LX:p=q
   ·subst LX;exact QA _ _ _
   ·rw[CA _ _ _ _ LX];exact hp
  obtain⟨ρ1,g1,T,K0⟩:=qV ow id 128 cs 0 (AA st1.h q none) h' cs' (enc t x) ρ g (λj=>(w.cell? (at_ ri.b j)).getD undef) L2 hs (by omega) hh
   (λj hj=>by obtain⟨_,y,f1,f2⟩:=WV.2 j hj;rw[f1];exact f2)
   (fun p row hp=>by
    by_cases LX:p=q
    ·subst LX;rw[QA]at hp;cases hp
    ·rw[CA _ _ _ _ LX]at hp;exact hl _ _ hp)
   (λp hp=>bW _ (hn p hp)) (λp _ hp=>hρ p hp)
  have hg1q:g1 q=some ⟨.box cs, .own⟩:=by rw[(T.out q Y8).2 (QA _ _ _)];exact J5
  have hρ1:ρ1 q=some ri:=T.ext _ _ hρq;obtain⟨n1,n2⟩:=T.heap.reread hg1q (es:=RA ow id 0 (enc t x)) (by rw[FF];exact K0) (λri' h3 j hj=>by rw[hρ1]at h3;cases h3;exact T.vals j hj);have D6:h' q=none:=T.less q (QA _ _ _)
  refine⟨x,_,_,_,he,rfl,n1,λp row hp=>?_,λp hp=>T.less p (bW p hp),λn=>(UK (oD.refl n _) _ none (.inr ⟨_,HV,rfl⟩)).trans (CK (λr=>r<n) _ _ _ _ _ L2),λp hp=>⟨(T.out p hp).1,λP4=>?_⟩,T.ext,λu d hu=>n2 _ _ (T.keep _ _ hu),
   ⟨q,cW,QA _ _ _,λp hp=>?_⟩,λs' t' ow' r' h1 h2=>?_⟩
  ·have hp:h' p=some row:=hp;rw[CA _ _ _ _ (by rintro rfl;rw[D6]at hp;cases hp)];exact T.lies _ _ hp
  ·rw[CA _ _ _ _ (by rintro rfl;rw[HV]at P4;cases P4),(T.out p hp).2 (bW p P4)]
  ·rw[CA _ _ _ _ (by rintro rfl;exact Y8 ⟨by omega,by omega⟩)];exact T.new p (by omega) hp
  ·cases h1;rw[cW]at h2;cases h2;exact⟨D6,Y8⟩
def pL(w:World)(ρ:Nat→Option RI)(bad:Nat→Prop)(g:Nat→Option vA)(tv:Nat→Value)(sl:Nat→V):(cs:List lC)→Nat→ND cs→Prop
 | [],_,_=>True
 | [c],id,x=>lK w ρ bad g tv sl c id x
 | c :: d :: r,id,x=>lK w ρ bad g tv sl c id x.1∧pL w ρ bad g tv sl (d :: r) (id+128) x.2
def lK.later{tv:Nat→Value}{sl:Nat→V}{c:lC}{id:Nat}{x:c.T}{ρ ρ':Nat→Option RI}{bad bad':Nat→Prop}{g g':Nat→Option vA}(h:lK w ρ bad g tv sl c id x)
  (hk:∀u d,VR w ρ bad u d→VR w ρ' bad' u d) (hg:∀q,q<128→g' (id+q)=g (id+q)) (hb:∀s t ow r,c= .box s t ow→sl s= .bp r 0→g' r=g r):lK w ρ' bad' g' tv sl c id x:=by
 cases c with
 | drop s=>trivial
 | slot s ty=>exact⟨hk _ _ h.1,h.2⟩
 | own s t=>exact⟨hk _ _ h.1,by rw[show id=id+0 from rfl,hg 0 (by omega)];exact h.2⟩
 | box s t ow=>
  obtain⟨r,h1,h2,h3⟩:=h;exact⟨r,h1,by rw[hb s t ow r rfl h1];exact h2,λq hq=>by rw[hg q hq];exact h3 q hq⟩
structure ExA(w0:World)(outer own:Nat→Prop)(w:World)(tv:Nat→Value)(cs:List lC)(id:Nat)(ρ:Nat→Option RI)(g:Nat→Option vA)(st1:St)(x:ND cs)(hn:Nat→Option vA)(ρ':Nat→Option RI)(g':Nat→Option vA):Prop where
 heap:rB w0 outer own ρ' g' w
 lies:oH hn g'
 left:∀n,oD n st1.h hn
 out:∀q,q<id→ρ' q=ρ q∧(st1.h q=none→g' q=g q)
 fresh:∀q,id+128 *cs.length≤q→ρ' q=none
 ext:∀q qi,ρ q=some qi→ρ' q=some qi
 keep:∀u d,VR w ρ (uA outer ρ g) u d→VR w ρ' (uA outer ρ' g') u d
 ok:pL w ρ' (uA outer ρ' g') g' tv st1.s cs id x
def zmK{tv:Nat→Value}:∀(cs:List lC) (id:Nat) (st1:St) (k:ND cs→Option R) (r:R) (ρ:Nat→Option RI) (g:Nat→Option vA),ZG cs st1 k=some r→rB w0 outer own ρ g w→oH st1.h g→
  (∀s,VR w ρ (uA outer ρ g) (tv s) (st1.s s))→(∀q,id≤q→ρ q=none)→(∀q,id≤q→st1.h q=none)→∃x hn ρ' g',k x=some r∧ExA w0 outer own w tv cs id ρ g st1 x hn ρ' g'
 | [],id,st1,k,r,ρ,g,he,hh,hl,hv,hρ,hn=>⟨(),st1.h,ρ,g,he,hh,hl,λn=>oD.refl n _,λq _=>⟨rfl,λ_=>rfl⟩,λq hq=>hρ q (by simpa using hq),λ_ _ h=>h,λ_ _ h=>h,trivial⟩
 | [c],id,st1,k,r,ρ,g,he,hh,hl,hv,hρ,hn=>by
  simp only[ZG]at he;obtain⟨x,st2,ρ',g',h1,E⟩:=zmv c id st1 _ he hh hl hv (λq hq=>hρ _ (by omega)) (λq hq=>hn _ (by omega));refine⟨x,st2.h,ρ',g',h1,E.heap,E.lies,E.left,λq hq=>E.out q (λh=>by omega),λq hq=>?_,E.ext,E.keep,E.ok⟩;simp at hq;rw[(E.out q (λh=>by omega)).1];exact hρ q (by omega)
 | c :: d :: cs,id,st1,k,r,ρ,g,he,hh,hl,hv,hρ,hn=>by
  simp only[ZG]at he;obtain⟨x,st2,ρ1,g1,h1,E⟩:=zmv c id st1 _ he hh hl hv (λq hq=>hρ _ (by omega)) (λq hq=>hn _ (by omega))
  obtain⟨y,hn',ρ',g',h2,F⟩:=zmK (d :: cs) (id+128) st2 _ r ρ1 g1 h1 E.heap E.lies (λs=>by rw[E.slots];exact E.keep _ _ (hv s))
   (λq hq=>by rw[(E.out q (λh=>by omega)).1];exact hρ q (by omega)) (λq hq=>E.less q (hn q (by omega)))
  refine⟨(x,y),hn',ρ',g',h2,F.heap,F.lies,λn=>(E.left n).trans (F.left n),λq hq=>?_,λq hq=>?_,λq qi hq=>F.ext _ _ (E.ext _ _ hq),λu d hu=>F.keep _ _ (E.keep _ _ hu),?_,by rw[←E.slots];exact F.ok⟩
  ·have ho:Out id 128 q:=λh=>by omega
   exact⟨((F.out q (by omega)).1).trans (E.out q ho).1,λhq0=>((F.out q (by omega)).2 (E.less q hq0)).trans ((E.out q ho).2 hq0)⟩
  ·exact F.fresh q (by simp at hq⊢;omega)
  ·refine E.ok.later F.keep (λq hq=>(F.out (id+q) (by omega)).2 (E.less _ (hn _ (by omega)))) λs t ow r h3 h4=>?_;obtain⟨h5,h6⟩:=E.gone s t ow r h3 h4
   have hrlt:r<id:=by
    rcases Nat.lt_or_ge r id with h7 | h7
    ·exact h7
    ·obtain⟨ri,h8,_⟩:=(show VR w ρ (uA outer ρ g) (tv s) (.bp r 0) by rw[←h4];exact hv s).bp_inv;rw[hρ r h7]at h8;cases h8
   exact(F.out r (by omega)).2 h5
def zgk{tv:Nat→Value}{sl:Nat→V}{ρ2:Nat→Option RI}{bad2:Nat→Prop}{g2:Nat→Option vA}:∀(cs:List lC) (M id:Nat) (x:ND cs) (h:Nat→Option vA) (q:Nat) (row:vA),
  pL w ρ2 bad2 g2 tv sl cs M x→UO sl cs id x h q=some row→
  h q=some row∨(id≤q∧q<id+128 *cs.length∧(∃t l,row=⟨.arr t l, .own⟩)∧g2 (M+(q - id))=some row)∨
   (∃o ow es s,row=⟨.box (RA ow (id+o) 0 es), .own⟩∧g2 q=some ⟨.box (RA ow (M+o) 0 es), .own⟩∧o+128≤128 *cs.length∧(∀j (hj:j<es.length),nD es[j])∧es.length≤128∧sl s= .bp q 0):=by
 have one:∀(c:lC) (M id:Nat) (x:c.T) (h:Nat→Option vA) (q:Nat) (row:vA),lK w ρ2 bad2 g2 tv sl c M x→rK sl c id x h q=some row→
   h q=some row∨(id≤q∧q<id+128∧(∃t l,row=⟨.arr t l, .own⟩)∧g2 (M+(q - id))=some row)∨
   (∃ow es s,row=⟨.box (RA ow id 0 es), .own⟩∧g2 q=some ⟨.box (RA ow M 0 es), .own⟩∧(∀j (hj:j<es.length),nD es[j])∧es.length≤128∧sl s= .bp q 0):=by
  intro c M id x h q row hc hi;cases c with
  | drop s=>exact .inl hi
  | slot s ty=>exact .inl hi
  | own s t=>
   simp only[rK]at hi
   by_cases hq:q=id
   ·subst hq;rw[QA]at hi;cases hi;exact .inr (.inl ⟨Nat.le_refl _,by omega,⟨_,_,rfl⟩,by rw[Nat.sub_self];exact hc.2⟩)
   ·rw[CA _ _ _ _ hq]at hi;exact .inl hi
  | box s t ow=>
   obtain⟨r,h1,h2,h3⟩:=hc;simp only[rK,h1]at hi
   by_cases hq:q=r
   ·subst hq;rw[QA]at hi;cases hi;refine .inr (.inr ⟨ow,enc t x,s,rfl,h2,λj hj=>?_,by rw[qD];exact zer t,h1⟩);intro S;have:=OM S t x j;rw[List.getD_eq_getElem?_getD,List.getElem?_eq_getElem hj]at this;exact this
   ·rw[CA _ _ _ _ hq,xC]at hi;split at hi
    ·rename_i y hy;cases hi;obtain⟨t',l,e1,e2,e3⟩:=ME _ _ _ _ _ _ hy;have YV:=zer t;rw[qD]at e3;refine .inr (.inl ⟨by omega,by omega,⟨t',l,e1⟩,?_⟩);rw[h3 (q - id) (by omega),WU ow M id,show id+(q - id)=q by omega];exact hy
    ·exact .inl hi
 intro cs;induction cs with
 | nil=>intro M id x h q row _ hi;exact .inl hi
 | cons c cs ih=>
  intro M id x h q row hc hi;cases cs with
  | nil=>
   rcases one c M id x h q row hc hi with h1 | ⟨h1,h2,h3⟩ | ⟨ow,es,s,h1,h2,h3⟩
   ·exact .inl h1
   ·exact .inr (.inl ⟨h1,by simp only[List.length_cons,List.length_nil];omega,h3⟩)
   ·exact .inr (.inr ⟨0,ow,es,s,h1,h2,by simp only[List.length_cons];omega,h3⟩)
  | cons d r=>
   simp only[UO]at hi
   rcases one c M id x.1 _ q row hc.1 hi with h1 | ⟨h1,h2,h3⟩ | ⟨ow,es,s,h1,h2,h3⟩
   ·rcases ih (M+128) (id+128) x.2 h q row hc.2 h1 with h4 | ⟨h4,h5,h6,h7⟩ | ⟨o,ow,es,s,h4,h5,h6,h7⟩
    ·exact .inl h4
    ·refine .inr (.inl ⟨by omega,by simp at h5⊢;omega,h6,?_⟩);rw[show M+(q - id)=M+128+(q - (id+128)) by omega];exact h7
    ·refine .inr (.inr ⟨o+128,ow,es,s,?_,?_,by simp at h6⊢;omega,h7⟩)
     ·rw[show id+(o+128)=id+128+o by omega];exact h4
     ·rw[show M+(o+128)=M+128+o by omega];exact h5
   ·exact .inr (.inl ⟨h1,by simp only[List.length_cons];omega,h3⟩)
   ·exact .inr (.inr ⟨0,ow,es,s,h1,h2,by simp only[List.length_cons];omega,h3⟩)
def zve{tv:Nat→Value}{sl:Nat→V}{ρ2:Nat→Option RI}{bad2:Nat→Prop}{g2:Nat→Option vA}(f:Nat→V)(s:Nat):∀(cs:List lC) (M id:Nat) (x:ND cs),
  pL w ρ2 bad2 g2 tv sl cs M x→(nE cs s=false∧WG cs id x f s=f s)∨(VR w ρ2 bad2 (tv s) (WG cs id x f s)∧nD (WG cs id x f s))∨
   (∃o,WG cs id x f s= .ow (id+o)∧VR w ρ2 bad2 (tv s) (.ow (M+o))∧o<128 *cs.length):=by
 have one:∀(c:lC) (M id:Nat) (x:c.T) (f:Nat→V),lK w ρ2 bad2 g2 tv sl c M x→((∀r,nE (c :: r) s=nE r s)∧tI c id x f s=f s)∨(VR w ρ2 bad2 (tv s) (tI c id x f s)∧nD (tI c id x f s))∨
   (tI c id x f s= .ow id∧VR w ρ2 bad2 (tv s) (.ow M)):=by
  intro c M id x f hc;cases c with
  | slot s' ty=>
   by_cases hs:s=s'
   ·subst hs;simp only[tI,QA];exact .inr (.inl hc)
   ·simp only[tI];rw[CA _ _ _ _ hs];refine .inl ⟨λr=>?_,rfl⟩
    have:Nat.beq s' s=false:=by
     cases hb:Nat.beq s' s with
     | false=>rfl
     | true=>exact absurd (Nat.eq_of_beq_eq_true hb).symm hs
    simp[nE,this]
  | own s' t=>
   by_cases hs:s=s'
   ·subst hs;exact .inr (.inr ⟨QA _ _ _,hc.1⟩)
   ·simp only[tI];rw[CA _ _ _ _ hs];refine .inl ⟨λr=>?_,rfl⟩
    have:Nat.beq s' s=false:=by
     cases hb:Nat.beq s' s with
     | false=>rfl
     | true=>exact absurd (Nat.eq_of_beq_eq_true hb).symm hs
    simp[nE,this]
  | box s' t ow=>exact .inl ⟨λr=>rfl,rfl⟩
  | drop s'=>exact .inl ⟨λr=>rfl,rfl⟩
 intro cs;induction cs with
 | nil=>intro M id x _;exact .inl ⟨rfl,rfl⟩
 | cons c cs ih=>
  intro M id x hc;cases cs with
  | nil=>
   rcases one c M id x f hc with⟨h1,h2⟩ | h | ⟨h1,h2⟩
   ·exact .inl ⟨by rw[h1];rfl,h2⟩
   ·exact .inr (.inl h)
   ·exact .inr (.inr ⟨0,h1,h2,by simp only[List.length_cons];omega⟩)
  | cons d r=>
   simp only[WG]
   rcases one c M id x.1 (WG (d :: r) (id+128) x.2 f) hc.1 with⟨h1,h2⟩ | h | ⟨h1,h2⟩
   ·rw[h2]
    rcases ih (M+128) (id+128) x.2 hc.2 with⟨h3,h4⟩ | h3 | ⟨o,h3,h4,h5⟩
    ·exact .inl ⟨by rw[h1];exact h3,h4⟩
    ·exact .inr (.inl h3)
    ·exact .inr (.inr ⟨o+128,by rw[h3];congr 1;omega,by rw[show M+(o+128)=M+128+o by omega];exact h4,by simp only[List.length_cons]at h5⊢;omega⟩)
   ·exact .inr (.inl h)
   ·exact .inr (.inr ⟨0,h1,h2,by simp only[List.length_cons];omega⟩)
def pL.slots{tv:Nat→Value}{sl sl':Nat→V}{ρ2:Nat→Option RI}{bad2:Nat→Prop}{g2:Nat→Option vA}:∀(cs:List lC) (M:Nat) (x:ND cs),
  (∀s t ow,lC.box s t ow∈cs→sl' s=sl s)→pL w ρ2 bad2 g2 tv sl cs M x→pL w ρ2 bad2 g2 tv sl' cs M x:=by
 have one:∀(c:lC) (M:Nat) (x:c.T),(∀s t ow,c=lC.box s t ow→sl' s=sl s)→lK w ρ2 bad2 g2 tv sl c M x→lK w ρ2 bad2 g2 tv sl' c M x:=by
  intro c M x hs hc;cases c with
  | drop s=>trivial
  | slot s ty=>exact hc
  | own s t=>exact hc
  | box s t ow=>obtain⟨r,h1,h2⟩:=hc;exact⟨r,by rw[hs s t ow rfl];exact h1,h2⟩
 intro cs;induction cs with
 | nil=>intro M x _ _;trivial
 | cons c cs ih=>
  intro M x hs hc;cases cs with
  | nil=>exact one c M x (λs t ow h=>hs s t ow (by simp[h])) hc
  | cons d r=>exact⟨one c M x.1 (λs t ow h=>hs s t ow (by simp[h])) hc.1,ih (M+128) x.2 (λs t ow h=>hs s t ow (List.mem_cons_of_mem _ h)) hc.2⟩
omit [jA]in
def zkR(sl:Nat→V):∀(cs:List lC) (id:Nat) (x:ND cs) (h:Nat→Option vA) (q:Nat) (row:vA),h q=some row→∃row',UO sl cs id x h q=some row':=by
 have up:∀(h:Nat→Option vA) (i:Nat) (y:vA) (q:Nat),(∃row,h q=some row)→∃row',AA h i (some y) q=some row':=by
  intro h i y q hq
  by_cases hi:q=i
  ·subst hi;exact⟨y,QA _ _ _⟩
  ·rw[CA _ _ _ _ hi];exact hq
 have one:∀(c:lC) (id:Nat) (x:c.T) (h:Nat→Option vA) (q:Nat),(∃row,h q=some row)→∃row',rK sl c id x h q=some row':=by
  intro c id x h q hq;cases c with
  | drop s'=>exact hq
  | slot s' ty=>exact hq
  | own s' t=>exact up _ _ _ _ hq
  | box s' t ow=>
   simp only[rK];generalize sl s'=v;cases v with
   | bp r off=>
    cases off with
    | zero=>
     refine up _ _ _ _ ?_;rw[xC];cases bB ow id (λ_=>none) 0 (enc t x) q with
     | some y=>exact⟨_,rfl⟩
     | none=>exact hq
    | succ n=>exact hq
   | _=>exact hq
 intro cs;induction cs with
 | nil=>intro id x h q row hq;exact⟨row,hq⟩
 | cons c cs ih=>
  intro id x h q row hq;cases cs with
  | nil=>exact one c id x h q ⟨row,hq⟩
  | cons d r=>exact one c id x.1 _ q (ih (id+128) x.2 h q row hq)
def zfW{j:JI}{b:St}{ρ':Nat→Option RI}{a':Act}{w':World}{k:ND j.cs→Option R}{r:R}(hb:ZA C w0 outer own ρ b a w)(F0:∀q,b.nx≤q→ρ q=none)
  (hr:ZA C w0 outer own ρ' st' a' w') (hf:∀q,st'.nx≤q→ρ' q=none) (hnx:b.nx≤st'.nx) (hext:∀q qi,ρ q=some qi→ρ' q=some qi)
  (V0:∀s,j.has s=false→st'.s s=b.s s) (SX:oD b.nx (lD j b).h st'.h) (qX:CS j=true) (he:ZG j.cs st' k=some r):
  ∃x,k x=some r∧∃ρ'',ZA C w0 outer own ρ'' (install j b x) a' w'∧(∀q,(install j b x).nx≤q→ρ'' q=none)∧(∀q qi,ρ q=some qi→ρ'' q=some qi)∧oD b.nx b.h (install j b x).h:=by
 have Z8:∀q row,b.h q=some row→ρ q≠none∧q<b.nx:=λq row hq=>by
  obtain⟨ri,h1,_⟩:=hb.heap.rows q row hq;refine⟨by rw[h1];simp,?_⟩
  rcases Nat.lt_or_ge q b.nx with h | h
  ·exact h
  ·rw[F0 q h]at h1;cases h1
 have hhn:∀q,st'.nx≤q→st'.h q=none:=λq hq=>by
  cases hg:st'.h q with
  | none=>rfl
  | some row=>obtain⟨ri,h3,_⟩:=hr.heap.rows _ _ hg;rw[hf q hq]at h3;cases h3
 obtain⟨x,hn,ρ2,g2,hx,E⟩:=zmK (tv:=λs=>a'.tmps.getD s undef) j.cs st'.nx st' k r ρ' st'.h he hr.heap (λ_ _ h=>h) hr.slots hf hhn;let M:=st'.nx;let L:=128 *j.cs.length;let ρ'':Nat→Option RI:=λq=>if q<b.nx then ρ q else if q<b.nx+L then ρ2 (M+(q - b.nx))else none
 let φ:Nat→Nat:=λq=>if q<b.nx then q else M+(q - b.nx)
 have hρ2:∀q qi,ρ q=some qi→ρ2 q=some qi:=λq qi hq=>E.ext _ _ (hext _ _ hq)
 have MV:∀q,ρ q≠none→q<b.nx:=λq hq=>by
  rcases Nat.lt_or_ge q b.nx with h | h
  ·exact h
  ·exact absurd (F0 q h) hq
 have hρlow:∀q,q<b.nx→ρ'' q=ρ q:=λq hq=>by simp only[ρ'',hq,if_true]
 have O3:∀q qi,ρ q=some qi→ρ'' q=some qi:=λq qi hq=>by rw[hρlow q (MV q (by rw[hq];simp))];exact hq
 have hρhi:∀o,o<L→ρ'' (b.nx+o)=ρ2 (M+o):=λo ho=>by
  have h1:¬(b.nx+o<b.nx):=by omega
  have h2:b.nx+o<b.nx+L:=by omega
  simp only[ρ'',h1,h2,if_false,if_true];congr 1;omega
 have hφlow:∀q,q<b.nx→φ q=q:=λq hq=>by simp only[φ,hq,if_true]
 have hφhi:∀q,b.nx≤q→φ q=M+(q - b.nx):=λq hq=>by
  have:¬q<b.nx:=by omega
  simp only[φ,this,if_false]
 have D3:pL w' ρ2 (uA outer ρ2 g2) g2 (λs=>a'.tmps.getD s undef) b.s j.cs M x:=by
  refine pL.slots j.cs M x (λs t ow hm=>?_) E.ok;have:=List.all_eq_true.1 qX _ hm;simp only[Bool.not_eq_true']at this;exact(V0 s this).symm
 -- the rows that stayed
 have VV:∀q row,QH j b q=some row→∃row0,b.h q=some row0∧row0.c=row.c∧∃row2,g2 q=some row2∧row2.c=row.c∧(row.m.isRo=false→row2.m.isRo=false):=λq row hq=>by
  unfold QH at hq;split at hq
  ·rename_i c hc;cases hi:uL j.cs b q
   ·simp only[hi,cond_false,Option.some.injEq]at hq;subst hq;have h1:(lD j b).h q=some ⟨c, .lock⟩:=by simp[lD,hc,hi]
    exact⟨_,hc,rfl,_,E.lies _ _ (E.left (q+1) q _ (by omega) (SX q _ (Z8 q _ hc).2 h1 rfl) rfl),rfl,λ_=>rfl⟩
   ·simp[hi]at hq
  ·rename_i WW;obtain⟨c,m⟩:=row
   have hm:m.isOwn=false:=by
    cases m with
    | own=>exact absurd hq (WW c)
    | ro=>rfl
    | lock=>rfl
   have kY:b.h q=some ⟨c,m⟩:=hq
   have h1:(lD j b).h q=some ⟨c,m⟩:=by
    simp only[lD,kY];cases m with
    | own=>cases hm
    | ro=>rfl
    | lock=>rfl
   exact⟨_,hq,rfl,_,E.lies _ _ (E.left (q+1) q _ (by omega) (SX q _ (Z8 q _ hq).2 h1 hm) hm),rfl,λh=>h⟩
 have HV:∀q row,(install j b x).h q=some row→∃row2,g2 (φ q)=some row2∧(row.m.isRo=false→row2.m.isRo=false)∧ρ'' q=ρ2 (φ q):=λq row hq=>by
  rcases zgk j.cs M b.nx x (QH j b) q row D3 hq with h1 | ⟨h1,h2,_,h4⟩ | ⟨o,ow,es,s,h1,h2,h3,h4,h5,h6⟩
  ·obtain⟨row0,k1,_,row2,k2,_,k3⟩:=VV q row h1;have lZ:=(Z8 q _ k1).2;obtain⟨ri,e1,_⟩:=hb.heap.rows q _ k1;exact⟨row2,by rw[hφlow q lZ];exact k2,k3,by rw[hφlow q lZ,hρlow q lZ,e1,hρ2 q ri e1]⟩
  ·refine⟨row,by rw[hφhi q h1];exact h4,λh=>h,?_⟩;have:=hρhi (q - b.nx) (by omega);rw[show b.nx+(q - b.nx)=q by omega]at this;rw[this,hφhi q h1]
  ·have Q4:=hb.slots s;rw[h6]at Q4;obtain⟨ri,e1,_⟩:=Q4.bp_inv;have lZ:=MV q (by rw[e1];simp);exact⟨_,by rw[hφlow q lZ];exact h2,λ_=>rfl,by rw[hφlow q lZ,hρlow q lZ,e1,hρ2 q ri e1]⟩
 have mW:∀c,uA outer ρ'' (install j b x).h c→uA outer ρ2 g2 c:=by
  rintro c (hc | ⟨q,row,ri,f1,f2,f3,f4,f5⟩)
  ·exact .inl hc
  ·obtain⟨row2,k1,k2,k3⟩:=HV q row f1;rw[k3]at f3;exact .inr ⟨_,row2,ri,k1,k2 f2,f3,f4,f5⟩
 -- what is said ahead holds behind
 have keepB:∀u d,VR w' ρ2 (uA outer ρ2 g2) u d→IB (λq=>ρ q≠none) d→VR w' ρ'' (uA outer ρ'' (install j b x).h) u d:=λu d hu hS=>
  hu.keep hS (λq qi hq h2=>by
   cases h3:ρ q with
   | none=>exact absurd h3 hq
   | some ri=>rw[hρ2 q ri h3]at h2;cases h2;exact O3 q _ h3) (λ_ _ _=>rfl) λc hc=> .inl (mW c hc)
 have hH:rB w0 outer own ρ'' (install j b x).h w':=by
  refine E.heap.sub φ E.heap.wx E.heap.old E.heap.outLt (λq row hq=>?_) (λq q' row row' h1 h2 h3=>?_)
  ·obtain⟨row2,k1,k2,k3⟩:=HV q row hq;obtain⟨ri,e1,e2,e3⟩:=E.heap.rows _ _ k1;refine⟨row2,ri,k1,by rw[k3];exact e1,e1,?_,λhn=>⟨(e3 hn).1.1,λhm=>(e3 hn).1.2 (k2 hm)⟩⟩
   rcases zgk j.cs M b.nx x (QH j b) q row D3 hq with h1 | ⟨h1,h2,⟨t,l,h3⟩,h4⟩ | ⟨o,ow,es,s,h1,h2,h3,h4,h5,h6⟩
   ·obtain⟨row0,f1,f2,row2',f3,f4,_⟩:=VV q row h1;have lZ:=(Z8 q _ f1).2;rw[hφlow q lZ,f3]at k1;cases k1;rw[f4]at e2;obtain⟨rc,rm⟩:=row;cases rc with
    | arr t l=>exact zbm e2 mW ρ''
    | box cs=>
     obtain⟨ri0,g1,g3,_⟩:=hb.heap.rows q _ f1;rw[f2]at g3;refine⟨e2.1,λi hi=>?_⟩;obtain⟨x1,y,x2,x3⟩:=e2.2 i hi;obtain⟨_,y0,_,y3⟩:=g3.2 i hi;exact⟨x1,y,x2,keepB _ _ x3 y3.refs⟩
   ·subst h3;rw[hφhi q h1,h4]at k1;cases k1;exact zbm e2 mW ρ''
   ·have Q4:=hb.slots s;rw[h6]at Q4;obtain⟨ri',e4,_⟩:=Q4.bp_inv;have lZ:=MV q (by rw[e4];simp);rw[hφlow q lZ,h2]at k1;cases k1;subst h1;refine⟨e2.1,λi hi=>?_⟩;rw[FF]at hi;obtain⟨x1,y,x2,x3⟩:=e2.2 i (by rw[FF];exact hi);refine⟨x1,y,x2,?_⟩
    have:=cV (w:=w') (ρ:=ρ2) (ρ2:=ρ'') (bad:=uA outer ρ2 g2) (bad2:=uA outer ρ'' (install j b x).h) ow (M+o) (b.nx+o) es 0 (λi=>(w'.cell? (at_ ri.b i)).getD undef) (λp _ hp _ _=>by
      rw[Nat.add_assoc,Nat.add_assoc];exact hρhi (o+p) (by omega)) h4 mW (λi hi=>by
      obtain⟨_,y,x2,x3⟩:=e2.2 i hi;rw[x2];exact x3) i (by rw[FF];exact hi)
    rw[x2]at this;exact this
  ·have cls:∀q row,(install j b x).h q=some row→φ q=q∧q<b.nx∨b.nx≤q∧φ q=M+(q - b.nx):=λq row _=>by
    rcases Nat.lt_or_ge q b.nx with h | h
    ·exact .inl ⟨hφlow q h,h⟩
    ·exact .inr ⟨h,hφhi q h⟩
   rcases cls q row h1 with⟨c1,c2⟩ | ⟨c1,c2⟩<;>rcases cls q' row' h2 with⟨c3,c4⟩ | ⟨c3,c4⟩<;>omega
 refine⟨x,hx,ρ'',⟨hH,λs=>?_,hr.size,hr.defers,hr.glob⟩,λq hq=>?_,O3,λq row z6 hq hm=>?_⟩
 ·show VR w' ρ'' _ _ (WG j.cs b.nx x (λi=>bif LO j.kill i then .undef else b.s i) s)
  rcases zve (λi=>bif LO j.kill i then .undef else b.s i) s j.cs M b.nx x D3 with⟨h1,h2⟩ | ⟨h1,h2⟩ | ⟨o,h1,h2,h3⟩
  ·rw[h2];cases hk:LO j.kill s
   ·simp only[cond_false];have hhas:j.has s=false:=by simp[JI.has,hk,h1]
    have hv:=E.keep _ _ (hr.slots s);rw[V0 s hhas]at hv;exact keepB _ _ hv (hb.slots s).refs
   ·simp only[cond_true];exact .undef _
  ·exact(h1.noRef h2 ρ'').mono (λ_ _ h=>h) (λ_ _ _=>rfl) λc hc=> .inl (mW c hc)
  ·rw[h1];have hq:=hρhi o h3;have h2:VR w' ρ2 (uA outer ρ2 g2) (a'.tmps.getD s undef) (.ow (M+o)):=h2;generalize a'.tmps.getD s undef=T at h2⊢;cases h2 with
   | ow _ ri e1 e2 e3 e4=>exact .ow _ ri (by rw[hq];exact e1) e2 e3 e4
   | owN _ ri ao e1 e2 e3=>exact .owN _ ri ao (by rw[hq];exact e1) e2 e3
 ·have h1:¬q<b.nx:=by simp only[install]at hq;omega
  have h2:¬q<b.nx+L:=by simp only[install]at hq;omega
  simp only[ρ'',h1,h2,if_false]
 ·have h1:(lD j b).h q=some row:=by
   simp only[lD,hq];obtain⟨c,m⟩:=row;cases m with
   | own=>cases hm
   | ro=>rfl
   | lock=>rfl
  have h2:QH j b q=some row:=by
   simp only[QH,hq];obtain⟨c,m⟩:=row;cases m with
   | own=>cases hm
   | ro=>rfl
   | lock=>rfl
  have h3:g2 q=some row:=E.lies _ _ (E.left (q+1) q _ (by omega) (SX q _ z6 h1 hm) hm);obtain⟨row',h4⟩:=zkR b.s j.cs b.nx x _ q row h2;show UO b.s j.cs b.nx x (QH j b) q=some row
  rcases zgk j.cs M b.nx x (QH j b) q row' D3 h4 with h5 | ⟨h5,_⟩ | ⟨o,ow,es,s,h5,h6,_⟩
  ·rw[h2]at h5;cases h5;exact h4
  ·omega
  ·rw[h3]at h6;cases h6;cases hm
end
end Go.D
namespace Go.D
variable [jA]
section
variable {C:Cx} {w0:World} {outer own:Nat→Prop} {ρ:Nat→Option RI} {st st' b:St} {a:Act} {w:World} {R:Type} {j:JI}
omit [jA]in
def zto(j:JI)(st:St):QF (lD j st).h st.h:=λr row' hr=>by
 simp only[lD]at hr;split at hr
 ·rename_i c hc;cases hi:uL j.cs st r
  ·simp only[hi,cond_false,Option.some.injEq]at hr;subst hr;exact⟨_,hc,rfl,λ_=>rfl⟩
  grind
 grind
omit [jA]in
def zso(b st:St):QF (unlock b st).h st.h:=λr row' hr=>by
 simp only[unlock]at hr;split at hr
 ·rename_i c hc;split at hr
  ·cases hr;exact⟨_,hc,rfl,λ_=>rfl⟩
  grind
 grind
def ZA.lock(hr:ZA C w0 outer own ρ st a w)(j:JI):ZA C w0 outer own ρ (lD j st) a w:=by
 obtain⟨h1,h2⟩:=hr.heap.less (zto j st);exact⟨h1,λi=>h2 _ _ (hr.slots i),hr.size,hr.defers,hr.glob⟩
def ZA.unlock(hr:ZA C w0 outer own ρ st a w)(b:St):ZA C w0 outer own ρ (Go.D.unlock b st) a w:=by
 obtain⟨h1,h2⟩:=hr.heap.less (zso b st);exact⟨h1,λi=>h2 _ _ (hr.slots i),hr.size,hr.defers,hr.glob⟩
omit [jA]in
def zrD{n:Nat}(hk:oD n (lD j b).h st'.h):oD n b.h (unlock b st').h:=λr row hn hr hm=>by
 have h1:(lD j b).h r=some row:=by
  simp only[lD,hr];obtain⟨c,m⟩:=row;cases m with
  | own=>cases hm
  | ro=>rfl
  | lock=>rfl
 have h2:=hk r row hn h1 hm;simp only[unlock,h2,hr];obtain⟨c,m⟩:=row;cases m with
 | own=>cases hm
 | ro=>rfl
 | lock=>rfl
omit [jA]in
def ztq(f:Nat→V)(s:Nat):∀(cs:List lC) (id:Nat) (x:ND cs),nE cs s=false→WG cs id x f s=f s:=by
 have one:∀(c:lC) (r:List lC) (id:Nat) (x:c.T) (f:Nat→V),nE (c :: r) s=false→nE r s=false∧tI c id x f s=f s:=by
  intro c r id x f h;cases c with
  | slot s' ty=>
   simp only[nE,Bool.or_eq_false_iff]at h;refine⟨h.2,CA _ _ _ _ ?_⟩;rintro rfl;simp at h
  | own s' t=>
   simp only[nE,Bool.or_eq_false_iff]at h;refine⟨h.2,CA _ _ _ _ ?_⟩;rintro rfl;simp at h
  | box s' t ow=>exact⟨h,rfl⟩
  | drop s'=>exact⟨h,rfl⟩
 intro cs;induction cs with
 | nil=>intro id x _;rfl
 | cons c cs ih=>
  intro id x h;cases cs with
  | nil=>exact(one c [] id x f h).2
  | cons d r=>
   obtain⟨h1,h2⟩:=one c (d :: r) id x.1 (WG (d :: r) (id+128) x.2 f) h;simp only[WG];rw[h2];exact ih (id+128) x.2 h1
omit [jA]in
def uU(j:JI)(b:St)(x:ND j.cs)(s:Nat)(h:j.has s=false):(install j b x).s s=b.s s:=by
 simp only[JI.has,Bool.or_eq_false_iff]at h;show WG j.cs b.nx x _ s=_
 rw[ztq _ _ _ _ _ h.2,h.1];rfl
end
end Go.D
namespace Go.D
variable [jA]
structure rC(C:Cx)(w0:World)(outer own:Nat→Prop)(D:Nat→Prop)(st:St)(ρ:Nat→Option RI)(st':St)(a':Act)(w':World)(ρ':Nat→Option RI):Prop where
 rel:ZA C w0 outer own ρ' st' a' w'
 ext:∀q qi,ρ q=some qi→ρ' q=some qi
 slots:∀s,¬D s→st'.s s=st.s s
 keeps:oD st.nx st.h st'.h
 nx:st.nx≤st'.nx
 fresh:∀q,st'.nx≤q→ρ' q=none
section
variable {C:Cx} {w0:World} {outer own D:Nat→Prop} {R:Type}
def zvS{w:World}{ρ:Nat→Option RI}{bad:Nat→Prop}{v:Value}(h:VR w ρ bad v (.tup [])):v=undef:=by
 cases h with
 | tup _ vs hs hv=>
  have:vs= #[]:=by simpa using hs
  subst this;rfl
omit [jA]in
def ztf{ops:Array Oper}{tmps:Array Value}{j dj:Nat}(h:(ops[j]?).bind (·.dst)=some dj)(MV:dj<tmps.size):
  yielded ops tmps j=match tmps.getD dj undef with | .bool b=>some b | _=>none:=by
 unfold yielded;rw[h];simp only[Option.bind_some,Array.getElem?_eq_getElem MV,Array.getD_eq_getD_getElem?,Option.getD_some];split<;>split<;>simp_all
omit [jA]in
def zuy(ops:Array Oper){k:Nat}(hk:k<ops.size):JF k (ops.toList.drop k)=(k,ops[k]) :: JF (k+1) (ops.toList.drop (k+1)):=by
 rw[List.drop_eq_getElem_cons (by simpa using hk)];rfl
omit [jA]in
def zug(f:Nat→V)(i:Nat)(v:V)(h:f i=v):AA f i v=f:=by
 funext q
 by_cases hq:q=i
 ·subst hq;rw[QA,h]
 ·rw[CA _ _ _ _ hq]
def zgZ(hC:VF C)(hΦ:fG C){ops:Array Oper}{Q:Exit→Act→World→Prop}{K:St→Option R}{r:R}(nx:Nat)(hD:∀o∈ops,∀d,o.dst=some d→D d):∀(m k:Nat) (st:St) (a:Act) (w:World) (ρ:Nat→Option RI),
  k+m=ops.size→ZA C w0 outer own ρ st a w→(∀q,nx+128 *k≤q→ρ q=none)→xJ C ops nx (JF k (ops.toList.drop k)) st K=some r→
  (∀ st' a' w' ρ',ZA C w0 outer own ρ' st' a' w'→(∀ q,nx+128 *ops.size≤q→ρ' q=none)→(∀ q qi,ρ q=some qi→ρ' q=some qi)→(∀ s,¬ D s→st'.s s=st.s s)→oD nx st.h st'.h→st'.nx=st.nx→
   K st'=some r→Q .normal a' w')→wpOps C.P ops Q (List.range' k m) a w
 | 0,k,st,a,w,ρ,hk,hr,hf,GV,LV=>by
  have:ops.toList.drop k=[]:=List.drop_eq_nil_of_le (by simp;omega);rw[this]at GV;exact LV st a w ρ hr (λq hq=>hf q (by omega)) (λ_ _ h=>h) (λ_ _=>rfl) (oD.refl _ _) rfl GV
 | m+1,k,st,a,w,ρ,hk,hr,hf,GV,LV=>by
  have MV:k<ops.size:=by omega
  have ho:ops[k]?=some ops[k]:=Array.getElem?_eq_getElem MV;rw[zuy ops MV]at GV;rw[List.range'_succ];simp only[wpOps,ho];have hDk:∀d,(ops[k]).dst=some d→D d:=hD _ (Array.getElem_mem MV)
  -- a step
  have step:∀(st0:St),ZA C w0 outer own ρ st0 a w→st0.h=st.h→st0.nx=st.nx→(∀s,¬D s→st0.s s=st.s s)→(qB C (nx+128 *k) ops[k] st0 λst'=>xJ C ops nx (JF (k+1) (ops.toList.drop (k+1))) st' K)=some r→
    (ops[k]).wp C.P a w (wpOps C.P ops Q (List.range' (k+1) m)) Q:=by
   intro st0 hr0 hh0 hnx0 JY GV;rw[vS]at GV;obtain⟨st1,h1,h2⟩:=Option.bind_eq_some_iff.1 GV;have L:=zkv (n:=nx) (i:=nx+128 *k) (by omega) ops[k] st1 h1;refine zmh hr0 hC hΦ ⟨_,hf⟩ (λq _=>hf _ (by omega)) h1 _ Q λa1 w1 hA=>?_;obtain⟨ρ1,NV,hE,hx⟩:=hA;refine zgZ hC hΦ nx hD m (k+1) st1 a1 w1 ρ1 (by omega) NV (λq hq=>by rw[hE q (by omega)];exact hf q (by omega)) h2 λst' a' w' ρ' p1 p2 p3 p4 p5 p6 p7=>?_;refine LV st' a' w' ρ' p1 p2 (λq qi hq=>p3 _ _ (hx q qi hq)) (λs hs=>?_) ?_ (p6.trans (L.nx.trans hnx0)) p7
   ·rw[p4 s hs,L.slots s (λe=>hs (hDk s e)),JY s hs]
   ·rw[←hh0];exact L.rows.trans p5
  have skip:(VA C (ops[k]).dst st (.tup []) λst'=>xJ C ops nx (JF (k+1) (ops.toList.drop (k+1))) st' K)=some r→wpOps C.P ops Q (List.range' (k+1) m) (a.put (ops[k]).dst undef) w:=by
   intro GV;rw[MS]at GV;obtain⟨st1,h1,h2⟩:=Option.bind_eq_some_iff.1 GV;have L:=zdo (π:=λr=>r<nx) (V.tup []) st1 h1;obtain⟨p1,_,_⟩:=hr.put (v:=undef) (d:= .tup []) (.tup [] #[] rfl λj hj=>by simp at hj) h1;refine zgZ hC hΦ nx hD m (k+1) st1 _ w ρ (by omega) p1 (λq hq=>hf q (by omega)) h2 λst' a' w' ρ' q1 q2 q3 q4 q5 q6 q7=>?_;refine LV st' a' w' ρ' q1 q2 q3 (λs hs=>?_) (L.rows.trans q5) (q6.trans L.nx) q7;rw[q4 s hs,L.slots s (λe=>hs (hDk s e))]
  simp only[xJ]at GV;split at GV
  ·rename_i hg;rw[if_pos (by simp[Region.wanted,hg])];exact .inl (step st hr rfl rfl (λ_ _=>rfl) GV)
  ·rename_i j want hg;split at GV
   ·cases GV
   rename_i dj WZ
   have hDj:D dj:=by
    obtain⟨oj,h1,h2⟩:=Option.bind_eq_some_iff.1 WZ;exact hD oj (Array.mem_of_getElem? h1) dj h2
   have hv:=hr.slots dj
   have hyn:∀v,a.tmps.getD dj undef=v→(∀b,v≠ .bool b)→yielded ops a.tmps j=none:=λv hv hn=>by
    unfold yielded;rw[WZ];simp only[Option.bind_some];split
    ·rename_i b hb;rw[Array.getD_eq_getD_getElem?,hb]at hv;exact absurd hv.symm (hn b)
    ·rfl
   split at GV
   ·rename_i hs;rw[hs]at hv;have hy:=hyn _ (zvS hv) (λb h=>by cases h);rw[if_neg (by simp[Region.wanted,hg,hy])];exact skip GV
   ·rename_i t hs;rw[hs]at hv
    have hb:a.tmps.getD dj undef= .bool t:=by
     generalize a.tmps.getD dj undef=v at hv;cases hv;rfl
    have kZ:dj<a.tmps.size:=by
     rcases Nat.lt_or_ge dj a.tmps.size with h | h
     ·exact h
     ·rw[Array.getD_eq_getD_getElem?,Array.getElem?_eq_none h]at hb;cases hb
    have hy:yielded ops a.tmps j=some t:=by rw[ztf WZ kZ,hb]
    have TX:({st with s:=AA st.s dj (.bool t)}:St)=st:=by rw[zug _ _ _ hs]
    have hw:Region.wanted ops[k] (yielded ops a.tmps)=(t==want):=by
     simp only[Region.wanted,hg,hy];cases t<;>cases want<;>rfl
    rw[hw]
    have GV:(bif t==want then qB C (nx+128 *k) ops[k] {st with s:=AA st.s dj (.bool t)} λst'=>xJ C ops nx (JF (k+1) (ops.toList.drop (k+1))) st' K
      else VA C (ops[k]).dst {st with s:=AA st.s dj (.bool t)} (.tup []) λst'=>xJ C ops nx (JF (k+1) (ops.toList.drop (k+1))) st' K)=some r:=by
     cases t<;>exact GV
    rw[TX]at GV;cases b9:t==want
    ·rw[b9]at GV;simp only[Bool.false_eq_true,if_false];exact skip GV
    ·rw[b9]at GV;simp only[if_true];exact .inl (step st hr rfl rfl (λ_ _=>rfl) GV)
   ·cases GV
end
end Go.D
namespace Go.D
variable [jA]
def JD(D:Nat→Prop):Option JI→Prop
 | none=>True
 | some j=>∀s,j.has s=true→D s
def sI(an:An)(D:Nat→Prop):Code→Prop
 | .region id ops _=>(∀o∈ops,∀d,o.dst=some d→D d)∧JD D (UC id an.r)
 | .seq a b=>sI an D a∧sI an D b
 | .cond (.tmp t) a b=>sI an D a∧sI an D b∧JD D (UC (zg1 t a b) an.c)
 | .cond _ a b=>sI an D a∧sI an D b
 | .block id b=>sI an D b∧JD D (UC id an.b)
 | .loop b=>sI an D b∧match JK b with
  | some rid=>JD D (UC rid an.l)
  | none=>True
 | .scope b=>sI an D b
 | _=>True
omit [jA]in
def gV:∀(cs:List lC) (s:Nat),nE cs s=true→∃c∈cs,(∃ty,c= .slot s ty)∨∃t,c= .own s t
 | [],s,h=>by simp[nE]at h
 | .slot s' ty :: r,s,h=>by
  simp only[nE,Bool.or_eq_true]at h
  rcases h with h | h
  ·have:=Nat.eq_of_beq_eq_true h;subst this;exact⟨_,by simp, .inl ⟨ty,rfl⟩⟩
  ·obtain⟨c,h1,h2⟩:=gV r s h;exact⟨c,by simp[h1],h2⟩
 | .own s' t :: r,s,h=>by
  simp only[nE,Bool.or_eq_true]at h
  rcases h with h | h
  ·have:=Nat.eq_of_beq_eq_true h;subst this;exact⟨_,by simp, .inr ⟨t,rfl⟩⟩
  ·obtain⟨c,h1,h2⟩:=gV r s h;exact⟨c,by simp[h1],h2⟩
 | .drop s' :: r,s,h=>by
  obtain⟨c,h1,h2⟩:=gV r s h;exact⟨c,by simp[h1],h2⟩
 | .box s' t ow :: r,s,h=>by
  obtain⟨c,h1,h2⟩:=gV r s h;exact⟨c,by simp[h1],h2⟩
omit [jA]in
def zdH(j:JI)(o:Option JI)(h:fits j o=true):JD (λs=>j.has s=true) o:=by
 cases o with
 | none=>trivial
 | some i=>
  simp only[fits,Bool.and_eq_true,List.all_eq_true]at h;intro s hs;simp only[JI.has,Bool.or_eq_true]at hs
  rcases hs with hs | hs
  ·obtain⟨p,hp,hps⟩:=List.any_eq_true.1 hs;simp only[Bool.and_eq_true,Nat.ble_eq]at hps;have h1:=h.1 p hp;simp only[zl3,Bool.or_eq_true,Bool.and_eq_true]at h1
   rcases h1 with h1 | ⟨h1,h2⟩
   ·obtain⟨q,hq,Q4⟩:=List.any_eq_true.1 h1;simp only[Bool.and_eq_true,Nat.ble_eq]at Q4;have:LO j.kill s=true:=List.any_eq_true.2 ⟨q,hq,by simp only[Bool.and_eq_true,Nat.ble_eq];omega⟩;simp[JI.has,this]
   ·have:=Nat.eq_of_beq_eq_true h1;have hsp:s=p.1:=by omega
    subst hsp;simp[JI.has,h2]
  ·obtain⟨c,h1,h2⟩:=gV _ _ hs;have h3:=h.2 c h1
   rcases h2 with⟨ty,rfl⟩ | ⟨t,rfl⟩<;>exact h3
omit [jA]in
def bH(an:An)(j:JI):∀(c:Code),Code.within an j c=true→sI an (λs=>j.has s=true) c
 | .region id ops d,h=>by
  simp only[Code.within,Bool.and_eq_true,List.all_eq_true]at h;refine⟨λo ho d hd=>?_,zdH j _ h.2⟩;have:=h.1 o (by simpa using ho);rw[hd]at this;exact this
 | .seq a b,h=>by
  simp only[Code.within,Bool.and_eq_true]at h;exact⟨bH an j a h.1,bH an j b h.2⟩
 | .cond c a b,h=>by
  cases c with
  | tmp t=>
   simp only[Code.within,Bool.and_eq_true]at h;exact⟨bH an j a h.1.1,bH an j b h.1.2,zdH j _ h.2⟩
  | _=>
   simp only[Code.within,Bool.and_eq_true]at h;exact⟨bH an j a h.1,bH an j b h.2⟩
 | .block id b,h=>by
  simp only[Code.within,Bool.and_eq_true]at h;exact⟨bH an j b h.1,zdH j _ h.2⟩
 | .loop b,h=>by
  simp only[Code.within,Bool.and_eq_true]at h;refine⟨bH an j b h.1,?_⟩;have h2:=h.2;split
  ·rename_i rid hr;rw[hr]at h2;exact zdH j _ h2
  ·trivial
 | .scope b,h=>bH an j b h
 | .skip,_=>trivial
 | .exit _,_=>trivial
 | .ret,_=>trivial
 | .label _,_=>trivial
 | .goto _,_=>trivial
 | .refuse _,_=>trivial
 | .rangeFunc _ _ _ _,_=>trivial
end Go.D

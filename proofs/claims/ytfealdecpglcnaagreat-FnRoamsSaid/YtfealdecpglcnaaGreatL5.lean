/-
 The plain semantics of whole bodies: regions, branches that meet again, loops. What meets again meets by a tuple of plain data.
-/
import Derived.Test.YtfealdecpglcnaaGreatL4
set_option linter.all false
namespace Go.D
open Option renaming bind→ob
noncomputable section
variable [iA]
inductive Ty where
 | v (t:TN)
 | sl (t:TN)
 | raw
 | cells (t:TN)
  | pt (t:TN)
  | c1 (g:Nat) (t:TN)
 | p1 (g:Nat) (t:TN)
 | c2 (g h:Nat) (t:TN)
@[reducible] def Ty.T:Ty→Type
 | .v t=>El t
 | .sl t=>List (El t)
 | .raw=>V
 | .cells t=>El t
 | .pt t=>El t
 | .c1 _ t=>El t
 | .p1 _ t=>El t
 | .c2 _ _ t=>El t×El t
def IK(t:TN)(a:El t):V:=bif t.isAgg then .agg (enc t a)else match enc t a with
 | c :: _=>c
 | []=> .undef
def zC:(t:Ty)→t.T→V
 | .v t,a=>IK t a
 | .sl t,l=> .sl t l
 | .raw,v=>v
 | .cells t,a=> .agg (enc t a)
 | .pt t,a=> .fp (enc t a) 0
 | .c1 g t,a=> .fn g [.fp (enc t a) 0]
 | .p1 g t,a=> .fp [.fn g [.fp (enc t a) 0]] 0
 | .c2 g h t,a=> .fn g [.fp [.fn h [.fp (enc t a.1) 0]] 0, .fp (enc t a.2) 0]
def gE:(t:Ty)→V→Option t.T
 | .v t,v=>match v with
  | .agg cs=>bif t.isAgg then iF t cs else none
  | v=>bif t.isAgg then none else iF t [v]
 | .sl t,v=>WA t v
 | .raw,v=>some v
 | .cells t,v=>match v with
  | .agg cs=>iF t cs
  | _=>none
 | .pt t,v=>match v with
  | .fp cs 0=>iF t cs
  | _=>none
 | .c1 g t,v=>match v with
  | .fn g' [.fp cs 0]=>bif Nat.beq g' g then iF t cs else none
  | _=>none
 | .p1 g t,v=>match v with
  | .fp [.fn g' [.fp cs 0]] 0=>bif Nat.beq g' g then iF t cs else none
  | _=>none
 | .c2 g h t,v=>match v with
  | .fn g' [.fp [.fn h' [.fp cs 0]] 0, .fp ds 0]=>bif Nat.beq g' g&&Nat.beq h' h then ob (iF t cs) λx=>ob (iF t ds) λy=>some (x,y)else none
  | _=>none
inductive dC where
 | slot (s:Nat) (ty:Ty)
 | own (s:Nat) (t:TN)
 | box (s:Nat) (t:TN) (own:List Nat)
  | drop (s:Nat)
@[reducible] def dC.T:dC→Type
 | .slot _ ty=>ty.T
 | .own _ t=>List (El t)
 | .box _ t _=>El t
 | .drop _=>Unit
@[reducible] def ID:List dC→Type
 | []=>Unit
 | [c]=>c.T
 | c :: d :: r=>c.T×ID (d :: r)
@[reducible] def gB:List Ty→Type
 | []=>Unit
 | [c]=>c.T
 | c :: d :: r=>c.T×gB (d :: r)
def nD:(ts:List Ty)→List V→Option (gB ts)
 | [],[]=>some ()
 | [t],[v]=>gE t v
 | t :: d :: r,v :: vs=>ob (gE t v) λx=>ob (nD (d :: r) vs) λy=>some (x,y)
 | _,_=>none
def cB:(ts:List Ty)→gB ts→List V
 | [],_=>[]
 | [t],x=>[zC t x]
 | t :: d :: r,x=>zC t x.1 :: cB (d :: r) x.2
def zdF:(t:Ty)→t.T→List V
 | .v t,a=>enc t a
 | .sl t,l=>[.sl t l]
 | .raw,v=>[v]
 | .cells t,a=>enc t a
 | .pt t,a=>[.fp (enc t a) 0]
 | .c1 g t,a=>[.fn g [.fp (enc t a) 0]]
 | .p1 g t,a=>[.fp [.fn g [.fp (enc t a) 0]] 0]
 | .c2 g h t,a=>[.fn g [.fp [.fn h [.fp (enc t a.1) 0]] 0, .fp (enc t a.2) 0]]
def rE:(ts:List Ty)→gB ts→List V
 | [],_=>[]
 | [t],x=>zdF t x
 | t :: d :: r,x=>zdF t x.1++rE (d :: r) x.2
def LH:(t:Ty)→List V→Option (t.T×List V)
 | .v t,vs=>(iF t (vs.take (sz t))).bind λa=>some (a,vs.drop (sz t))
 | .sl t,v :: vs=>(WA t v).bind λl=>some (l,vs)
 | .sl _,[]=>none
 | .raw,v :: vs=>some (v,vs)
 | .raw,[]=>none
 | .cells t,vs=>(iF t (vs.take (sz t))).bind λa=>some (a,vs.drop (sz t))
 | .pt _,_=>none
 | .c1 _ _,_=>none
 | .p1 _ _,_=>none
 | .c2 _ _ _,_=>none
def uJ:(ts:List Ty)→List V→Option (gB ts)
 | [],[]=>some ()
 | [t],vs=>(LH t vs).bind λx=>match x.2 with
  | []=>some x.1
  | _=>none
 | t :: d :: r,vs=>(LH t vs).bind λx=>(uJ (d :: r) x.2).bind λy=>some (x.1,y)
 | [],_ :: _=>none
structure JI where
 cs:List dC
 kill:List (Nat×Nat)
 pre:List Nat
structure An where
 c:List (Nat×JI)
 b:List (Nat×JI)
 l:List (Nat×JI)
 r:List (Nat×JI)
 d:List (Nat×List Nat)
inductive Ex where
 | normal
 | exit (id:Nat)
 | ret
def FU:Nat:=Classical.choose (⟨2^64,rfl⟩:∃n:Nat,n=2^64)
omit [iA]in
def zg0:FU=2^64:=Classical.choose_spec (⟨2^64,rfl⟩:∃n:Nat,n=2^64)
section
variable {R:Type}
def uA{σ:Type}:Nat→(σ→(σ→Option R)→Option R)→σ→Option R
 | 0,_,_=>none
 | n+1,f,x=>f x (uA n f)
def aA{σ:Type}(k:σ→Option R)(b:(σ→Option R)→Option R):Option R:=b k
def MC{α:Type}(k:Nat):List (Nat×α)→Option α
 | []=>none
 | (j,x) :: r=>bif Nat.beq j k then some x else MC k r
def LT:(c:dC)→St→(c.T→St→Option R)→Option R
 | .slot s ty,st,k=>match sH st.h (st.s s)with
  | some (v,ids)=>ob (gE ty v) λx=>k x {st with h:=sC st.h ids}
  | none=>none
 | .own s t,st,k=>match dT st.h t (st.s s)with
  | some (l,r)=>k l {st with h:=WO st.h r}
  | none=>none
 | .box s t own,st,k=>match st.s s with
  | .bp r 0=>match st.h r with
   | some ⟨.box cs, .own⟩=>match QD own 0 cs (zA st.h r none)with
    | some (cs',h')=>ob (iF t cs') λx=>k x {st with h:=h'}
    | none=>none
   | _=>none
  | _=>none
 | .drop _,st,k=>k () st
def aH:(cs:List dC)→St→(ID cs→Option R)→Option R
 | [],_,k=>k ()
 | [c],st,k=>LT c st λx _=>k x
 | c :: d :: r,st,k=>LT c st λx st'=>aH (d :: r) st' λy=>k (x,y)
def RL:V→Option Nat
 | .ow r=>some r
 | .ov r _ _ _=>some r
 | _=>none
def HI:(c:dC)→Nat→c.T→(Nat→V)→Nat→V
 | .slot s ty,_,x,f=>zA f s (zC ty x)
 | .own s _,id,_,f=>zA f s (.ow id)
 | .box ..,_,_,f=>f
 | .drop _,_,_,f=>f
def YG:(cs:List dC)→Nat→ID cs→(Nat→V)→Nat→V
 | [],_,_,f=>f
 | [c],id,x,f=>HI c id x f
 | c :: d :: r,id,x,f=>HI c id x.1 (YG (d :: r) (id+128) x.2 f)
def DK(sl:Nat→V):(c:dC)→Nat→c.T→(Nat→Option rA)→Nat→Option rA
 | .slot ..,_,_,h=>h
 | .own _ t,id,x,h=>zA h id (some ⟨.arr t x, .own⟩)
 | .box s t own,id,x,h=>match sl s with
  | .bp r 0=>zA (aB own id h 0 (enc t x)) r (some ⟨.box (OA own id 0 (enc t x)), .own⟩)
  | _=>h
 | .drop _,_,_,h=>h
def gP(sl:Nat→V):(cs:List dC)→Nat→ID cs→(Nat→Option rA)→Nat→Option rA
 | [],_,_,h=>h
 | [c],id,x,h=>DK sl c id x h
 | c :: d :: r,id,x,h=>DK sl c id x.1 (gP sl (d :: r) (id+128) x.2 h)
def TO(kill:List (Nat×Nat))(i:Nat):Bool:=kill.any λp=>Nat.ble p.1 i&&Nat.ble i p.2
def fE:List dC→Nat→Bool
 | [],_=>false
 | .slot s _ :: r,i=>Nat.beq s i||fE r i
 | .own s _ :: r,i=>Nat.beq s i||fE r i
 | .box .. :: r,i=>fE r i
 | .drop _ :: r,i=>fE r i
def qJ(st:St)(r:Nat):dC→Bool
 | .slot .. =>false
 | .own s _=>match RL (st.s s)with|some r'=>Nat.beq r r'|none=>false
 | .box s _ _ | .drop s=>match st.s s with
  | .bp b 0=>Nat.beq r b||match st.h b with
   | some ⟨.box cs,_⟩=>cs.any λc=>match RL c with|some r'=>Nat.beq r r'|none=>false
   | _=>false
  | _=>false
def OL(cs:List dC)(st:St)(r:Nat):Bool:=cs.any (qJ st r)
def WH(j:JI)(base:St):Nat→Option rA:=λr=>match base.h r with
 | some ⟨c, .own⟩=>bif OL j.cs base r then none else some ⟨c, .own⟩
 | x=>x
def install(j:JI)(base:St)(x:ID j.cs):St:=
 { s:=YG j.cs base.nx x fun i=>bif TO j.kill i then .undef else base.s i
   h:=gP base.s j.cs base.nx x (WH j base)
   nx:=base.nx+128 *j.cs.length}
def ZC(j:JI)(st:St):St:=
 { st with h:=fun r=>match st.h r with
   | some ⟨c, .own⟩=>bif OL j.cs st r then some ⟨c, .own⟩else some ⟨c, .lock⟩
   | x=>x}
def unlock(base st:St):St:=
 { st with h:=fun r=>match st.h r with
   | some ⟨c, .lock⟩=>match base.h r with
    | some ⟨_, .own⟩=>some ⟨c, .own⟩
    | _=>some ⟨c, .lock⟩
   | x=>x}
def zgX(st:St)(s:Nat):Option (List Nat):=
 bif Nat.ble 1000000 s then
  match st.s (s - 1000000)with
  | .bp r _=>match st.h r with
   | some ⟨.box cs,_⟩=>match eG st.h cs with
    | some (_,ids)=>some ids
    | none=>none
   | _=>none
  | _=>none
 else match sH st.h (st.s s)with
  | some (_,ids)=>some ids
  | none=>none
def FK(pre:List Nat)(st:St):Option St:=
 match pre with
 | []=>some st
 | s :: r=>match zgX st s with
  | some ids=>FK r {st with h:=sC st.h ids}
  | none=>none
def bL:Code→Option Nat
 | .region id _ _=>some id
 | .seq a b=>match bL a with
  | some i=>some i
  | none=>bL b
 | .cond _ a _=>bL a
 | .block _ b| .loop b| .scope b=>bL b
 | _=>none
def zgB(t:Nat)(a b:Code):Nat:=t *65536+match bL a with
 | some i=>i+1
 | none=>match bL b with
  | some i=>i+1
  | none=>0
def JI.has(j:JI)(i:Nat):Bool:=TO j.kill i||fE j.cs i
def zlx(kill:List (Nat×Nat))(j:JI)(p:Nat×Nat):Bool:=kill.any (λq=>Nat.ble q.1 p.1&&Nat.ble p.2 q.2)||(Nat.beq p.1 p.2&&fE j.cs p.1)
def zw0(j:JI):dC→Bool
 | .slot s _=>j.has s
 | .own s _=>j.has s
 | .box .. | .drop _=>true
def fits(j:JI):Option JI→Bool
 | none=>true
 | some i=>i.kill.all (zlx j.kill j)&&i.cs.all (zw0 j)
def Code.within(an:An)(j:JI):Code→Bool
 | .region id ops _=>ops.toList.all (λo=>match o.dst with|some d=>j.has d|none=>true)&&fits j (MC id an.r)
 | .seq a b=>Code.within an j a&&Code.within an j b
 | .cond (.tmp t) a b=>Code.within an j a&&Code.within an j b&&fits j (MC (zgB t a b) an.c)
 | .cond _ a b=>Code.within an j a&&Code.within an j b
 | .block id b=>Code.within an j b&&fits j (MC id an.b)
 | .loop b=>Code.within an j b&&match bL b with
  | some rid=>fits j (MC rid an.l)
  | none=>true
 | .scope b=>Code.within an j b
 | _=>true
def JS(j:JI):Bool:=j.cs.all λc=>match c with
 | .box s _ _| .drop s=>!(j.has s)
 | _=>true
def nI:List dC→Bool
 | []=>true
 | .slot s _ :: r=>!(fE r s)&&nI r
 | .own s _ :: r=>!(fE r s)&&nI r
 | .box .. :: r=>nI r
 | .drop _ :: r=>nI r
def kH(an:An)(j:JI)(c:Code):Bool:=Code.within an j c&&JS j&&nI j.cs
variable (C:Cx)
def JJ(ops:Array Oper)(nx:Nat):List (Nat×Oper)→St→(St→Option R)→Option R
 | [],st,K=>K st
 | (i,o) :: rest,st,K=>
  match o.guard with
  | none=>oB C (nx+128 *i) o st λst'=>JJ ops nx rest st' K
  | some (j,want)=>match(ops[j]?).bind (·.dst)with
   | none=>none
   | some dj=>match st.s dj with
    | .tup []=>UA C o.dst st (.tup []) λst'=>JJ ops nx rest st' K
    | .bool t=>
     let G:Bool→Option R:=λb=>
      let st:={st with s:=zA st.s dj (.bool b)}
      gd (b==want) (oB C (nx+128 *i) o st λst'=>JJ ops nx rest st' K) (UA C o.dst st (.tup []) λst'=>JJ ops nx rest st' K)
     cond t (G true) (G false)
    | _=>none
def FF{α:Type}:Nat→List α→List (Nat×α)
 | _,[]=>[]
 | i,x :: r=>(i,x) :: FF (i+1) r
structure oD where
 i:Nat
 dst:Option Nat
 ls:List Nat
 rd:List Nat
 wr:List Nat
def SE(r:Nat)(l:List Nat):Bool:=l.any (Nat.beq r)
def tV:Option rA→Option rA
 | some ⟨c, .own⟩=>some ⟨c, .lock⟩
 | x=>x
def EG(rd wr:List Nat)(h:Nat→Option rA):Nat→Option rA:=λr=>bif SE r wr then h r else bif SE r rd then tV (h r)else none
def XL(ls:List Nat)(s:Nat→V):Nat→V:=λt=>bif SE t ls then s t else .undef
def yI(b r:Nat):Bool:=Nat.ble b r&&Nat.blt r (b+128)
def YL(b:Nat)(wr:List Nat)(h h':Nat→Option rA):Nat→Option rA:=λr=>bif SE r wr||yI b r then h' r else h r
def tN(dst:Option Nat)(s s':Nat→V):Nat→V:=match dst with
 | none=>s
 | some d=>zA s d (s' d)
def QF(b:Nat)(o:Oper)(ls rd wr:List Nat)(st:St)(K:St→Option R):Option R:=
 oB C b o {s:=XL ls st.s,h:=EG rd wr st.h,nx:=st.nx} λst'=>K {s:=tN o.dst st.s st'.s,h:=YL b wr st.h st'.h,nx:=st.nx}
def mJ:V→List Nat
 | .ow r=>[r]
 | .ov r _ _ _=>[r]
 | .bp r _=>[r]
 | .ep r _ _ _=>[r]
 | _=>[]
def zgK:V→List Nat
 | .agg cs=>cs.flatMap mJ
 | v=>mJ v
def zmh(h:Nat→Option rA):V→List Nat
 | .bp r _=>r :: match h r with
  | some ⟨.box cs,_⟩=>cs.flatMap mJ
  | _=>[]
 | v=>zgK v
def zl9(h:Nat→Option rA)(r:Nat):Bool:=match h r with
 | some ⟨_, .ro⟩=>true
 | _=>false
def zde(h:Nat→Option rA)(l:List Nat):List Nat×List Nat:=(l.filter (zl9 h),l.filter λr=>!zl9 h r)
def OI(o:Oper)(st:St):List Nat×List Nat:=
 match o.op with
 | .load _ a=>(mJ (opd st.s a),[])
 | .store _ a x=>match opd st.s a with
  | .ep r _ _ _=>let p:=zde st.h (zgK (opd st.s x));(p.1,r :: p.2)
  | v=>([],mJ v)
 | .slice _ x _ _ _=>(mJ (opd st.s x),[])
 | .indexAddr _ x _=>(mJ (opd st.s x),[])
 | .convert _ _ x=>(mJ (opd st.s x),[])
 | .buildSlice _ _ ps=>zde st.h (ps.toList.flatMap λp=>zgK (opd st.s p.2))
 | .makeFunc _ _ cs=>zde st.h (cs.toList.flatMap λx=>zmh st.h (opd st.s x))
 | .call {callee:= .builtin .append,args,argTypes:=_}=>match args.toList with
  | [x,y]=>(mJ (opd st.s y),mJ (opd st.s x))
  | _=>([],[])
 | .call {callee:= .builtin _,args,argTypes:=_}=>(args.toList.flatMap λx=>mJ (opd st.s x),[])
 | .call {callee:=_,args,argTypes:=_}=>zde st.h (args.toList.flatMap λx=>zmh st.h (opd st.s x))
 | _=>([],[])
def GO(o:Oper):List Nat:=o.op.operands.toList.filterMap λx=>match x with
 | .tmp t=>some t
 | _=>none
def zdH(d:Option Nat)(l:List Nat):Bool:=match d with
 | some d=>SE d l
 | none=>false
def AJ(nx:Nat)(e1 e:oD):Bool:=!(zdH e1.dst e.ls)&&!(zdH e.dst e1.ls)&&!(zdH e1.dst e.dst.toList)&&e1.wr.all (λr=>!(SE r e.rd)&&!(SE r e.wr))&&e.wr.all (λr=>!(SE r e1.rd))&&e.rd.all (λr=>!(yI (nx+128 *e1.i) r))&&e.wr.all (λr=>!(yI (nx+128 *e1.i) r))&&e1.rd.all (λr=>!(yI (nx+128 *e.i) r))&&e1.wr.all (λr=>!(yI (nx+128 *e.i) r))
def rJ(mask nx:Nat)(rs:List oD)(e:oD):Bool:=rs.all λe1=>Nat.testBit mask e1.i||AJ nx e1 e
def zaj(ms:List Nat)(es:List Edge):Nat:=es.foldl (λs e=>bif Region.binds .any e then s|||(2^e.on|||ms.getD e.on 0)else s) 0
def gD:List Nat→List Oper→List Nat
 | ms,[]=>ms
 | ms,o :: r=>gD (ms++[zaj ms o.after.toList]) r
def zlp(i:Nat)(o:Oper):Bool:=o.after.toList.all λe=>!(Region.binds .any e)||Nat.blt e.on i
def BJ(ops:Array Oper)(ms:List Nat)(nx:Nat):List (Nat×Oper)→List oD→St→(St→Option R)→Option R
 | [],_,st,K=>K st
 | (i,o) :: rest,rs,st,K=>
  gd (zlp i o) (
  match o.guard with
  | none=>
   let f:=OI o st;let e:oD:=⟨i,o.dst,GO o,f.1,f.2⟩
   gd (rJ (ms.getD i 0) nx rs e) (QF C (nx+128 *i) o e.ls e.rd e.wr st λst'=>BJ ops ms nx rest (e :: rs) st' K) none
  | some (j,want)=>match(ops[j]?).bind (·.dst)with
   | none=>none
   | some dj=>
    let skip:St→Option R:=λst=>
     let e:oD:=⟨i,o.dst,[dj],[],[]⟩
     gd (rJ (ms.getD i 0) nx rs e) (UA C o.dst st (.tup []) λst'=>BJ ops ms nx rest (e :: rs) st' K) none
    match st.s dj with
    | .tup []=>skip st
    | .bool t=>
     let G:Bool→Option R:=λb=>
      let st:={st with s:=zA st.s dj (.bool b)}
      gd (b==want) (
       let f:=OI o st;let e:oD:=⟨i,o.dst,dj :: GO o,f.1,f.2⟩
       gd (rJ (ms.getD i 0) nx rs e) (QF C (nx+128 *i) o e.ls e.rd e.wr st λst'=>BJ ops ms nx rest (e :: rs) st' K) none) (skip st)
     cond t (G true) (G false)
    | _=>none) none
def zmB(pre:List Nat)(ops:Array Oper)(st:St)(K:St→Option R):Option R:=
 match FK pre st with
 | none=>none
 | some st=>BJ C ops (gD [] ops.toList) st.nx (FF 0 ops.toList) [] st λst'=>K {st' with nx:=st.nx+128 *ops.size}
def zaC(pre:List Nat)(draw:Bool)(ops:Array Oper)(st:St)(K:St→Option R):Option R:=
 gd (draw) (zmB C pre ops st K) (
 JJ C ops st.nx (FF 0 ops.toList) st λst'=>K {st' with nx:=st.nx+128 *ops.size})
def TE (an:An):Code→St→(Ex→St→Option R)→Option R
 | .skip,st,K=>K .normal st
 | .region id ops d,st,K=>match MC id an.r with
  | none=>zaC C ((MC id an.d).getD []) d ops st (K .normal)
  | some j=>match FK j.pre st with
   | none=>none
   | some st=>gd (kH an j (.region id ops d)) (
     aA (λy:ID j.cs=>K .normal (install j st y)) λk=>zaC C ((MC id an.d).getD []) d ops (ZC j st) λst'=>aH j.cs st' k) none
 | .seq a b,st,K=>TE an a st λe st'=>match e with
  | .normal=>TE an b st' K
  | e=>K e st'
 | .cond (.tmp t) a b,st,K=>match st.s t with
  | .bool x=>match MC (zgB t a b) an.c with
   | none=>cond x (TE an a st K) (TE an b st K)
   | some j=>match FK j.pre st with
    | none=>none
    | some st=>gd (kH an j a&&kH an j b) (
      aA (λy:ID j.cs=>K .normal (install j st y)) λk=>
       let K':Ex→St→Option R:=λe st'=>match e with
        | .normal=>aH j.cs st' k
        | e=>K e (unlock st st')
       cond x (TE an a (ZC j st) K') (TE an b (ZC j st) K')) none
  | _=>none
 | .block id b,st,K=>match MC id an.b with
  | none=>TE an b st λe st'=>match e with
   | .exit id'=>gd (Nat.beq id' id) (K .normal st') (K e st')
   | e=>K e st'
  | some j=>match FK j.pre st with
   | none=>none
   | some st=>gd (kH an j b) (
     aA (λy:ID j.cs=>K .normal (install j st y)) λk=>
      TE an b (ZC j st) λe st'=>match e with
       | .normal=>aH j.cs st' k
       | .exit id'=>gd (Nat.beq id' id) (aH j.cs st' k) (K e (unlock st st'))
       | e=>K e (unlock st st')) none
 | .loop b,st,K=>match bL b with
  | none=>none
  | some rid=>match MC rid an.l with
   | none=>none
   | some j=>match FK j.pre st with
    | none=>none
    | some st=>gd (kH an j b) (
      aH j.cs (ZC j st) λx0=>uA FU (λ(x:ID j.cs) (k:ID j.cs→Option R)=>
       TE an b (ZC j (install j st x)) λe st'=>match e with
        | .normal=>aH j.cs st' k
        | e=>K e (unlock (install j st x) st')) x0) none
 | .exit id,st,K=>K (.exit id) st
 | .ret,st,K=>K .ret st
 | _,_,_=>none
def FH(P:Program)(st:St):List ResultVar→List (Bool×Nat)→Option (List V)
 | [],[]=>some []
 | .tmp t :: r,(ag,n) :: sh=>match st.s t,FH P st r sh with
  | .agg cs,some vs=>bif ag&&Nat.beq n cs.length then some (cs++vs)else none
  | v,some vs=>bif !ag&&Nat.beq n 1&&v.leaf then some (v :: vs)else none
  | _,none=>none
 | .cell a t :: r,(ag,n) :: sh=>match st.s a,FH P st r sh,bF P t,sF P t with
  | .bp b 0,some vs,some ag',some n'=>match st.h b with
   | some ⟨.box cs,_⟩=>bif (ag==ag')&&Nat.beq n n'&&Nat.beq n cs.length&&(ag||Nat.beq n 1)then some (cs++vs)else none
   | _=>none
  | _,_,_,_=>none
 | _,_=>none
def mF(st:St):List kB→List V→Nat→Option (List V)
 | .plain :: ks,_ :: as,k=>mF st ks as (k+1)
 | .mv _ :: ks,_ :: as,k=>mF st ks as (k+1)
 | .ms :: ks,_ :: as,k=>mF st ks as (k+1)
 | .ptr _ :: ks, .agg cs0 :: as,k=>match st.h (128 *k+127),mF st ks as (k+1)with
  | some ⟨.box cs, .own⟩,some vs=>bif Nat.beq cs.length cs0.length then some (cs++vs)else none
  | _,_=>none
 | [],[],_=>some []
 | _,_,_=>none
def ZB:List kB→List Ty→Bool
 | [],[]=>true
 | .plain :: ks,_ :: ts=>ZB ks ts
 | .ptr _ :: ks, .cells t :: ts=>Nat.ble (sz t) 127&&ZB ks ts
 | .mv _ :: ks, .v t :: ts=>t.isAgg&&Nat.ble (sz t) 127&&ZB ks ts
 | .ms :: ks, .sl _ :: ts=>ZB ks ts
 | _,_=>false
def zar(fn:Func)(body:Code)(an:An)(ks:List kB)(own:List Nat)(shape:List (Bool×Nat))(ts:List Ty)(as:List V):Option (gB ts):=
 TE C an body {s:=λi=>match(sB ks 0 as).drop i with|v :: _=>v| []=> .undef,h:=BA ks 0 as,nx:=128 *ks.length} λe st=>
  match e with
  | .exit _=>none
  | _=>match FH C.P st fn.results.toList shape,mF st ks as 0 with
   | some vs,some us=>match QD own 0 (vs++us) st.h with
    | some (rs,_)=>uJ ts rs
    | none=>none
   | _,_=>none
end
end
end Go.D
namespace Go.D
variable [iA]
section
variable {C:Cx} {w0:World} {outer own:Nat→Prop} {ρ:Nat→Option RI} {st st':St} {a:Act} {w:World} {R:Type}
omit [iA]in
def MP(ow:List Nat):∀(cs:List V) (p:Nat) (h:Nat→Option rA) (x:List V×(Nat→Option rA)),QD ow p cs h=some x→x.1.length=cs.length
 | [],p,h,x,ht=>by simp[QD]at ht;subst ht;rfl
 | c :: cs,p,h,x,ht=>by
  simp only[QD]at ht;cases hb:ow.any (Nat.beq p)
  ·simp only[hb,cond_false]at ht;split at ht
   case h_2=>cases ht
   split at ht
   case h_2=>cases ht
   rename_i hr;have k:=MP ow cs (p+1) _ _ hr;cases ht;simpa using k
  ·simp only[hb,cond_true]at ht;split at ht
   ·split at ht
    case h_2=>cases ht
    split at ht
    case h_2=>cases ht
    rename_i hr;have k:=MP ow cs (p+1) _ _ hr;cases ht;simpa using k
   ·split at ht
    case h_2=>cases ht
    rename_i hr;have k:=MP ow cs (p+1) _ _ hr;cases ht;simpa using k
   ·split at ht
    case h_2=>cases ht
    split at ht
    case h_2=>cases ht
    rename_i hr;have k:=MP ow cs (p+1) _ _ hr;cases ht;simpa using k
   ·cases ht
def yK(w:World)(ρ:Nat→Option RI)(bad:Nat→Prop)(g:Nat→Option rA)(tv:Nat→Value)(sl:Nat→V):(c:dC)→Nat→c.T→Prop
 | .slot s ty,_,x=>VR w ρ bad (tv s) (zC ty x)∧XC (zC ty x)
 | .own s t,id,x=>VR w ρ bad (tv s) (.ow id)∧g id=some ⟨.arr t x, .own⟩
 | .drop _,_,_=>True
 | .box s t ow,id,x=>∃r,sl s= .bp r 0∧g r=some ⟨.box (OA ow id 0 (enc t x)), .own⟩∧∀q,q<128→g (id+q)=aB ow id (λ_=>none) 0 (enc t x) (id+q)
omit [iA]in
def zzv{v:V}{ds:List V}(h:OB [v] ds):∃d,ds=[d]∧dI v d:=by
 cases h with
 | cons h1 h2=>cases h2;exact⟨_,rfl,h1⟩
omit [iA]in
def zvt(t:TN)(x:El t):0<(enc t x).length:=by rw[cD];exact UO t
def zab{t:TN}{cs:List V}{x:El t}{bad:Nat→Prop}{u:Value}(hd:iF t cs=some x)(hv:VR w ρ bad u (.fp cs 0)):VR w ρ bad u (.fp (enc t x) 0):=by
 have hs:=IF t hd;cases hv with
 | fp _ off b o u h0 hb hu hv=>
 exact .fp _ _ b o u (zvt t x) hb (λj hj=>hu j (by rw[hs.len];exact hj)) λj hj=>VR.sub (hs.get j (by rw[hs.len];exact hj) hj) (hv j (by rw[hs.len];exact hj))
def fn1{bad:Nat→Prop}{u:Value}{g:Nat}{c d:V}(h:∀u',VR w ρ bad u' c→VR w ρ bad u' d)(hv:VR w ρ bad u (.fn g [c])):VR w ρ bad u (.fn g [d]):=by
 cases hv with
 | fn _ _ caps hs hv=>
 exact .fn _ _ caps hs λj hj=>by
  have:j=0:=by simp at hj;omega
  subst this;exact h _ (hv 0 (by simp))
def fn2{bad:Nat→Prop}{u:Value}{g:Nat}{c d c' d':V}(h:∀u',VR w ρ bad u' c→VR w ρ bad u' d)(h':∀u',VR w ρ bad u' c'→VR w ρ bad u' d')(hv:VR w ρ bad u (.fn g [c,c'])):VR w ρ bad u (.fn g [d,d']):=by
 cases hv with
 | fn _ _ caps hs hv=>
 exact .fn _ _ caps hs λj hj=>by
  match j,hj with
  | 0,_=>exact h _ (hv 0 (by simp))
  | 1,_=>exact h' _ (hv 1 (by simp))
def fp1{bad:Nat→Prop}{u:Value}{c d:V}(h:∀u',VR w ρ bad u' c→VR w ρ bad u' d)(hv:VR w ρ bad u (.fp [c] 0)):VR w ρ bad u (.fp [d] 0):=by
 cases hv with
 | fp _ off b o u h0 hb hu hv=>
 exact .fp _ _ b o u (by simp) hb (λj hj=>hu j hj) λj hj=>by
  have:j=0:=by simp at hj;omega
  subst this;exact h _ (hv 0 (by simp))
def zkU(ty:Ty)(v:V)(x:ty.T){bad:Nat→Prop}{u:Value}(hd:gE ty v=some x)(hv:VR w ρ bad u v):VR w ρ bad u (zC ty x):=by
 cases ty with
 | v t=>
  simp only[gE]at hd;split at hd
  ·rename_i cs;cases iW:t.isAgg
   case false=>simp[iW]at hd
   simp only[iW,cond_true]at hd;have hs:=IF t hd;simp only[zC,IK,iW,cond_true];cases hv with
   | agg _ vs h1 h2=>
   refine .agg _ _ (by rw[h1];exact hs.len) λj hj=>VR.sub (hs.get j (by rw[hs.len];exact hj) hj) (h2 j (by rw[hs.len];exact hj))
  ·cases iW:t.isAgg
   case true=>simp[iW]at hd
   simp only[iW,cond_false]at hd;obtain⟨d,h1,h2⟩:=zzv (IF t hd);simp only[zC,IK,iW,cond_false,h1];exact VR.sub h2 hv
 | sl t=>exact VR.sub (ZA hd) hv
 | raw=>simp only[gE,Option.some.injEq]at hd;subst hd;exact hv
 | cells t=>
  simp only[gE]at hd;split at hd
  ·have hs:=IF t hd;simp only[zC];cases hv with
   | agg _ vs h1 h2=>
   exact .agg _ _ (by rw[h1];exact hs.len) λj hj=>VR.sub (hs.get j (by rw[hs.len];exact hj) hj) (h2 j (by rw[hs.len];exact hj))
  ·cases hd
 | pt t=>
  simp only[gE]at hd;split at hd
  ·exact zab hd hv
  ·cases hd
 | c1 g t=>
  simp only[gE]at hd;split at hd
  ·rename_i g' cs;cases hg:Nat.beq g' g
   case false=>rw[hg]at hd;cases hd
   rw[hg,cond_true]at hd;have:=Nat.eq_of_beq_eq_true hg;subst this;exact fn1 (λ_=>zab hd) hv
  ·cases hd
 | p1 g t=>
  simp only[gE]at hd;split at hd
  ·rename_i g' cs;cases hg:Nat.beq g' g
   case false=>rw[hg]at hd;cases hd
   rw[hg,cond_true]at hd;have:=Nat.eq_of_beq_eq_true hg;subst this;exact fp1 (λ_=>fn1 λ_=>zab hd) hv
  ·cases hd
 | c2 g h t=>
  simp only[gE]at hd;split at hd
  ·rename_i g' h' cs ds;cases E6:Nat.beq g' g&&Nat.beq h' h
   case false=>rw[E6]at hd;cases hd
   rw[E6,cond_true]at hd;rw[Bool.and_eq_true]at E6;have:=Nat.eq_of_beq_eq_true E6.1;have h2:=Nat.eq_of_beq_eq_true E6.2;subst this h2;obtain⟨a,ha,hd⟩:=Option.bind_eq_some_iff.1 hd;obtain⟨b,hb,hd⟩:=Option.bind_eq_some_iff.1 hd;cases hd;exact fn2 (λ_=>fp1 λ_=>fn1 λ_=>zab ha) (λ_=>zab hb) hv
  ·cases hd
omit [iA]in
def lV(t:TN)(x:El t):XC (.fp (enc t x) 0):=λS=> .fp _ _ λj hj=>by
 have:=WM S t x j;rw[List.getD_eq_getElem?_getD,List.getElem?_eq_getElem hj]at this;exact this
omit [iA]in
def zfA{g:Nat}{c:V}(h:XC c):XC (.fn g [c]):=λS=> .fn _ _ λj hj=>by
 have:j=0:=by simp at hj;omega
 subst this;exact h S
omit [iA]in
def zsZ{g:Nat}{c d:V}(h:XC c)(h':XC d):XC (.fn g [c,d]):=λS=> .fn _ _ λj hj=>by
 match j,hj with
 | 0,_=>exact h S
 | 1,_=>exact h' S
omit [iA]in
def zjY{c:V}(h:XC c):XC (.fp [c] 0):=λS=> .fp _ _ λj hj=>by
 have:j=0:=by simp at hj;omega
 subst this;exact h S
omit [iA]in
def zrs(ty:Ty)(v:V)(x:ty.T)(hd:gE ty v=some x)(hv:XC v):XC (zC ty x):=by
 cases ty with
 | v t=>
  intro S;simp only[zC,IK];cases iW:t.isAgg
  ·simp only[cond_false];split
   ·rename_i c r he;have:=WM S t x 0;rw[he]at this;exact this
   ·exact .undef
  ·refine .agg _ λj hj=>?_;have:=WM S t x j;rw[List.getD_eq_getElem?_getD,List.getElem?_eq_getElem hj]at this;exact this
 | sl t=>exact KM _ _
 | raw=>simp only[gE,Option.some.injEq]at hd;subst hd;exact hv
 | cells t=>
  intro S;simp only[zC];refine .agg _ λj hj=>?_;have:=WM S t x j;rw[List.getD_eq_getElem?_getD,List.getElem?_eq_getElem hj]at this;exact this
 | pt t=>exact lV t x
 | c1 g t=>exact zfA (lV t x)
 | p1 g t=>exact zjY (zfA (lV t x))
 | c2 g h t=>exact zsZ (zjY (zfA (lV t x.1))) (lV t x.2)
structure Ex1(w0:World)(outer own:Nat→Prop)(w:World)(tv:Nat→Value)(c:dC)(id:Nat)(ρ:Nat→Option RI)(g:Nat→Option rA)(st1:St)(x:c.T)(st2:St)(ρ':Nat→Option RI)(g':Nat→Option rA):Prop where
 slots:st2.s=st1.s
 heap:pB w0 outer own ρ' g' w
 lies:oH st2.h g'
 less:∀q,st1.h q=none→st2.h q=none
 left:∀n,bD n st1.h st2.h
 out:∀q,Out id 128 q→ρ' q=ρ q∧(st1.h q=none→g' q=g q)
 ext:∀q qi,ρ q=some qi→ρ' q=some qi
 keep:∀u d,VR w ρ (qA outer ρ g) u d→VR w ρ' (qA outer ρ' g') u d
 ok:yK w ρ' (qA outer ρ' g') g' tv st1.s c id x
 gone:∀s t ow r,c= .box s t ow→st1.s s= .bp r 0→st2.h r=none∧Out id 128 r
def zl1{tv:Nat→Value}(c:dC)(id:Nat)(st1:St)(k:c.T→St→Option R){r:R}{g:Nat→Option rA}(he:LT c st1 k=some r)(hh:pB w0 outer own ρ g w)(hl:oH st1.h g)
  (hv:∀s,VR w ρ (qA outer ρ g) (tv s) (st1.s s)) (hρ:∀q,q<128→ρ (id+q)=none) (hn:∀q,q<128→st1.h (id+q)=none):
  ∃x st2 ρ' g',k x st2=some r∧Ex1 w0 outer own w tv c id ρ g st1 x st2 ρ' g':=by
 have oW:∀q row,st1.h q=some row→Out id 128 q:=λq row hq h3=>by
  have:=hn (q - id) (by omega);rw[show id+(q - id)=q by omega,hq]at this;cases this
 have h0:ρ id=none:=hρ 0 (by omega);have N1:st1.h id=none:=hn 0 (by omega);cases c with
 | drop s=>exact⟨(),st1,ρ,g,he,rfl,hh,hl,λ_ h=>h,λn=>bD.refl n _,λq _=>⟨rfl,λ_=>rfl⟩,λ_ _ h=>h,λ_ _ h=>h,trivial,λs t ow r h=>by cases h⟩
 | slot s ty=>
  simp only[LT]at he;split at he
  case h_2=>cases he
  rename_i v ids dZ;obtain⟨x,hx,he⟩:=Option.bind_eq_some_iff.1 he;obtain⟨k1,k2⟩:=zkO hl dZ;have k2:∀r∈ids,∃row,st1.h r=some row:=k2;obtain⟨m1,m2⟩:=hh.mark ids;obtain⟨f1,f2⟩:=zgW hh (hv s) k1;have Q1:∀r,st1.h r=none→r∉ids:=λr hn hm=>by obtain⟨row,h5⟩:=k2 r hm;rw[hn]at h5;cases h5
  exact⟨x,_,ρ,sC g ids,he,rfl,m1,zfI hl ids,λq hq=>by show sC st1.h ids q=none;rw[DF,if_neg (Q1 q hq)];exact hq,λn=>ZN _ (zbW dZ),
   λq _=>⟨rfl,λhq=>by rw[DF,if_neg (Q1 q hq)]⟩,λ_ _ h=>h,m2,⟨zkU ty v x hx f1,zrs ty v x hx f2⟩,λs t ow r h=>by cases h⟩
 | own s t=>
  simp only[LT]at he;split at he
  case h_2=>cases he
  rename_i l ro yW;have htk0:=yW;have rX:=hv s
  -- a row that has moved
  have moved:∀(q:Nat) (m:qH) (l0:List (El t)) (ri':RI),ro=some q→st1.h q=some ⟨.arr t l0, .own⟩→pB w0 outer own (zA ρ id (some ri')) (zA (zA g q none) id (some ⟨.arr t l, .own⟩)) w→
    (∀u d,VR w ρ (qA outer ρ g) u d→VR w (zA ρ id (some ri')) (qA outer (zA ρ id (some ri')) (zA (zA g q none) id (some ⟨.arr t l, .own⟩))) u d)→
    VR w (zA ρ id (some ri')) (qA outer (zA ρ id (some ri')) (zA (zA g q none) id (some ⟨.arr t l, .own⟩))) (tv s) (.ow id)→
    ∃x st2 ρ' g',k x st2=some r∧Ex1 w0 outer own w tv (.own s t) id ρ g st1 x st2 ρ' g':=by
   rintro q m l0 ri' rfl hq n1 n2 n3;have m9:=oW q _ hq;refine⟨l,_,_,_,he,rfl,n1,λp row hp=>?_,λp hp=>?_,λn=>zjL htk0,λp hp=>⟨AA _ _ _ _ ?_,λR4=>?_⟩,λp pi hp=>?_,n2,⟨n3,MA _ _ _⟩,λs t ow r h=>by cases h⟩
   ·have hp:zA st1.h q none p=some row:=hp
    by_cases vX:p=q
    ·subst vX;rw[MA]at hp;cases hp
    ·rw[AA _ _ _ _ vX]at hp;rw[AA _ _ _ _ (by rintro rfl;rw[N1]at hp;cases hp),AA _ _ _ _ vX];exact hl _ _ hp
   ·show zA st1.h q none p=none
    by_cases vX:p=q
    ·subst vX;exact MA _ _ _
    ·rw[AA _ _ _ _ vX];exact hp
   ·rintro rfl;exact hp ⟨Nat.le_refl _,by omega⟩
   ·rw[AA _ _ _ _ (by rintro rfl;exact hp ⟨Nat.le_refl _,by omega⟩),AA];rintro rfl;rw[hq]at R4;cases R4
   ·rw[AA];exact hp;rintro rfl;rw[h0]at hp;cases hp
  unfold dT at yW;split at yW
  ·rename_i OV;simp only[Option.some.injEq,Prod.mk.injEq]at yW;obtain⟨rfl,rfl⟩:=yW;rw[OV]at rX;have hvn:tv s= .slice none 0 0:=by generalize tv s=x at rX;cases rX;rfl
   obtain⟨n1,n2⟩:=hh.empty t h0;refine⟨[],_,_,_,he,rfl,n1,λp row hp=>?_,λp hp=>hp,λn=>bD.refl n _,λp hp=>⟨AA _ _ _ _ ?_,λR4=>AA _ _ _ _ ?_⟩,λp pi hp=>?_,n2,⟨?_,MA _ _ _⟩,λs t ow r h=>by cases h⟩
   ·have hp:st1.h p=some row:=hp;rw[AA _ _ _ _ (by rintro rfl;rw[N1]at hp;cases hp)];exact hl _ _ hp
   ·rintro rfl;exact hp ⟨Nat.le_refl _,by omega⟩
   ·rintro rfl;exact hp ⟨Nat.le_refl _,by omega⟩
   ·rw[AA];exact hp;rintro rfl;rw[h0]at hp;cases hp
   ·rw[hvn];exact .owN _ ⟨0,0,0,true⟩ none (MA _ _ _) rfl rfl
  ·rename_i q OV;split at yW
   case h_2=>cases yW
   rename_i t' l1 AV;split at yW
   case isFalse=>cases yW
   rename_i e1;subst e1;simp only[MM,Option.some.injEq,Prod.mk.injEq]at yW;obtain⟨rfl,rfl⟩:=yW;rw[OV]at rX;obtain⟨ri,hρq,_⟩:=hh.rows q _ (hl _ _ AV);obtain⟨n1,n2⟩:=hh.rename (hl _ _ AV) hρq h0;refine moved q .own l1 ri rfl AV n1 n2 ?_
   rcases rX.ow_inv hρq with⟨e1,e2,e3,e4⟩|⟨ao,e1,e2,e3⟩
   ·rw[e1];exact .ow _ ri (MA _ _ _) e3 e4 e2
   ·rw[e1];exact .owN _ ri ao (MA _ _ _) e3 e2
  ·rename_i q t0 len OV;split at yW
   case h_2=>cases yW
   rename_i t' l1 AV;split at yW
   case isFalse=>cases yW
   rename_i e1;subst e1;simp only[MM,Option.some.injEq,Prod.mk.injEq]at yW;obtain⟨rfl,rfl⟩:=yW;rw[OV]at rX;obtain⟨ri,hρq,JV,_⟩:=hh.rows q _ (hl _ _ AV);have JY:ri.n=l1.length:=JV.1;obtain⟨ao,cap,h1,h2,h3,h4,h5⟩:=rX.ov_inv hρq
   rcases h3 with⟨rfl,rfl⟩|⟨rfl,UV,hc⟩
   ·-- nothing of it
    obtain⟨k1,k2⟩:=hh.less (bV g q);obtain⟨n1,n2⟩:=k1.empty t' h0;rw[List.take_zero]at he moved;refine moved q .own l1 ⟨0,0,0,true⟩ rfl AV n1 (λu d hu=>n2 _ _ (k2 _ _ hu)) ?_;rw[h1];exact .owN _ ⟨0,0,0,true⟩ ao (MA _ _ _) rfl rfl
   ·rw[Nat.zero_mul]at h1
    rcases JV.2 with h6|⟨_,ce,c1,c2,c3,c4⟩
    ·rw[UV]at h6;cases h6.1
    obtain⟨n1,n2⟩:=hh.move (hl _ _ AV) hρq UV h0 (ri':=⟨ri.b,len,cap,false⟩) rfl rfl w (Wx.refl _) rfl (λ_ _=>rfl) (.arr t' (l1.take len)) λbad BV=>by
     refine⟨by simp;omega, .inr ⟨rfl,ce,h4,h5,λj hj=>c3 j ?_,λi hi j hj=>?_⟩⟩
     ·have:cap *sz t'≤ri.cap *sz t':=Nat.mul_le_mul_right _ (by omega);have hj:j<cap *sz t':=hj;omega
     ·obtain⟨u,f1,f2⟩:=c4 i (by simp at hi;omega) j hj;refine⟨u,f1,?_⟩;rw[List.getElem_take];exact BV _ _ f2
    refine moved q .own l1 _ rfl AV n1 n2 ?_;rw[h1];exact .ow _ ⟨ri.b,len,cap,false⟩ (MA _ _ _) h4 h5 rfl
  ·cases yW
 | box s t ow=>
  simp only[LT]at he;split at he
  case h_2=>cases he
  rename_i q OV;split at he
  case h_2=>cases he
  rename_i cs AV;split at he
  case h_2=>cases he
  rename_i cs' h' RZ;obtain⟨x,hx,he⟩:=Option.bind_eq_some_iff.1 he;have hs:=IF t hx;have m9:=oW q _ AV;have K5:=hl _ _ AV;obtain⟨ri,hρq,JV,_⟩:=hh.rows q _ K5
  have DV:cs.length≤128:=by
   have h1:=MP _ _ _ _ _ RZ;have h2:=hs.len;rw[cD]at h2;have:=zdX t;simp only at h1;omega
  have RV:∀p,st1.h p=none→zA st1.h q none p=none:=λp hp=>by
   by_cases vX:p=q
   ·subst vX;exact MA _ _ _
   ·rw[AA _ _ _ _ vX];exact hp
  obtain⟨ρ1,g1,T,ZZ⟩:=wS ow id 128 cs 0 (zA st1.h q none) h' cs' (enc t x) ρ g (λj=>(w.cell? (at_ ri.b j)).getD undef) RZ hs (by omega) hh
   (λj hj=>by obtain⟨_,y,f1,f2⟩:=JV.2 j hj;rw[f1];exact f2)
   (fun p row hp=>by
    by_cases vX:p=q
    ·subst vX;rw[MA]at hp;cases hp
    ·rw[AA _ _ _ _ vX]at hp;exact hl _ _ hp)
   (λp hp=>RV _ (hn p hp)) (λp _ hp=>hρ p hp)
  have hg1q:g1 q=some ⟨.box cs, .own⟩:=by rw[(T.out q m9).2 (MA _ _ _)];exact K5
  have hρ1:ρ1 q=some ri:=T.ext _ _ hρq;obtain⟨n1,n2⟩:=T.heap.reread hg1q (es:=OA ow id 0 (enc t x)) (by rw[wE];exact ZZ) (λri' h3 j hj=>by rw[hρ1]at h3;cases h3;exact T.vals j hj);have F6:h' q=none:=T.less q (MA _ _ _)
  refine⟨x,_,_,_,he,rfl,n1,λp row hp=>?_,λp hp=>T.less p (RV p hp),λn=>(rL (bD.refl n _) _ none (.inr ⟨_,AV,rfl⟩)).trans (XI (λr=>r<n) _ _ _ _ _ RZ),λp hp=>⟨(T.out p hp).1,λR4=>?_⟩,T.ext,λu d hu=>n2 _ _ (T.keep _ _ hu),
   ⟨q,OV,MA _ _ _,λp hp=>?_⟩,λs' t' ow' r' h1 h2=>?_⟩
  ·have hp:h' p=some row:=hp;rw[AA _ _ _ _ (by rintro rfl;rw[F6]at hp;cases hp)];exact T.lies _ _ hp
  ·rw[AA _ _ _ _ (by rintro rfl;rw[AV]at R4;cases R4),(T.out p hp).2 (RV p R4)]
  ·rw[AA _ _ _ _ (by rintro rfl;exact m9 ⟨by omega,by omega⟩)];exact T.new p (by omega) hp
  ·cases h1;rw[OV]at h2;cases h2;exact⟨F6,m9⟩
def JL(w:World)(ρ:Nat→Option RI)(bad:Nat→Prop)(g:Nat→Option rA)(tv:Nat→Value)(sl:Nat→V):(cs:List dC)→Nat→ID cs→Prop
 | [],_,_=>True
 | [c],id,x=>yK w ρ bad g tv sl c id x
 | c :: d :: r,id,x=>yK w ρ bad g tv sl c id x.1∧JL w ρ bad g tv sl (d :: r) (id+128) x.2
def yK.later{tv:Nat→Value}{sl:Nat→V}{c:dC}{id:Nat}{x:c.T}{ρ ρ':Nat→Option RI}{bad bad':Nat→Prop}{g g':Nat→Option rA}(h:yK w ρ bad g tv sl c id x)
  (hk:∀u d,VR w ρ bad u d→VR w ρ' bad' u d) (hg:∀q,q<128→g' (id+q)=g (id+q)) (hb:∀s t ow r,c= .box s t ow→sl s= .bp r 0→g' r=g r):yK w ρ' bad' g' tv sl c id x:=by
 cases c with
 | drop s=>trivial
 | slot s ty=>exact⟨hk _ _ h.1,h.2⟩
 | own s t=>exact⟨hk _ _ h.1,by rw[show id=id+0 from rfl,hg 0 (by omega)];exact h.2⟩
 | box s t ow=>
  obtain⟨r,h1,h2,h3⟩:=h;exact⟨r,h1,by rw[hb s t ow r rfl h1];exact h2,λq hq=>by rw[hg q hq];exact h3 q hq⟩
structure ExA(w0:World)(outer own:Nat→Prop)(w:World)(tv:Nat→Value)(cs:List dC)(id:Nat)(ρ:Nat→Option RI)(g:Nat→Option rA)(st1:St)(x:ID cs)(hn:Nat→Option rA)(ρ':Nat→Option RI)(g':Nat→Option rA):Prop where
 heap:pB w0 outer own ρ' g' w
 lies:oH hn g'
 left:∀n,bD n st1.h hn
 out:∀q,q<id→ρ' q=ρ q∧(st1.h q=none→g' q=g q)
 fresh:∀q,id+128 *cs.length≤q→ρ' q=none
 ext:∀q qi,ρ q=some qi→ρ' q=some qi
 keep:∀u d,VR w ρ (qA outer ρ g) u d→VR w ρ' (qA outer ρ' g') u d
 ok:JL w ρ' (qA outer ρ' g') g' tv st1.s cs id x
def zmi{tv:Nat→Value}:∀(cs:List dC) (id:Nat) (st1:St) (k:ID cs→Option R) (r:R) (ρ:Nat→Option RI) (g:Nat→Option rA),aH cs st1 k=some r→pB w0 outer own ρ g w→oH st1.h g→
  (∀s,VR w ρ (qA outer ρ g) (tv s) (st1.s s))→(∀q,id≤q→ρ q=none)→(∀q,id≤q→st1.h q=none)→∃x hn ρ' g',k x=some r∧ExA w0 outer own w tv cs id ρ g st1 x hn ρ' g'
 | [],id,st1,k,r,ρ,g,he,hh,hl,hv,hρ,hn=>⟨(),st1.h,ρ,g,he,hh,hl,λn=>bD.refl n _,λq _=>⟨rfl,λ_=>rfl⟩,λq hq=>hρ q (by simpa using hq),λ_ _ h=>h,λ_ _ h=>h,trivial⟩
 | [c],id,st1,k,r,ρ,g,he,hh,hl,hv,hρ,hn=>by
  simp only[aH]at he;obtain⟨x,st2,ρ',g',h1,E⟩:=zl1 c id st1 _ he hh hl hv (λq hq=>hρ _ (by omega)) (λq hq=>hn _ (by omega));refine⟨x,st2.h,ρ',g',h1,E.heap,E.lies,E.left,λq hq=>E.out q (λh=>by omega),λq hq=>?_,E.ext,E.keep,E.ok⟩;simp at hq;rw[(E.out q (λh=>by omega)).1];exact hρ q (by omega)
 | c :: d :: cs,id,st1,k,r,ρ,g,he,hh,hl,hv,hρ,hn=>by
  simp only[aH]at he;obtain⟨x,st2,ρ1,g1,h1,E⟩:=zl1 c id st1 _ he hh hl hv (λq hq=>hρ _ (by omega)) (λq hq=>hn _ (by omega))
  obtain⟨y,I5,ρ',g',h2,F⟩:=zmi (d :: cs) (id+128) st2 _ r ρ1 g1 h1 E.heap E.lies (λs=>by rw[E.slots];exact E.keep _ _ (hv s))
   (λq hq=>by rw[(E.out q (λh=>by omega)).1];exact hρ q (by omega)) (λq hq=>E.less q (hn q (by omega)))
  refine⟨(x,y),I5,ρ',g',h2,F.heap,F.lies,λn=>(E.left n).trans (F.left n),λq hq=>?_,λq hq=>?_,λq qi hq=>F.ext _ _ (E.ext _ _ hq),λu d hu=>F.keep _ _ (E.keep _ _ hu),?_,by rw[←E.slots];exact F.ok⟩
  ·have ho:Out id 128 q:=λh=>by omega
   exact⟨((F.out q (by omega)).1).trans (E.out q ho).1,λhq0=>((F.out q (by omega)).2 (E.less q hq0)).trans ((E.out q ho).2 hq0)⟩
  ·exact F.fresh q (by simp at hq⊢;omega)
  ·refine E.ok.later F.keep (λq hq=>(F.out (id+q) (by omega)).2 (E.less _ (hn _ (by omega)))) λs t ow r h3 h4=>?_;obtain⟨h5,h6⟩:=E.gone s t ow r h3 h4
   have hrlt:r<id:=by
    rcases Nat.lt_or_ge r id with h7|h7
    ·exact h7
    ·obtain⟨ri,h8,_⟩:=(show VR w ρ (qA outer ρ g) (tv s) (.bp r 0)by rw[←h4];exact hv s).bp_inv;rw[hρ r h7]at h8;cases h8
   exact(F.out r (by omega)).2 h5
def zfR{tv:Nat→Value}{sl:Nat→V}{ρ2:Nat→Option RI}{bad2:Nat→Prop}{g2:Nat→Option rA}:∀(cs:List dC) (M id:Nat) (x:ID cs) (h:Nat→Option rA) (q:Nat) (row:rA),
  JL w ρ2 bad2 g2 tv sl cs M x→gP sl cs id x h q=some row→
  h q=some row∨(id≤q∧q<id+128 *cs.length∧(∃t l,row=⟨.arr t l, .own⟩)∧g2 (M+(q - id))=some row)∨
   (∃o ow es s,row=⟨.box (OA ow (id+o) 0 es), .own⟩∧g2 q=some ⟨.box (OA ow (M+o) 0 es), .own⟩∧o+128≤128 *cs.length∧(∀j (hj:j<es.length),XC es[j])∧es.length≤128∧sl s= .bp q 0):=by
 have one:∀(c:dC) (M id:Nat) (x:c.T) (h:Nat→Option rA) (q:Nat) (row:rA),yK w ρ2 bad2 g2 tv sl c M x→DK sl c id x h q=some row→
   h q=some row∨(id≤q∧q<id+128∧(∃t l,row=⟨.arr t l, .own⟩)∧g2 (M+(q - id))=some row)∨
   (∃ow es s,row=⟨.box (OA ow id 0 es), .own⟩∧g2 q=some ⟨.box (OA ow M 0 es), .own⟩∧(∀j (hj:j<es.length),XC es[j])∧es.length≤128∧sl s= .bp q 0):=by
  intro c M id x h q row hc hi;cases c with
  | drop s=>exact .inl hi
  | slot s ty=>exact .inl hi
  | own s t=>
   simp only[DK]at hi
   by_cases hq:q=id
   ·subst hq;rw[MA]at hi;cases hi;exact .inr (.inl ⟨Nat.le_refl _,by omega,⟨_,_,rfl⟩,by rw[Nat.sub_self];exact hc.2⟩)
   ·rw[AA _ _ _ _ hq]at hi;exact .inl hi
  | box s t ow=>
   obtain⟨r,h1,h2,h3⟩:=hc;simp only[DK,h1]at hi
   by_cases hq:q=r
   ·subst hq;rw[MA]at hi;cases hi;refine .inr (.inr ⟨ow,enc t x,s,rfl,h2,λj hj=>?_,by rw[cD];exact zdX t,h1⟩);intro S;have:=WM S t x j;rw[List.getD_eq_getElem?_getD,List.getElem?_eq_getElem hj]at this;exact this
   ·rw[AA _ _ _ _ hq,BB]at hi;split at hi
    ·rename_i y hy;cases hi;obtain⟨t',l,e1,e2,e3⟩:=SD _ _ _ _ _ _ hy;have KV:=zdX t;rw[cD]at e3;refine .inr (.inl ⟨by omega,by omega,⟨t',l,e1⟩,?_⟩);rw[h3 (q - id) (by omega),ER ow M id,show id+(q - id)=q by omega];exact hy
    ·exact .inl hi
 intro cs;induction cs with
 | nil=>intro M id x h q row _ hi;exact .inl hi
 | cons c cs ih=>
  intro M id x h q row hc hi;cases cs with
  | nil=>
   rcases one c M id x h q row hc hi with h1|⟨h1,h2,h3⟩|⟨ow,es,s,h1,h2,h3⟩
   ·exact .inl h1
   ·exact .inr (.inl ⟨h1,by simp only[List.length_cons,List.length_nil];omega,h3⟩)
   ·exact .inr (.inr ⟨0,ow,es,s,h1,h2,by simp only[List.length_cons];omega,h3⟩)
  | cons d r=>
   simp only[gP]at hi
   rcases one c M id x.1 _ q row hc.1 hi with h1|⟨h1,h2,h3⟩|⟨ow,es,s,h1,h2,h3⟩
   ·rcases ih (M+128) (id+128) x.2 h q row hc.2 h1 with h4 | ⟨h4,h5,h6,h7⟩ | ⟨o,ow,es,s,h4,h5,h6,h7⟩
    ·exact .inl h4
    ·refine .inr (.inl ⟨by omega,by simp at h5⊢;omega,h6,?_⟩);rw[show M+(q - id)=M+128+(q - (id+128))by omega];exact h7
    ·refine .inr (.inr ⟨o+128,ow,es,s,?_,?_,by simp at h6⊢;omega,h7⟩)
     ·rw[show id+(o+128)=id+128+o by omega];exact h4
     ·rw[show M+(o+128)=M+128+o by omega];exact h5
   ·exact .inr (.inl ⟨h1,by simp only[List.length_cons];omega,h3⟩)
   ·exact .inr (.inr ⟨0,ow,es,s,h1,h2,by simp only[List.length_cons];omega,h3⟩)
def zuL{tv:Nat→Value}{sl:Nat→V}{ρ2:Nat→Option RI}{bad2:Nat→Prop}{g2:Nat→Option rA}(f:Nat→V)(s:Nat):∀(cs:List dC) (M id:Nat) (x:ID cs),
  JL w ρ2 bad2 g2 tv sl cs M x→(fE cs s=false∧YG cs id x f s=f s)∨(VR w ρ2 bad2 (tv s) (YG cs id x f s)∧XC (YG cs id x f s))∨
   (∃o,YG cs id x f s= .ow (id+o)∧VR w ρ2 bad2 (tv s) (.ow (M+o))∧o<128 *cs.length):=by
 have one:∀(c:dC) (M id:Nat) (x:c.T) (f:Nat→V),yK w ρ2 bad2 g2 tv sl c M x→((∀r,fE (c :: r) s=fE r s)∧HI c id x f s=f s)∨(VR w ρ2 bad2 (tv s) (HI c id x f s)∧XC (HI c id x f s))∨
   (HI c id x f s= .ow id∧VR w ρ2 bad2 (tv s) (.ow M)):=by
  intro c M id x f hc;cases c with
  | slot s' ty=>
   by_cases hs:s=s'
   ·subst hs;simp only[HI,MA];exact .inr (.inl hc)
   ·simp only[HI];rw[AA _ _ _ _ hs];refine .inl ⟨λr=>?_,rfl⟩
    have:Nat.beq s' s=false:=by
     cases hb:Nat.beq s' s with
     | false=>rfl
     | true=>exact absurd (Nat.eq_of_beq_eq_true hb).symm hs
    simp[fE,this]
  | own s' t=>
   by_cases hs:s=s'
   ·subst hs;exact .inr (.inr ⟨MA _ _ _,hc.1⟩)
   ·simp only[HI];rw[AA _ _ _ _ hs];refine .inl ⟨λr=>?_,rfl⟩
    have:Nat.beq s' s=false:=by
     cases hb:Nat.beq s' s with
     | false=>rfl
     | true=>exact absurd (Nat.eq_of_beq_eq_true hb).symm hs
    simp[fE,this]
  | box s' t ow=>exact .inl ⟨λr=>rfl,rfl⟩
  | drop s'=>exact .inl ⟨λr=>rfl,rfl⟩
 intro cs;induction cs with
 | nil=>intro M id x _;exact .inl ⟨rfl,rfl⟩
 | cons c cs ih=>
  intro M id x hc;cases cs with
  | nil=>
   rcases one c M id x f hc with⟨h1,h2⟩|h|⟨h1,h2⟩
   ·exact .inl ⟨by rw[h1];rfl,h2⟩
   ·exact .inr (.inl h)
   ·exact .inr (.inr ⟨0,h1,h2,by simp only[List.length_cons];omega⟩)
  | cons d r=>
   simp only[YG]
   rcases one c M id x.1 (YG (d :: r) (id+128) x.2 f) hc.1 with⟨h1,h2⟩|h|⟨h1,h2⟩
   ·rw[h2]
    rcases ih (M+128) (id+128) x.2 hc.2 with⟨h3,h4⟩|h3|⟨o,h3,h4,h5⟩
    ·exact .inl ⟨by rw[h1];exact h3,h4⟩
    ·exact .inr (.inl h3)
    ·exact .inr (.inr ⟨o+128,by rw[h3];congr 1;omega,by rw[show M+(o+128)=M+128+o by omega];exact h4,by simp only[List.length_cons]at h5⊢;omega⟩)
   ·exact .inr (.inl h)
   ·exact .inr (.inr ⟨0,h1,h2,by simp only[List.length_cons];omega⟩)
def JL.slots{tv:Nat→Value}{sl sl':Nat→V}{ρ2:Nat→Option RI}{bad2:Nat→Prop}{g2:Nat→Option rA}:∀(cs:List dC) (M:Nat) (x:ID cs),
  (∀s t ow,dC.box s t ow∈cs→sl' s=sl s)→JL w ρ2 bad2 g2 tv sl cs M x→JL w ρ2 bad2 g2 tv sl' cs M x:=by
 have one:∀(c:dC) (M:Nat) (x:c.T),(∀s t ow,c=dC.box s t ow→sl' s=sl s)→yK w ρ2 bad2 g2 tv sl c M x→yK w ρ2 bad2 g2 tv sl' c M x:=by
  intro c M x hs hc;cases c with
  | drop s=>trivial
  | slot s ty=>exact hc
  | own s t=>exact hc
  | box s t ow=>obtain⟨r,h1,h2⟩:=hc;exact⟨r,by rw[hs s t ow rfl];exact h1,h2⟩
 intro cs;induction cs with
 | nil=>intro M x _ _;trivial
 | cons c cs ih=>
  intro M x hs hc;cases cs with
  | nil=>exact one c M x (λs t ow h=>hs s t ow (by simp[h])) hc
  | cons d r=>exact⟨one c M x.1 (λs t ow h=>hs s t ow (by simp[h])) hc.1,ih (M+128) x.2 (λs t ow h=>hs s t ow (List.mem_cons_of_mem _ h)) hc.2⟩
omit [iA]in
def zj9(sl:Nat→V):∀(cs:List dC) (id:Nat) (x:ID cs) (h:Nat→Option rA) (q:Nat) (row:rA),h q=some row→∃row',gP sl cs id x h q=some row':=by
 have up:∀(h:Nat→Option rA) (i:Nat) (y:rA) (q:Nat),(∃row,h q=some row)→∃row',zA h i (some y) q=some row':=by
  intro h i y q hq
  by_cases hi:q=i
  ·subst hi;exact⟨y,MA _ _ _⟩
  ·rw[AA _ _ _ _ hi];exact hq
 have one:∀(c:dC) (id:Nat) (x:c.T) (h:Nat→Option rA) (q:Nat),(∃row,h q=some row)→∃row',DK sl c id x h q=some row':=by
  intro c id x h q hq;cases c with
  | drop s'=>exact hq
  | slot s' ty=>exact hq
  | own s' t=>exact up _ _ _ _ hq
  | box s' t ow=>
   simp only[DK];generalize sl s'=v;cases v with
   | bp r off=>
    cases off with
    | zero=>
     refine up _ _ _ _ ?_;rw[BB];cases aB ow id (λ_=>none) 0 (enc t x) q with
     | some y=>exact⟨_,rfl⟩
     | none=>exact hq
    | succ n=>exact hq
   | _=>exact hq
 intro cs;induction cs with
 | nil=>intro id x h q row hq;exact⟨row,hq⟩
 | cons c cs ih=>
  intro id x h q row hq;cases cs with
  | nil=>exact one c id x h q ⟨row,hq⟩
  | cons d r=>exact one c id x.1 _ q (ih (id+128) x.2 h q row hq)
def zfq{j:JI}{b:St}{ρ':Nat→Option RI}{a':Act}{w':World}{k:ID j.cs→Option R}{r:R}(hb:bB C w0 outer own ρ b a w)(SZ:∀q,b.nx≤q→ρ q=none)
  (hr:bB C w0 outer own ρ' st' a' w') (hf:∀q,st'.nx≤q→ρ' q=none) (N5:b.nx≤st'.nx) (hext:∀q qi,ρ q=some qi→ρ' q=some qi)
  (F0:∀s,j.has s=false→st'.s s=b.s s) (qX:bD b.nx (ZC j b).h st'.h) (bX:JS j=true) (he:aH j.cs st' k=some r):
  ∃x,k x=some r∧∃ρ'',bB C w0 outer own ρ'' (install j b x) a' w'∧(∀q,(install j b x).nx≤q→ρ'' q=none)∧(∀q qi,ρ q=some qi→ρ'' q=some qi)∧bD b.nx b.h (install j b x).h:=by
 have n9:∀q row,b.h q=some row→ρ q≠none∧q<b.nx:=λq row hq=>by
  obtain⟨ri,h1,_⟩:=hb.heap.rows q row hq;refine⟨by rw[h1];simp,?_⟩
  rcases Nat.lt_or_ge q b.nx with h|h
  ·exact h
  ·rw[SZ q h]at h1;cases h1
 have hhn:∀q,st'.nx≤q→st'.h q=none:=λq hq=>by
  cases hg:st'.h q with
  | none=>rfl
  | some row=>obtain⟨ri,h3,_⟩:=hr.heap.rows _ _ hg;rw[hf q hq]at h3;cases h3
 obtain⟨x,hn,ρ2,g2,hx,E⟩:=zmi (tv:=λs=>a'.tmps.getD s undef) j.cs st'.nx st' k r ρ' st'.h he hr.heap (λ_ _ h=>h) hr.slots hf hhn;let M:=st'.nx;let L:=128 *j.cs.length;let ρ'':Nat→Option RI:=λq=>if q<b.nx then ρ q else if q<b.nx+L then ρ2 (M+(q - b.nx))else none
 let φ:Nat→Nat:=λq=>if q<b.nx then q else M+(q - b.nx)
 have hρ2:∀q qi,ρ q=some qi→ρ2 q=some qi:=λq qi hq=>E.ext _ _ (hext _ _ hq)
 have FV:∀q,ρ q≠none→q<b.nx:=λq hq=>by
  rcases Nat.lt_or_ge q b.nx with h|h
  ·exact h
  ·exact absurd (SZ q h) hq
 have hρlow:∀q,q<b.nx→ρ'' q=ρ q:=λq hq=>by simp only[ρ'',hq,if_true]
 have J3:∀q qi,ρ q=some qi→ρ'' q=some qi:=λq qi hq=>by rw[hρlow q (FV q (by rw[hq];simp))];exact hq
 have hρhi:∀o,o<L→ρ'' (b.nx+o)=ρ2 (M+o):=λo ho=>by
  have h1:¬(b.nx+o<b.nx):=by omega
  have h2:b.nx+o<b.nx+L:=by omega
  simp only[ρ'',h1,h2,if_false,if_true];congr 1;omega
 have hφlow:∀q,q<b.nx→φ q=q:=λq hq=>by simp only[φ,hq,if_true]
 have hφhi:∀q,b.nx≤q→φ q=M+(q - b.nx):=λq hq=>by
  have:¬q<b.nx:=by omega
  simp only[φ,this,if_false]
 have rY:JL w' ρ2 (qA outer ρ2 g2) g2 (λs=>a'.tmps.getD s undef) b.s j.cs M x:=by
  refine JL.slots j.cs M x (λs t ow hm=>?_) E.ok;have:=List.all_eq_true.1 bX _ hm;simp only[Bool.not_eq_true']at this;exact(F0 s this).symm
 -- the rows that stayed
 have HV:∀q row,WH j b q=some row→∃row0,b.h q=some row0∧row0.c=row.c∧∃row2,g2 q=some row2∧row2.c=row.c∧(row.m.isRo=false→row2.m.isRo=false):=λq row hq=>by
  unfold WH at hq;split at hq
  ·rename_i c hc;cases hi:OL j.cs b q
   ·simp only[hi,cond_false,Option.some.injEq]at hq;subst hq;have h1:(ZC j b).h q=some ⟨c, .lock⟩:=by simp[ZC,hc,hi]
    exact⟨_,hc,rfl,_,E.lies _ _ (E.left (q+1) q _ (by omega) (qX q _ (n9 q _ hc).2 h1 rfl) rfl),rfl,λ_=>rfl⟩
   ·simp[hi]at hq
  ·rename_i HW;obtain⟨c,m⟩:=row
   have hm:m.isOwn=false:=by
    cases m with
    | own=>exact absurd hq (HW c)
    | ro=>rfl
    | lock=>rfl
   have YW:b.h q=some ⟨c,m⟩:=hq
   have h1:(ZC j b).h q=some ⟨c,m⟩:=by
    simp only[ZC,YW];cases m with
    | own=>cases hm
    | ro=>rfl
    | lock=>rfl
   exact⟨_,hq,rfl,_,E.lies _ _ (E.left (q+1) q _ (by omega) (qX q _ (n9 q _ hq).2 h1 hm) hm),rfl,λh=>h⟩
 have AV:∀q row,(install j b x).h q=some row→∃row2,g2 (φ q)=some row2∧(row.m.isRo=false→row2.m.isRo=false)∧ρ'' q=ρ2 (φ q):=λq row hq=>by
  rcases zfR j.cs M b.nx x (WH j b) q row rY hq with h1|⟨h1,h2,_,h4⟩|⟨o,ow,es,s,h1,h2,h3,h4,h5,h6⟩
  ·obtain⟨row0,k1,_,row2,k2,_,k3⟩:=HV q row h1;have RY:=(n9 q _ k1).2;obtain⟨ri,e1,_⟩:=hb.heap.rows q _ k1;exact⟨row2,by rw[hφlow q RY];exact k2,k3,by rw[hφlow q RY,hρlow q RY,e1,hρ2 q ri e1]⟩
  ·refine⟨row,by rw[hφhi q h1];exact h4,λh=>h,?_⟩;have:=hρhi (q - b.nx) (by omega);rw[show b.nx+(q - b.nx)=q by omega]at this;rw[this,hφhi q h1]
  ·have S4:=hb.slots s;rw[h6]at S4;obtain⟨ri,e1,_⟩:=S4.bp_inv;have RY:=FV q (by rw[e1];simp);exact⟨_,by rw[hφlow q RY];exact h2,λ_=>rfl,by rw[hφlow q RY,hρlow q RY,e1,hρ2 q ri e1]⟩
 have YV:∀c,qA outer ρ'' (install j b x).h c→qA outer ρ2 g2 c:=by
  rintro c (hc|⟨q,row,ri,f1,f2,f3,f4,f5⟩)
  ·exact .inl hc
  ·obtain⟨row2,k1,k2,k3⟩:=AV q row f1;rw[k3]at f3;exact .inr ⟨_,row2,ri,k1,k2 f2,f3,f4,f5⟩
 -- what is said ahead holds behind
 have keepB:∀u d,VR w' ρ2 (qA outer ρ2 g2) u d→CB (λq=>ρ q≠none) d→VR w' ρ'' (qA outer ρ'' (install j b x).h) u d:=λu d hu hS=>
  hu.keep hS (λq qi hq h2=>by
   cases h3:ρ q with
   | none=>exact absurd h3 hq
   | some ri=>rw[hρ2 q ri h3]at h2;cases h2;exact J3 q _ h3) (λ_ _ _=>rfl) λc hc=> .inl (YV c hc)
 have hH:pB w0 outer own ρ'' (install j b x).h w':=by
  refine E.heap.sub φ E.heap.wx E.heap.old E.heap.outLt (λq row hq=>?_) (λq q' row row' h1 h2 h3=>?_)
  ·obtain⟨row2,k1,k2,k3⟩:=AV q row hq;obtain⟨ri,e1,e2,e3⟩:=E.heap.rows _ _ k1;refine⟨row2,ri,k1,by rw[k3];exact e1,e1,?_,λhn=>⟨(e3 hn).1.1,λhm=>(e3 hn).1.2 (k2 hm)⟩⟩
   rcases zfR j.cs M b.nx x (WH j b) q row rY hq with h1|⟨h1,h2,⟨t,l,h3⟩,h4⟩|⟨o,ow,es,s,h1,h2,h3,h4,h5,h6⟩
   ·obtain⟨row0,f1,f2,row2',f3,f4,_⟩:=HV q row h1;have RY:=(n9 q _ f1).2;rw[hφlow q RY,f3]at k1;cases k1;rw[f4]at e2;obtain⟨rc,rm⟩:=row;cases rc with
    | arr t l=>exact za9 e2 YV ρ''
    | box cs=>
     obtain⟨ri0,g1,g3,_⟩:=hb.heap.rows q _ f1;rw[f2]at g3;refine⟨e2.1,λi hi=>?_⟩;obtain⟨x1,y,x2,x3⟩:=e2.2 i hi;obtain⟨_,y0,_,y3⟩:=g3.2 i hi;exact⟨x1,y,x2,keepB _ _ x3 y3.refs⟩
   ·subst h3;rw[hφhi q h1,h4]at k1;cases k1;exact za9 e2 YV ρ''
   ·have S4:=hb.slots s;rw[h6]at S4;obtain⟨ri',e4,_⟩:=S4.bp_inv;have RY:=FV q (by rw[e4];simp);rw[hφlow q RY,h2]at k1;cases k1;subst h1;refine⟨e2.1,λi hi=>?_⟩;rw[wE]at hi;obtain⟨x1,y,x2,x3⟩:=e2.2 i (by rw[wE];exact hi);refine⟨x1,y,x2,?_⟩
    have:=KR (w:=w') (ρ:=ρ2) (ρ2:=ρ'') (bad:=qA outer ρ2 g2) (bad2:=qA outer ρ'' (install j b x).h) ow (M+o) (b.nx+o) es 0 (λi=>(w'.cell? (at_ ri.b i)).getD undef) (λp _ hp _ _=>by
      rw[Nat.add_assoc,Nat.add_assoc];exact hρhi (o+p) (by omega)) h4 YV (λi hi=>by
      obtain⟨_,y,x2,x3⟩:=e2.2 i hi;rw[x2];exact x3) i (by rw[wE];exact hi)
    rw[x2]at this;exact this
  ·have cls:∀q row,(install j b x).h q=some row→φ q=q∧q<b.nx∨b.nx≤q∧φ q=M+(q - b.nx):=λq row _=>by
    rcases Nat.lt_or_ge q b.nx with h|h
    ·exact .inl ⟨hφlow q h,h⟩
    ·exact .inr ⟨h,hφhi q h⟩
   rcases cls q row h1 with⟨c1,c2⟩|⟨c1,c2⟩<;>rcases cls q' row' h2 with⟨c3,c4⟩|⟨c3,c4⟩<;>omega
 refine⟨x,hx,ρ'',⟨hH,λs=>?_,hr.size,hr.defers,hr.glob⟩,λq hq=>?_,J3,λq row C6 hq hm=>?_⟩
 ·show VR w' ρ'' _ _ (YG j.cs b.nx x (λi=>bif TO j.kill i then .undef else b.s i) s)
  rcases zuL (λi=>bif TO j.kill i then .undef else b.s i) s j.cs M b.nx x rY with⟨h1,h2⟩|⟨h1,h2⟩|⟨o,h1,h2,h3⟩
  ·rw[h2];cases hk:TO j.kill s
   ·simp only[cond_false];have hhas:j.has s=false:=by simp[JI.has,hk,h1]
    have hv:=E.keep _ _ (hr.slots s);rw[F0 s hhas]at hv;exact keepB _ _ hv (hb.slots s).refs
   ·simp only[cond_true];exact .undef _
  ·exact(h1.noRef h2 ρ'').mono (λ_ _ h=>h) (λ_ _ _=>rfl) λc hc=> .inl (YV c hc)
  ·rw[h1];have hq:=hρhi o h3;have h2:VR w' ρ2 (qA outer ρ2 g2) (a'.tmps.getD s undef) (.ow (M+o)):=h2;generalize a'.tmps.getD s undef=T at h2⊢;cases h2 with
   | ow _ ri e1 e2 e3 e4=>exact .ow _ ri (by rw[hq];exact e1) e2 e3 e4
   | owN _ ri ao e1 e2 e3=>exact .owN _ ri ao (by rw[hq];exact e1) e2 e3
 ·have h1:¬q<b.nx:=by simp only[install]at hq;omega
  have h2:¬q<b.nx+L:=by simp only[install]at hq;omega
  simp only[ρ'',h1,h2,if_false]
 ·have h1:(ZC j b).h q=some row:=by
   simp only[ZC,hq];obtain⟨c,m⟩:=row;cases m with
   | own=>cases hm
   | ro=>rfl
   | lock=>rfl
  have h2:WH j b q=some row:=by
   simp only[WH,hq];obtain⟨c,m⟩:=row;cases m with
   | own=>cases hm
   | ro=>rfl
   | lock=>rfl
  have h3:g2 q=some row:=E.lies _ _ (E.left (q+1) q _ (by omega) (qX q _ C6 h1 hm) hm);obtain⟨row',h4⟩:=zj9 b.s j.cs b.nx x _ q row h2;show gP b.s j.cs b.nx x (WH j b) q=some row
  rcases zfR j.cs M b.nx x (WH j b) q row' rY h4 with h5|⟨h5,_⟩|⟨o,ow,es,s,h5,h6,_⟩
  ·rw[h2]at h5;cases h5;exact h4
  ·omega
  ·rw[h3]at h6;cases h6;cases hm
end
end Go.D
namespace Go.D
variable [iA]
section
variable {C:Cx} {w0:World} {outer own:Nat→Prop} {ρ:Nat→Option RI} {st st' b:St} {a:Act} {w:World} {R:Type} {j:JI}
omit [iA]in
def zsz(j:JI)(st:St):NF (ZC j st).h st.h:=λr row' hr=>by
 simp only[ZC]at hr;split at hr
 ·rename_i c hc;cases hi:OL j.cs st r
  ·simp only[hi,cond_false,Option.some.injEq]at hr;subst hr;exact⟨_,hc,rfl,λ_=>rfl⟩
  grind
 grind
omit [iA]in
def zro(b st:St):NF (unlock b st).h st.h:=λr row' hr=>by
 simp only[unlock]at hr;split at hr
 ·rename_i c hc;split at hr
  ·cases hr;exact⟨_,hc,rfl,λ_=>rfl⟩
  grind
 grind
def bB.lock(hr:bB C w0 outer own ρ st a w)(j:JI):bB C w0 outer own ρ (ZC j st) a w:=by
 obtain⟨h1,h2⟩:=hr.heap.less (zsz j st);exact⟨h1,λi=>h2 _ _ (hr.slots i),hr.size,hr.defers,hr.glob⟩
def bB.unlock(hr:bB C w0 outer own ρ st a w)(b:St):bB C w0 outer own ρ (Go.D.unlock b st) a w:=by
 obtain⟨h1,h2⟩:=hr.heap.less (zro b st);exact⟨h1,λi=>h2 _ _ (hr.slots i),hr.size,hr.defers,hr.glob⟩
omit [iA]in
def zqA{n:Nat}(hk:bD n (ZC j b).h st'.h):bD n b.h (unlock b st').h:=λr row hn hr hm=>by
 have h1:(ZC j b).h r=some row:=by
  simp only[ZC,hr];obtain⟨c,m⟩:=row;cases m with
  | own=>cases hm
  | ro=>rfl
  | lock=>rfl
 have h2:=hk r row hn h1 hm;simp only[unlock,h2,hr];obtain⟨c,m⟩:=row;cases m with
 | own=>cases hm
 | ro=>rfl
 | lock=>rfl
omit [iA]in
def zsB(f:Nat→V)(s:Nat):∀(cs:List dC) (id:Nat) (x:ID cs),fE cs s=false→YG cs id x f s=f s:=by
 have one:∀(c:dC) (r:List dC) (id:Nat) (x:c.T) (f:Nat→V),fE (c :: r) s=false→fE r s=false∧HI c id x f s=f s:=by
  intro c r id x f h;cases c with
  | slot s' ty=>
   simp only[fE,Bool.or_eq_false_iff]at h;refine⟨h.2,AA _ _ _ _ ?_⟩;rintro rfl;simp at h
  | own s' t=>
   simp only[fE,Bool.or_eq_false_iff]at h;refine⟨h.2,AA _ _ _ _ ?_⟩;rintro rfl;simp at h
  | box s' t ow=>exact⟨h,rfl⟩
  | drop s'=>exact⟨h,rfl⟩
 intro cs;induction cs with
 | nil=>intro id x _;rfl
 | cons c cs ih=>
  intro id x h;cases cs with
  | nil=>exact(one c [] id x f h).2
  | cons d r=>
   obtain⟨h1,h2⟩:=one c (d :: r) id x.1 (YG (d :: r) (id+128) x.2 f) h;simp only[YG];rw[h2];exact ih (id+128) x.2 h1
omit [iA]in
def pU(j:JI)(b:St)(x:ID j.cs)(s:Nat)(h:j.has s=false):(install j b x).s s=b.s s:=by
 simp only[JI.has,Bool.or_eq_false_iff]at h;show YG j.cs b.nx x _ s=_
 rw[zsB _ _ _ _ _ h.2,h.1];rfl
end
end Go.D
namespace Go.D
variable [iA]
structure nC(C:Cx)(w0:World)(outer own:Nat→Prop)(D:Nat→Prop)(st:St)(ρ:Nat→Option RI)(st':St)(a':Act)(w':World)(ρ':Nat→Option RI):Prop where
 rel:bB C w0 outer own ρ' st' a' w'
 ext:∀q qi,ρ q=some qi→ρ' q=some qi
 slots:∀s,¬D s→st'.s s=st.s s
 keeps:bD st.nx st.h st'.h
 nx:st.nx≤st'.nx
 fresh:∀q,st'.nx≤q→ρ' q=none
section
variable {C:Cx} {w0:World} {outer own D:Nat→Prop} {R:Type}
def zvr{w:World}{ρ:Nat→Option RI}{bad:Nat→Prop}{v:Value}(h:VR w ρ bad v (.tup [])):v=undef:=by
 cases h with
 | tup _ vs hs hv=>
  have:vs= #[]:=by simpa using hs
  subst this;rfl
omit [iA]in
def zsp{ops:Array Oper}{tmps:Array Value}{j dj:Nat}(h:(ops[j]?).bind (·.dst)=some dj)(FV:dj<tmps.size):
  yielded ops tmps j=match tmps.getD dj undef with| .bool b=>some b|_=>none:=by
 unfold yielded;rw[h];simp only[Option.bind_some,Array.getElem?_eq_getElem FV,Array.getD_eq_getD_getElem?,Option.getD_some];split<;>split<;>simp_all
omit [iA]in
def zt0(ops:Array Oper){k:Nat}(hk:k<ops.size):FF k (ops.toList.drop k)=(k,ops[k]) :: FF (k+1) (ops.toList.drop (k+1)):=by
 rw[List.drop_eq_getElem_cons (by simpa using hk)];rfl
omit [iA]in
def ztE(f:Nat→V)(i:Nat)(v:V)(h:f i=v):zA f i v=f:=by
 funext q
 by_cases hq:q=i
 ·subst hq;rw[MA,h]
 ·rw[AA _ _ _ _ hq]
def zgy(hC:TF C)(hΦ:jG C){ops:Array Oper}{Q:Exit→Act→World→Prop}{K:St→Option R}{r:R}(nx:Nat)(hD:∀o∈ops,∀d,o.dst=some d→D d):∀(m k:Nat) (st:St) (a:Act) (w:World) (ρ:Nat→Option RI),
  k+m=ops.size→bB C w0 outer own ρ st a w→(∀q,nx+128 *k≤q→ρ q=none)→JJ C ops nx (FF k (ops.toList.drop k)) st K=some r→
  (∀ st' a' w' ρ',bB C w0 outer own ρ' st' a' w'→(∀ q,nx+128 *ops.size≤q→ρ' q=none)→(∀ q qi,ρ q=some qi→ρ' q=some qi)→(∀ s,¬ D s→st'.s s=st.s s)→bD nx st.h st'.h→st'.nx=st.nx→
   K st'=some r→Q .normal a' w')→wpOps C.P ops Q (List.range' k m) a w
 | 0,k,st,a,w,ρ,hk,hr,hf,zV,EV=>by
  have:ops.toList.drop k=[]:=List.drop_eq_nil_of_le (by simp;omega);rw[this]at zV;exact EV st a w ρ hr (λq hq=>hf q (by omega)) (λ_ _ h=>h) (λ_ _=>rfl) (bD.refl _ _) rfl zV
 | m+1,k,st,a,w,ρ,hk,hr,hf,zV,EV=>by
  have FV:k<ops.size:=by omega
  have ho:ops[k]?=some ops[k]:=Array.getElem?_eq_getElem FV;rw[zt0 ops FV]at zV;rw[List.range'_succ];simp only[wpOps,ho];have hDk:∀d,(ops[k]).dst=some d→D d:=hD _ (Array.getElem_mem FV)
  -- a step
  have step:∀(st0:St),bB C w0 outer own ρ st0 a w→st0.h=st.h→st0.nx=st.nx→(∀s,¬D s→st0.s s=st.s s)→(oB C (nx+128 *k) ops[k] st0 λst'=>JJ C ops nx (FF (k+1) (ops.toList.drop (k+1))) st' K)=some r→
    (ops[k]).wp C.P a w (wpOps C.P ops Q (List.range' (k+1) m)) Q:=by
   intro st0 hr0 hh0 hnx0 oY zV;rw[BS]at zV;obtain⟨st1,h1,h2⟩:=Option.bind_eq_some_iff.1 zV;have L:=zjI (n:=nx) (i:=nx+128 *k) (by omega) ops[k] st1 h1;refine zlK hr0 hC hΦ ⟨_,hf⟩ (λq _=>hf _ (by omega)) h1 _ Q λa1 w1 hA=>?_;obtain⟨ρ1,LV,hE,hx⟩:=hA;refine zgy hC hΦ nx hD m (k+1) st1 a1 w1 ρ1 (by omega) LV (λq hq=>by rw[hE q (by omega)];exact hf q (by omega)) h2 λst' a' w' ρ' p1 p2 p3 p4 p5 p6 p7=>?_;refine EV st' a' w' ρ' p1 p2 (λq qi hq=>p3 _ _ (hx q qi hq)) (λs hs=>?_) ?_ (p6.trans (L.nx.trans hnx0)) p7
   ·rw[p4 s hs,L.slots s (λe=>hs (hDk s e)),oY s hs]
   ·rw[←hh0];exact L.rows.trans p5
  have skip:(UA C (ops[k]).dst st (.tup []) λst'=>JJ C ops nx (FF (k+1) (ops.toList.drop (k+1))) st' K)=some r→wpOps C.P ops Q (List.range' (k+1) m) (a.put (ops[k]).dst undef) w:=by
   intro zV;rw[RS]at zV;obtain⟨st1,h1,h2⟩:=Option.bind_eq_some_iff.1 zV;have L:=zcR (π:=λr=>r<nx) (V.tup []) st1 h1;obtain⟨p1,_,_⟩:=hr.put (v:=undef) (d:= .tup []) (.tup [] #[] rfl λj hj=>by simp at hj) h1;refine zgy hC hΦ nx hD m (k+1) st1 _ w ρ (by omega) p1 (λq hq=>hf q (by omega)) h2 λst' a' w' ρ' q1 q2 q3 q4 q5 q6 q7=>?_;refine EV st' a' w' ρ' q1 q2 q3 (λs hs=>?_) (L.rows.trans q5) (q6.trans L.nx) q7;rw[q4 s hs,L.slots s (λe=>hs (hDk s e))]
  simp only[JJ]at zV;split at zV
  ·rename_i hg;rw[if_pos (by simp[Region.wanted,hg])];exact .inl (step st hr rfl rfl (λ_ _=>rfl) zV)
  ·rename_i j want hg;split at zV
   ·cases zV
   rename_i dj FZ
   have hDj:D dj:=by
    obtain⟨oj,h1,h2⟩:=Option.bind_eq_some_iff.1 FZ;exact hD oj (Array.mem_of_getElem? h1) dj h2
   have hv:=hr.slots dj
   have hyn:∀v,a.tmps.getD dj undef=v→(∀b,v≠ .bool b)→yielded ops a.tmps j=none:=λv hv hn=>by
    unfold yielded;rw[FZ];simp only[Option.bind_some];split
    ·rename_i b hb;rw[Array.getD_eq_getD_getElem?,hb]at hv;exact absurd hv.symm (hn b)
    ·rfl
   split at zV
   ·rename_i hs;rw[hs]at hv;have hy:=hyn _ (zvr hv) (λb h=>by cases h);rw[if_neg (by simp[Region.wanted,hg,hy])];exact skip zV
   ·rename_i t hs;rw[hs]at hv
    have hb:a.tmps.getD dj undef= .bool t:=by
     generalize a.tmps.getD dj undef=v at hv;cases hv;rfl
    have QY:dj<a.tmps.size:=by
     rcases Nat.lt_or_ge dj a.tmps.size with h|h
     ·exact h
     ·rw[Array.getD_eq_getD_getElem?,Array.getElem?_eq_none h]at hb;cases hb
    have hy:yielded ops a.tmps j=some t:=by rw[zsp FZ QY,hb]
    have DX:({st with s:=zA st.s dj (.bool t)}:St)=st:=by rw[ztE _ _ _ hs]
    have hw:Region.wanted ops[k] (yielded ops a.tmps)=(t==want):=by
     simp only[Region.wanted,hg,hy];cases t<;>cases want<;>rfl
    rw[hw]
    have zV:(bif t==want then oB C (nx+128 *k) ops[k] {st with s:=zA st.s dj (.bool t)} λst'=>JJ C ops nx (FF (k+1) (ops.toList.drop (k+1))) st' K
      else UA C (ops[k]).dst {st with s:=zA st.s dj (.bool t)} (.tup []) λst'=>JJ C ops nx (FF (k+1) (ops.toList.drop (k+1))) st' K)=some r:=by
     cases t<;>exact zV
    rw[DX]at zV;cases o9:t==want
    ·rw[o9]at zV;simp only[Bool.false_eq_true,if_false];exact skip zV
    ·rw[o9]at zV;simp only[if_true];exact .inl (step st hr rfl rfl (λ_ _=>rfl) zV)
   ·cases zV
end
end Go.D
namespace Go.D
variable [iA]
def JD(D:Nat→Prop):Option JI→Prop
 | none=>True
 | some j=>∀s,j.has s=true→D s
def GI(an:An)(D:Nat→Prop):Code→Prop
 | .region id ops _=>(∀o∈ops,∀d,o.dst=some d→D d)∧JD D (MC id an.r)
 | .seq a b=>GI an D a∧GI an D b
 | .cond (.tmp t) a b=>GI an D a∧GI an D b∧JD D (MC (zgB t a b) an.c)
 | .cond _ a b=>GI an D a∧GI an D b
 | .block id b=>GI an D b∧JD D (MC id an.b)
 | .loop b=>GI an D b∧match bL b with
  | some rid=>JD D (MC rid an.l)
  | none=>True
 | .scope b=>GI an D b
 | _=>True
omit [iA]in
def PU:∀(cs:List dC) (s:Nat),fE cs s=true→∃c∈cs,(∃ty,c= .slot s ty)∨∃t,c= .own s t
 | [],s,h=>by simp[fE]at h
 | .slot s' ty :: r,s,h=>by
  simp only[fE,Bool.or_eq_true]at h
  rcases h with h|h
  ·have:=Nat.eq_of_beq_eq_true h;subst this;exact⟨_,by simp, .inl ⟨ty,rfl⟩⟩
  ·obtain⟨c,h1,h2⟩:=PU r s h;exact⟨c,by simp[h1],h2⟩
 | .own s' t :: r,s,h=>by
  simp only[fE,Bool.or_eq_true]at h
  rcases h with h|h
  ·have:=Nat.eq_of_beq_eq_true h;subst this;exact⟨_,by simp, .inr ⟨t,rfl⟩⟩
  ·obtain⟨c,h1,h2⟩:=PU r s h;exact⟨c,by simp[h1],h2⟩
 | .drop s' :: r,s,h=>by
  obtain⟨c,h1,h2⟩:=PU r s h;exact⟨c,by simp[h1],h2⟩
 | .box s' t ow :: r,s,h=>by
  obtain⟨c,h1,h2⟩:=PU r s h;exact⟨c,by simp[h1],h2⟩
omit [iA]in
def zdc(j:JI)(o:Option JI)(h:fits j o=true):JD (λs=>j.has s=true) o:=by
 cases o with
 | none=>trivial
 | some i=>
  simp only[fits,Bool.and_eq_true,List.all_eq_true]at h;intro s hs;simp only[JI.has,Bool.or_eq_true]at hs
  rcases hs with hs|hs
  ·obtain⟨p,hp,hps⟩:=List.any_eq_true.1 hs;simp only[Bool.and_eq_true,Nat.ble_eq]at hps;have h1:=h.1 p hp;simp only[zlx,Bool.or_eq_true,Bool.and_eq_true]at h1
   rcases h1 with h1|⟨h1,h2⟩
   ·obtain⟨q,hq,S4⟩:=List.any_eq_true.1 h1;simp only[Bool.and_eq_true,Nat.ble_eq]at S4;have:TO j.kill s=true:=List.any_eq_true.2 ⟨q,hq,by simp only[Bool.and_eq_true,Nat.ble_eq];omega⟩;simp[JI.has,this]
   ·have:=Nat.eq_of_beq_eq_true h1;have G6:s=p.1:=by omega
    subst G6;simp[JI.has,h2]
  ·obtain⟨c,h1,h2⟩:=PU _ _ hs;have h3:=h.2 c h1
   rcases h2 with⟨ty,rfl⟩|⟨t,rfl⟩<;>exact h3
omit [iA]in
def gH(an:An)(j:JI):∀(c:Code),Code.within an j c=true→GI an (λs=>j.has s=true) c
 | .region id ops d,h=>by
  simp only[Code.within,Bool.and_eq_true,List.all_eq_true]at h;refine⟨λo ho d hd=>?_,zdc j _ h.2⟩;have:=h.1 o (by simpa using ho);rw[hd]at this;exact this
 | .seq a b,h=>by
  simp only[Code.within,Bool.and_eq_true]at h;exact⟨gH an j a h.1,gH an j b h.2⟩
 | .cond c a b,h=>by
  cases c with
  | tmp t=>
   simp only[Code.within,Bool.and_eq_true]at h;exact⟨gH an j a h.1.1,gH an j b h.1.2,zdc j _ h.2⟩
  | _=>
   simp only[Code.within,Bool.and_eq_true]at h;exact⟨gH an j a h.1,gH an j b h.2⟩
 | .block id b,h=>by
  simp only[Code.within,Bool.and_eq_true]at h;exact⟨gH an j b h.1,zdc j _ h.2⟩
 | .loop b,h=>by
  simp only[Code.within,Bool.and_eq_true]at h;refine⟨gH an j b h.1,?_⟩;have h2:=h.2;split
  ·rename_i rid hr;rw[hr]at h2;exact zdc j _ h2
  ·trivial
 | .scope b,h=>gH an j b h
 | .skip,_=>trivial
 | .exit _,_=>trivial
 | .ret,_=>trivial
 | .label _,_=>trivial
 | .goto _,_=>trivial
 | .refuse _,_=>trivial
 | .rangeFunc _ _ _ _,_=>trivial
end Go.D

/-
 The plain semantics of whole bodies: regions, branches that meet again, loops. What meets again meets by a tuple of plain data.
-/
import Derived.Test.YtfealdecpglcnaaGreatL4
set_option linter.all false
namespace Go.D
open Option renaming bind→ob
noncomputable section
variable [jA]
inductive Ty where
 | v (t:TN)
 | sl (t:TN)
 | raw
 | cells (t:TN)
  | pt (t:TN)
  | c1 (g:Nat) (t:TN)
 | p1 (g:Nat) (t:TN)
 | c2 (g h:Nat) (t:TN)
@[reducible] def Ty.T:Ty→Type
 | .v t=>El t
 | .sl t=>List (El t)
 | .raw=>V
 | .cells t=>El t
 | .pt t=>El t
 | .c1 _ t=>El t
 | .p1 _ t=>El t
 | .c2 _ _ t=>El t×El t
def jK(t:TN)(a:El t):V:=bif t.isAgg then .agg (enc t a)else match enc t a with
 | c :: _=>c
 | []=> .undef
def EC:(t:Ty)→t.T→V
 | .v t,a=>jK t a
 | .sl t,l=> .sl t l
 | .raw,v=>v
 | .cells t,a=> .agg (enc t a)
 | .pt t,a=> .fp (enc t a) 0
 | .c1 g t,a=> .fn g [.fp (enc t a) 0]
 | .p1 g t,a=> .fp [.fn g [.fp (enc t a) 0]] 0
 | .c2 g h t,a=> .fn g [.fp [.fn h [.fp (enc t a.1) 0]] 0, .fp (enc t a.2) 0]
def jE:(t:Ty)→V→Option t.T
 | .v t,v=>match v with
  | .agg cs=>bif t.isAgg then fF t cs else none
  | v=>bif t.isAgg then none else fF t [v]
 | .sl t,v=>WA t v
 | .raw,v=>some v
 | .cells t,v=>match v with
  | .agg cs=>fF t cs
  | _=>none
 | .pt t,v=>match v with
  | .fp cs 0=>fF t cs
  | _=>none
 | .c1 g t,v=>match v with
  | .fn g' [.fp cs 0]=>bif Nat.beq g' g then fF t cs else none
  | _=>none
 | .p1 g t,v=>match v with
  | .fp [.fn g' [.fp cs 0]] 0=>bif Nat.beq g' g then fF t cs else none
  | _=>none
 | .c2 g h t,v=>match v with
  | .fn g' [.fp [.fn h' [.fp cs 0]] 0, .fp ds 0]=>bif Nat.beq g' g&&Nat.beq h' h then ob (fF t cs) λx=>ob (fF t ds) λy=>some (x,y)else none
  | _=>none
inductive jC where
 | slot (s:Nat) (ty:Ty)
 | own (s:Nat) (t:TN)
 | box (s:Nat) (t:TN) (own:List Nat)
  | drop (s:Nat)
@[reducible] def jC.T:jC→Type
 | .slot _ ty=>ty.T
 | .own _ t=>List (El t)
 | .box _ t _=>El t
 | .drop _=>Unit
@[reducible] def HD:List jC→Type
 | []=>Unit
 | [c]=>c.T
 | c :: d :: r=>c.T×HD (d :: r)
@[reducible] def iB:List Ty→Type
 | []=>Unit
 | [c]=>c.T
 | c :: d :: r=>c.T×iB (d :: r)
def rD:(ts:List Ty)→List V→Option (iB ts)
 | [],[]=>some ()
 | [t],[v]=>jE t v
 | t :: d :: r,v :: vs=>ob (jE t v) λx=>ob (rD (d :: r) vs) λy=>some (x,y)
 | _,_=>none
def cB:(ts:List Ty)→iB ts→List V
 | [],_=>[]
 | [t],x=>[EC t x]
 | t :: d :: r,x=>EC t x.1 :: cB (d :: r) x.2
def zdm:(t:Ty)→t.T→List V
 | .v t,a=>enc t a
 | .sl t,l=>[.sl t l]
 | .raw,v=>[v]
 | .cells t,a=>enc t a
 | .pt t,a=>[.fp (enc t a) 0]
 | .c1 g t,a=>[.fn g [.fp (enc t a) 0]]
 | .p1 g t,a=>[.fp [.fn g [.fp (enc t a) 0]] 0]
 | .c2 g h t,a=>[.fn g [.fp [.fn h [.fp (enc t a.1) 0]] 0, .fp (enc t a.2) 0]]
def qE:(ts:List Ty)→iB ts→List V
 | [],_=>[]
 | [t],x=>zdm t x
 | t :: d :: r,x=>zdm t x.1++qE (d :: r) x.2
def tH:(t:Ty)→List V→Option (t.T×List V)
 | .v t,vs=>(fF t (vs.take (sz t))).bind λa=>some (a,vs.drop (sz t))
 | .sl t,v :: vs=>(WA t v).bind λl=>some (l,vs)
 | .sl _,[]=>none
 | .raw,v :: vs=>some (v,vs)
 | .raw,[]=>none
 | .cells t,vs=>(fF t (vs.take (sz t))).bind λa=>some (a,vs.drop (sz t))
 | .pt _,_=>none
 | .c1 _ _,_=>none
 | .p1 _ _,_=>none
 | .c2 _ _ _,_=>none
def VI:(ts:List Ty)→List V→Option (iB ts)
 | [],[]=>some ()
 | [t],vs=>(tH t vs).bind λx=>match x.2 with
  | []=>some x.1
  | _=>none
 | t :: d :: r,vs=>(tH t vs).bind λx=>(VI (d :: r) x.2).bind λy=>some (x.1,y)
 | [],_ :: _=>none
structure JI where
 cs:List jC
 kill:List (Nat×Nat)
 pre:List Nat
structure An where
 c:List (Nat×JI)
 b:List (Nat×JI)
 l:List (Nat×JI)
 r:List (Nat×JI)
 d:List (Nat×List Nat)
inductive Ex where
 | normal
 | exit (id:Nat)
 | ret
def FU:Nat:=Classical.choose (⟨2^64,rfl⟩:∃n:Nat,n=2^64)
omit [jA]in
def zds:FU=2^64:=Classical.choose_spec (⟨2^64,rfl⟩:∃n:Nat,n=2^64)
section
variable {R:Type}
def qA{σ:Type}:Nat→(σ→(σ→Option R)→Option R)→σ→Option R
 | 0,_,_=>none
 | n+1,f,x=>f x (qA n f)
def aA{σ:Type}(k:σ→Option R)(b:(σ→Option R)→Option R):Option R:=b k
def OC{α:Type}(k:Nat):List (Nat×α)→Option α
 | []=>none
 | (j,x) :: r=>bif Nat.beq j k then some x else OC k r
def eT:(c:jC)→St→(c.T→St→Option R)→Option R
 | .slot s ty,st,k=>match fH st.h (st.s s)with
  | some (v,ids)=>ob (jE ty v) λx=>k x {st with h:=yC st.h ids}
  | none=>none
 | .own s t,st,k=>match yS st.h t (st.s s)with
  | some (l,r)=>k l {st with h:=pO st.h r}
  | none=>none
 | .box s t own,st,k=>match st.s s with
  | .bp r 0=>match st.h r with
   | some ⟨.box cs, .own⟩=>match OD own 0 cs (zA st.h r none)with
    | some (cs',h')=>ob (fF t cs') λx=>k x {st with h:=h'}
    | none=>none
   | _=>none
  | _=>none
 | .drop _,st,k=>k () st
def PG:(cs:List jC)→St→(HD cs→Option R)→Option R
 | [],_,k=>k ()
 | [c],st,k=>eT c st λx _=>k x
 | c :: d :: r,st,k=>eT c st λx st'=>PG (d :: r) st' λy=>k (x,y)
def eL:V→Option Nat
 | .ow r=>some r
 | .ov r _ _ _=>some r
 | _=>none
def gI:(c:jC)→Nat→c.T→(Nat→V)→Nat→V
 | .slot s ty,_,x,f=>zA f s (EC ty x)
 | .own s _,id,_,f=>zA f s (.ow id)
 | .box ..,_,_,f=>f
 | .drop _,_,_,f=>f
def KG:(cs:List jC)→Nat→HD cs→(Nat→V)→Nat→V
 | [],_,_,f=>f
 | [c],id,x,f=>gI c id x f
 | c :: d :: r,id,x,f=>gI c id x.1 (KG (d :: r) (id+128) x.2 f)
def eK(sl:Nat→V):(c:jC)→Nat→c.T→(Nat→Option tA)→Nat→Option tA
 | .slot ..,_,_,h=>h
 | .own _ t,id,x,h=>zA h id (some ⟨.arr t x, .own⟩)
 | .box s t own,id,x,h=>match sl s with
  | .bp r 0=>zA (aB own id h 0 (enc t x)) r (some ⟨.box (SA own id 0 (enc t x)), .own⟩)
  | _=>h
 | .drop _,_,_,h=>h
def yO(sl:Nat→V):(cs:List jC)→Nat→HD cs→(Nat→Option tA)→Nat→Option tA
 | [],_,_,h=>h
 | [c],id,x,h=>eK sl c id x h
 | c :: d :: r,id,x,h=>eK sl c id x.1 (yO sl (d :: r) (id+128) x.2 h)
def lO(kill:List (Nat×Nat))(i:Nat):Bool:=kill.any λp=>Nat.ble p.1 i&&Nat.ble i p.2
def gE:List jC→Nat→Bool
 | [],_=>false
 | .slot s _ :: r,i=>Nat.beq s i||gE r i
 | .own s _ :: r,i=>Nat.beq s i||gE r i
 | .box .. :: r,i=>gE r i
 | .drop _ :: r,i=>gE r i
def QI(st:St)(r:Nat):jC→Bool
 | .slot .. =>false
 | .own s _=>match eL (st.s s)with | some r'=>Nat.beq r r' | none=>false
 | .box s _ _ | .drop s=>match st.s s with
  | .bp b 0=>Nat.beq r b||match st.h b with
   | some ⟨.box cs,_⟩=>cs.any λc=>match eL c with | some r'=>Nat.beq r r' | none=>false
   | _=>false
  | _=>false
def cL(cs:List jC)(st:St)(r:Nat):Bool:=cs.any (QI st r)
def BH(j:JI)(base:St):Nat→Option tA:=λr=>match base.h r with
 | some ⟨c, .own⟩=>bif cL j.cs base r then none else some ⟨c, .own⟩
 | x=>x
def install(j:JI)(base:St)(x:HD j.cs):St:=
 { s:=KG j.cs base.nx x fun i=>bif lO j.kill i then .undef else base.s i
   h:=yO base.s j.cs base.nx x (BH j base)
   nx:=base.nx+128 *j.cs.length}
def iD(j:JI)(st:St):St:=
 { st with h:=fun r=>match st.h r with
   | some ⟨c, .own⟩=>bif cL j.cs st r then some ⟨c, .own⟩else some ⟨c, .lock⟩
   | x=>x}
def unlock(base st:St):St:=
 { st with h:=fun r=>match st.h r with
   | some ⟨c, .lock⟩=>match base.h r with
    | some ⟨_, .own⟩=>some ⟨c, .own⟩
    | _=>some ⟨c, .lock⟩
   | x=>x}
def zgf(st:St)(s:Nat):Option (List Nat):=
 bif Nat.ble 1000000 s then
  match st.s (s - 1000000)with
  | .bp r _=>match st.h r with
   | some ⟨.box cs,_⟩=>match RF st.h cs with
    | some (_,ids)=>some ids
    | none=>none
   | _=>none
  | _=>none
 else match fH st.h (st.s s)with
  | some (_,ids)=>some ids
  | none=>none
def gK(pre:List Nat)(st:St):Option St:=
 match pre with
 | []=>some st
 | s :: r=>match zgf st s with
  | some ids=>gK r {st with h:=yC st.h ids}
  | none=>none
def tK:Code→Option Nat
 | .region id _ _=>some id
 | .seq a b=>match tK a with
  | some i=>some i
  | none=>tK b
 | .cond _ a _=>tK a
 | .block _ b | .loop b | .scope b=>tK b
 | _=>none
def zfW(t:Nat)(a b:Code):Nat:=t *65536+match tK a with
 | some i=>i+1
 | none=>match tK b with
  | some i=>i+1
  | none=>0
def JI.has(j:JI)(i:Nat):Bool:=lO j.kill i||gE j.cs i
def zk6(kill:List (Nat×Nat))(j:JI)(p:Nat×Nat):Bool:=kill.any (λq=>Nat.ble q.1 p.1&&Nat.ble p.2 q.2)||(Nat.beq p.1 p.2&&gE j.cs p.1)
def zv4(j:JI):jC→Bool
 | .slot s _=>j.has s
 | .own s _=>j.has s
 | .box .. | .drop _=>true
def fits(j:JI):Option JI→Bool
 | none=>true
 | some i=>i.kill.all (zk6 j.kill j)&&i.cs.all (zv4 j)
def Code.within(an:An)(j:JI):Code→Bool
 | .region id ops _=>ops.toList.all (λo=>match o.dst with | some d=>j.has d | none=>true)&&fits j (OC id an.r)
 | .seq a b=>Code.within an j a&&Code.within an j b
 | .cond (.tmp t) a b=>Code.within an j a&&Code.within an j b&&fits j (OC (zfW t a b) an.c)
 | .cond _ a b=>Code.within an j a&&Code.within an j b
 | .block id b=>Code.within an j b&&fits j (OC id an.b)
 | .loop b=>Code.within an j b&&match tK b with
  | some rid=>fits j (OC rid an.l)
  | none=>true
 | .scope b=>Code.within an j b
 | _=>true
def fS(j:JI):Bool:=j.cs.all λc=>match c with
 | .box s _ _ | .drop s=>!(j.has s)
 | _=>true
def RH:List jC→Bool
 | []=>true
 | .slot s _ :: r=>!(gE r s)&&RH r
 | .own s _ :: r=>!(gE r s)&&RH r
 | .box .. :: r=>RH r
 | .drop _ :: r=>RH r
def WG(an:An)(j:JI)(c:Code):Bool:=Code.within an j c&&fS j&&RH j.cs
variable (C:Cx)
def iJ(ops:Array Oper)(nx:Nat):List (Nat×Oper)→St→(St→Option R)→Option R
 | [],st,K=>K st
 | (i,o) :: rest,st,K=>
  match o.guard with
  | none=>rB C (nx+128 *i) o st λst'=>iJ ops nx rest st' K
  | some (j,want)=>match(ops[j]?).bind (·.dst)with
   | none=>none
   | some dj=>match st.s dj with
    | .tup []=>VA C o.dst st (.tup []) λst'=>iJ ops nx rest st' K
    | .bool t=>
     let G:Bool→Option R:=λb=>
      let st:={st with s:=zA st.s dj (.bool b)}
      gd (b==want) (rB C (nx+128 *i) o st λst'=>iJ ops nx rest st' K) (VA C o.dst st (.tup []) λst'=>iJ ops nx rest st' K)
     cond t (G true) (G false)
    | _=>none
def xF{α:Type}:Nat→List α→List (Nat×α)
 | _,[]=>[]
 | i,x :: r=>(i,x) :: xF (i+1) r
structure sD where
 i:Nat
 dst:Option Nat
 ls:List Nat
 rd:List Nat
 wr:List Nat
def QE(r:Nat)(l:List Nat):Bool:=l.any (Nat.beq r)
def eV:Option tA→Option tA
 | some ⟨c, .own⟩=>some ⟨c, .lock⟩
 | x=>x
def pG(rd wr:List Nat)(h:Nat→Option tA):Nat→Option tA:=λr=>bif QE r wr then h r else bif QE r rd then eV (h r)else none
def lL(ls:List Nat)(s:Nat→V):Nat→V:=λt=>bif QE t ls then s t else .undef
def ZH(b r:Nat):Bool:=Nat.ble b r&&Nat.blt r (b+128)
def nL(b:Nat)(wr:List Nat)(h h':Nat→Option tA):Nat→Option tA:=λr=>bif QE r wr||ZH b r then h' r else h r
def LM(dst:Option Nat)(s s':Nat→V):Nat→V:=match dst with
 | none=>s
 | some d=>zA s d (s' d)
def JF(b:Nat)(o:Oper)(ls rd wr:List Nat)(st:St)(K:St→Option R):Option R:=
 rB C b o {s:=lL ls st.s,h:=pG rd wr st.h,nx:=st.nx} λst'=>K {s:=LM o.dst st.s st'.s,h:=nL b wr st.h st'.h,nx:=st.nx}
def HI:V→List Nat
 | .ow r=>[r]
 | .ov r _ _ _=>[r]
 | .bp r _=>[r]
 | .ep r _ _ _=>[r]
 | _=>[]
def zf3:V→List Nat
 | .agg cs=>cs.flatMap HI
 | v=>HI v
def zlJ(h:Nat→Option tA):V→List Nat
 | .bp r _=>r :: match h r with
  | some ⟨.box cs,_⟩=>cs.flatMap HI
  | _=>[]
 | v=>zf3 v
def zlB(h:Nat→Option tA)(r:Nat):Bool:=match h r with
 | some ⟨_, .ro⟩=>true
 | _=>false
def zcV(h:Nat→Option tA)(l:List Nat):List Nat×List Nat:=(l.filter (zlB h),l.filter λr=>!zlB h r)
def mI(o:Oper)(st:St):List Nat×List Nat:=
 match o.op with
 | .load _ a=>(HI (opd st.s a),[])
 | .store _ a x=>match opd st.s a with
  | .ep r _ _ _=>let p:=zcV st.h (zf3 (opd st.s x));(p.1,r :: p.2)
  | v=>([],HI v)
 | .slice _ x _ _ _=>(HI (opd st.s x),[])
 | .indexAddr _ x _=>(HI (opd st.s x),[])
 | .convert _ _ x=>(HI (opd st.s x),[])
 | .buildSlice _ _ ps=>zcV st.h (ps.toList.flatMap λp=>zf3 (opd st.s p.2))
 | .makeFunc _ _ cs=>zcV st.h (cs.toList.flatMap λx=>zlJ st.h (opd st.s x))
 | .call {callee:= .builtin .append,args,argTypes:=_}=>match args.toList with
  | [x,y]=>(HI (opd st.s y),HI (opd st.s x))
  | _=>([],[])
 | .call {callee:= .builtin _,args,argTypes:=_}=>(args.toList.flatMap λx=>HI (opd st.s x),[])
 | .call {callee:=_,args,argTypes:=_}=>zcV st.h (args.toList.flatMap λx=>zlJ st.h (opd st.s x))
 | _=>([],[])
def cO(o:Oper):List Nat:=o.op.operands.toList.filterMap λx=>match x with
 | .tmp t=>some t
 | _=>none
def zdo(d:Option Nat)(l:List Nat):Bool:=match d with
 | some d=>QE d l
 | none=>false
def ZI(nx:Nat)(e1 e:sD):Bool:=
 !(zdo e1.dst e.ls)&&!(zdo e.dst e1.ls)&&!(zdo e1.dst e.dst.toList)&&
 e1.wr.all (λr=>!(QE r e.rd)&&!(QE r e.wr))&&e.wr.all (λr=>!(QE r e1.rd))&&
 e.rd.all (λr=>!(ZH (nx+128 *e1.i) r))&&e.wr.all (λr=>!(ZH (nx+128 *e1.i) r))&&
 e1.rd.all (λr=>!(ZH (nx+128 *e.i) r))&&e1.wr.all (λr=>!(ZH (nx+128 *e.i) r))
def SI(mask nx:Nat)(rs:List sD)(e:sD):Bool:=rs.all λe1=>Nat.testBit mask e1.i||ZI nx e1 e
def wV(ms:List Nat)(es:List Edge):Nat:=es.foldl (λs e=>bif Region.binds .any e then s|||(2^e.on|||ms.getD e.on 0)else s) 0
def nD:List Nat→List Oper→List Nat
 | ms,[]=>ms
 | ms,o :: r=>nD (ms++[wV ms o.after.toList]) r
def zk0(i:Nat)(o:Oper):Bool:=o.after.toList.all λe=>!(Region.binds .any e)||Nat.blt e.on i
def aJ(ops:Array Oper)(ms:List Nat)(nx:Nat):List (Nat×Oper)→List sD→St→(St→Option R)→Option R
 | [],_,st,K=>K st
 | (i,o) :: rest,rs,st,K=>
  gd (zk0 i o) (
  match o.guard with
  | none=>
   let f:=mI o st;let e:sD:=⟨i,o.dst,cO o,f.1,f.2⟩
   gd (SI (ms.getD i 0) nx rs e) (JF C (nx+128 *i) o e.ls e.rd e.wr st λst'=>aJ ops ms nx rest (e :: rs) st' K) none
  | some (j,want)=>match(ops[j]?).bind (·.dst)with
   | none=>none
   | some dj=>
    let skip:St→Option R:=λst=>
     let e:sD:=⟨i,o.dst,[dj],[],[]⟩
     gd (SI (ms.getD i 0) nx rs e) (VA C o.dst st (.tup []) λst'=>aJ ops ms nx rest (e :: rs) st' K) none
    match st.s dj with
    | .tup []=>skip st
    | .bool t=>
     let G:Bool→Option R:=λb=>
      let st:={st with s:=zA st.s dj (.bool b)}
      gd (b==want) (
       let f:=mI o st;let e:sD:=⟨i,o.dst,dj :: cO o,f.1,f.2⟩
       gd (SI (ms.getD i 0) nx rs e) (JF C (nx+128 *i) o e.ls e.rd e.wr st λst'=>aJ ops ms nx rest (e :: rs) st' K) none) (skip st)
     cond t (G true) (G false)
    | _=>none) none
def zl2(pre:List Nat)(ops:Array Oper)(st:St)(K:St→Option R):Option R:=
 match gK pre st with
 | none=>none
 | some st=>aJ C ops (nD [] ops.toList) st.nx (xF 0 ops.toList) [] st λst'=>K {st' with nx:=st.nx+128 *ops.size}
def zae(pre:List Nat)(draw:Bool)(ops:Array Oper)(st:St)(K:St→Option R):Option R:=
 gd (draw) (zl2 C pre ops st K) (
 iJ C ops st.nx (xF 0 ops.toList) st λst'=>K {st' with nx:=st.nx+128 *ops.size})
def SE (an:An):Code→St→(Ex→St→Option R)→Option R
 | .skip,st,K=>K .normal st
 | .region id ops d,st,K=>match OC id an.r with
  | none=>zae C ((OC id an.d).getD []) d ops st (K .normal)
  | some j=>match gK j.pre st with
   | none=>none
   | some st=>gd (WG an j (.region id ops d)) (
     aA (λy:HD j.cs=>K .normal (install j st y)) λk=>zae C ((OC id an.d).getD []) d ops (iD j st) λst'=>PG j.cs st' k) none
 | .seq a b,st,K=>SE an a st λe st'=>match e with
  | .normal=>SE an b st' K
  | e=>K e st'
 | .cond (.tmp t) a b,st,K=>match st.s t with
  | .bool x=>match OC (zfW t a b) an.c with
   | none=>cond x (SE an a st K) (SE an b st K)
   | some j=>match gK j.pre st with
    | none=>none
    | some st=>gd (WG an j a&&WG an j b) (
      aA (λy:HD j.cs=>K .normal (install j st y)) λk=>
       let K':Ex→St→Option R:=λe st'=>match e with
        | .normal=>PG j.cs st' k
        | e=>K e (unlock st st')
       cond x (SE an a (iD j st) K') (SE an b (iD j st) K')) none
  | _=>none
 | .block id b,st,K=>match OC id an.b with
  | none=>SE an b st λe st'=>match e with
   | .exit id'=>gd (Nat.beq id' id) (K .normal st') (K e st')
   | e=>K e st'
  | some j=>match gK j.pre st with
   | none=>none
   | some st=>gd (WG an j b) (
     aA (λy:HD j.cs=>K .normal (install j st y)) λk=>
      SE an b (iD j st) λe st'=>match e with
       | .normal=>PG j.cs st' k
       | .exit id'=>gd (Nat.beq id' id) (PG j.cs st' k) (K e (unlock st st'))
       | e=>K e (unlock st st')) none
 | .loop b,st,K=>match tK b with
  | none=>none
  | some rid=>match OC rid an.l with
   | none=>none
   | some j=>match gK j.pre st with
    | none=>none
    | some st=>gd (WG an j b) (
      PG j.cs (iD j st) λx0=>qA FU (λ(x:HD j.cs) (k:HD j.cs→Option R)=>
       SE an b (iD j (install j st x)) λe st'=>match e with
        | .normal=>PG j.cs st' k
        | e=>K e (unlock (install j st x) st')) x0) none
 | .exit id,st,K=>K (.exit id) st
 | .ret,st,K=>K .ret st
 | _,_,_=>none
def pH(P:Program)(st:St):List ResultVar→List (Bool×Nat)→Option (List V)
 | [],[]=>some []
 | .tmp t :: r,(ag,n) :: sh=>match st.s t,pH P st r sh with
  | .agg cs,some vs=>bif ag&&Nat.beq n cs.length then some (cs++vs)else none
  | v,some vs=>bif !ag&&Nat.beq n 1&&v.leaf then some (v :: vs)else none
  | _,none=>none
 | .cell a t :: r,(ag,n) :: sh=>match st.s a,pH P st r sh,bF P t,oF P t with
  | .bp b 0,some vs,some ag',some n'=>match st.h b with
   | some ⟨.box cs,_⟩=>bif (ag==ag')&&Nat.beq n n'&&Nat.beq n cs.length&&(ag||Nat.beq n 1)then some (cs++vs)else none
   | _=>none
  | _,_,_,_=>none
 | _,_=>none
def jF(st:St):List nB→List V→Nat→Option (List V)
 | .plain :: ks,_ :: as,k=>jF st ks as (k+1)
 | .mv _ :: ks,_ :: as,k=>jF st ks as (k+1)
 | .ms :: ks,_ :: as,k=>jF st ks as (k+1)
 | .ptr _ :: ks, .agg cs0 :: as,k=>match st.h (128 *k+127),jF st ks as (k+1)with
  | some ⟨.box cs, .own⟩,some vs=>bif Nat.beq cs.length cs0.length then some (cs++vs)else none
  | _,_=>none
 | [],[],_=>some []
 | _,_,_=>none
def bC:List nB→List Ty→Bool
 | [],[]=>true
 | .plain :: ks,_ :: ts=>bC ks ts
 | .ptr _ :: ks, .cells t :: ts=>Nat.ble (sz t) 127&&bC ks ts
 | .mv _ :: ks, .v t :: ts=>t.isAgg&&Nat.ble (sz t) 127&&bC ks ts
 | .ms :: ks, .sl _ :: ts=>bC ks ts
 | _,_=>false
def BV(fn:Func)(body:Code)(an:An)(ks:List nB)(own:List Nat)(shape:List (Bool×Nat))(ts:List Ty)(as:List V):Option (iB ts):=
 SE C an body {s:=λi=>match(tB ks 0 as).drop i with | v :: _=>v | []=> .undef,h:=BA ks 0 as,nx:=128 *ks.length} λe st=>
  match e with
  | .exit _=>none
  | _=>match pH C.P st fn.results.toList shape,jF st ks as 0 with
   | some vs,some us=>match OD own 0 (vs++us) st.h with
    | some (rs,_)=>VI ts rs
    | none=>none
   | _,_=>none
end
end
end Go.D
namespace Go.D
variable [jA]
section
variable {C:Cx} {w0:World} {outer own:Nat→Prop} {ρ:Nat→Option RI} {st st':St} {a:Act} {w:World} {R:Type}
omit [jA]in
def fP(ow:List Nat):∀(cs:List V) (p:Nat) (h:Nat→Option tA) (x:List V×(Nat→Option tA)),OD ow p cs h=some x→x.1.length=cs.length
 | [],p,h,x,ht=>by simp[OD]at ht;subst ht;rfl
 | c :: cs,p,h,x,ht=>by
  simp only[OD]at ht;cases hb:ow.any (Nat.beq p)
  ·simp only[hb,cond_false]at ht;split at ht
   case h_2=>cases ht
   split at ht
   case h_2=>cases ht
   rename_i hr;have k:=fP ow cs (p+1) _ _ hr;cases ht;simpa using k
  ·simp only[hb,cond_true]at ht;split at ht
   ·split at ht
    case h_2=>cases ht
    split at ht
    case h_2=>cases ht
    rename_i hr;have k:=fP ow cs (p+1) _ _ hr;cases ht;simpa using k
   ·split at ht
    case h_2=>cases ht
    rename_i hr;have k:=fP ow cs (p+1) _ _ hr;cases ht;simpa using k
   ·split at ht
    case h_2=>cases ht
    split at ht
    case h_2=>cases ht
    rename_i hr;have k:=fP ow cs (p+1) _ _ hr;cases ht;simpa using k
   ·cases ht
def YJ(w:World)(ρ:Nat→Option RI)(bad:Nat→Prop)(g:Nat→Option tA)(tv:Nat→Value)(sl:Nat→V):(c:jC)→Nat→c.T→Prop
 | .slot s ty,_,x=>VR w ρ bad (tv s) (EC ty x)∧aD (EC ty x)
 | .own s t,id,x=>VR w ρ bad (tv s) (.ow id)∧g id=some ⟨.arr t x, .own⟩
 | .drop _,_,_=>True
 | .box s t ow,id,x=>∃r,sl s= .bp r 0∧g r=some ⟨.box (SA ow id 0 (enc t x)), .own⟩∧∀q,q<128→g (id+q)=aB ow id (λ_=>none) 0 (enc t x) (id+q)
omit [jA]in
def zyP{v:V}{ds:List V}(h:SB [v] ds):∃d,ds=[d]∧IH v d:=by
 cases h with
 | cons h1 h2=>cases h2;exact⟨_,rfl,h1⟩
omit [jA]in
def zuL(t:TN)(x:El t):0<(enc t x).length:=by rw[mD];exact mO t
def oV{t:TN}{cs:List V}{x:El t}{bad:Nat→Prop}{u:Value}(hd:fF t cs=some x)(hv:VR w ρ bad u (.fp cs 0)):VR w ρ bad u (.fp (enc t x) 0):=by
 have hs:=AF t hd;cases hv with
 | fp _ off b o u h0 hb hu hv=>
 exact .fp _ _ b o u (zuL t x) hb (λj hj=>hu j (by rw[hs.len];exact hj)) λj hj=>VR.sub (hs.get j (by rw[hs.len];exact hj) hj) (hv j (by rw[hs.len];exact hj))
def fn1{bad:Nat→Prop}{u:Value}{g:Nat}{c d:V}(h:∀u',VR w ρ bad u' c→VR w ρ bad u' d)(hv:VR w ρ bad u (.fn g [c])):VR w ρ bad u (.fn g [d]):=by
 cases hv with
 | fn _ _ caps hs hv=>
 exact .fn _ _ caps hs λj hj=>by
  have:j=0:=by simp at hj;omega
  subst this;exact h _ (hv 0 (by simp))
def fn2{bad:Nat→Prop}{u:Value}{g:Nat}{c d c' d':V}(h:∀u',VR w ρ bad u' c→VR w ρ bad u' d)(h':∀u',VR w ρ bad u' c'→VR w ρ bad u' d')(hv:VR w ρ bad u (.fn g [c,c'])):VR w ρ bad u (.fn g [d,d']):=by
 cases hv with
 | fn _ _ caps hs hv=>
 exact .fn _ _ caps hs λj hj=>by
  match j,hj with
  | 0,_=>exact h _ (hv 0 (by simp))
  | 1,_=>exact h' _ (hv 1 (by simp))
def fp1{bad:Nat→Prop}{u:Value}{c d:V}(h:∀u',VR w ρ bad u' c→VR w ρ bad u' d)(hv:VR w ρ bad u (.fp [c] 0)):VR w ρ bad u (.fp [d] 0):=by
 cases hv with
 | fp _ off b o u h0 hb hu hv=>
 exact .fp _ _ b o u (by simp) hb (λj hj=>hu j hj) λj hj=>by
  have:j=0:=by simp at hj;omega
  subst this;exact h _ (hv 0 (by simp))
def zky(ty:Ty)(v:V)(x:ty.T){bad:Nat→Prop}{u:Value}(hd:jE ty v=some x)(hv:VR w ρ bad u v):VR w ρ bad u (EC ty x):=by
 cases ty with
 | v t=>
  simp only[jE]at hd;split at hd
  ·rename_i cs;cases yW:t.isAgg
   case false=>simp[yW]at hd
   simp only[yW,cond_true]at hd;have hs:=AF t hd;simp only[EC,jK,yW,cond_true];cases hv with
   | agg _ vs h1 h2=>
   refine .agg _ _ (by rw[h1];exact hs.len) λj hj=>VR.sub (hs.get j (by rw[hs.len];exact hj) hj) (h2 j (by rw[hs.len];exact hj))
  ·cases yW:t.isAgg
   case true=>simp[yW]at hd
   simp only[yW,cond_false]at hd;obtain⟨d,h1,h2⟩:=zyP (AF t hd);simp only[EC,jK,yW,cond_false,h1];exact VR.sub h2 hv
 | sl t=>exact VR.sub (ZA hd) hv
 | raw=>simp only[jE,Option.some.injEq]at hd;subst hd;exact hv
 | cells t=>
  simp only[jE]at hd;split at hd
  ·have hs:=AF t hd;simp only[EC];cases hv with
   | agg _ vs h1 h2=>
   exact .agg _ _ (by rw[h1];exact hs.len) λj hj=>VR.sub (hs.get j (by rw[hs.len];exact hj) hj) (h2 j (by rw[hs.len];exact hj))
  ·cases hd
 | pt t=>
  simp only[jE]at hd;split at hd
  ·exact oV hd hv
  ·cases hd
 | c1 g t=>
  simp only[jE]at hd;split at hd
  ·rename_i g' cs;cases hg:Nat.beq g' g
   case false=>rw[hg]at hd;cases hd
   rw[hg,cond_true]at hd;have:=Nat.eq_of_beq_eq_true hg;subst this;exact fn1 (λ_=>oV hd) hv
  ·cases hd
 | p1 g t=>
  simp only[jE]at hd;split at hd
  ·rename_i g' cs;cases hg:Nat.beq g' g
   case false=>rw[hg]at hd;cases hd
   rw[hg,cond_true]at hd;have:=Nat.eq_of_beq_eq_true hg;subst this;exact fp1 (λ_=>fn1 λ_=>oV hd) hv
  ·cases hd
 | c2 g h t=>
  simp only[jE]at hd;split at hd
  ·rename_i g' h' cs ds;cases n6:Nat.beq g' g&&Nat.beq h' h
   case false=>rw[n6]at hd;cases hd
   rw[n6,cond_true]at hd;rw[Bool.and_eq_true]at n6;have:=Nat.eq_of_beq_eq_true n6.1;have h2:=Nat.eq_of_beq_eq_true n6.2;subst this h2;obtain⟨a,ha,hd⟩:=Option.bind_eq_some_iff.1 hd;obtain⟨b,hb,hd⟩:=Option.bind_eq_some_iff.1 hd;cases hd;exact fn2 (λ_=>fp1 λ_=>fn1 λ_=>oV ha) (λ_=>oV hb) hv
  ·cases hd
omit [jA]in
def TU(t:TN)(x:El t):aD (.fp (enc t x) 0):=λS=> .fp _ _ λj hj=>by
 have:=tM S t x j;rw[List.getD_eq_getElem?_getD,List.getElem?_eq_getElem hj]at this;exact this
omit [jA]in
def ze4{g:Nat}{c:V}(h:aD c):aD (.fn g [c]):=λS=> .fn _ _ λj hj=>by
 have:j=0:=by simp at hj;omega
 subst this;exact h S
omit [jA]in
def zsA{g:Nat}{c d:V}(h:aD c)(h':aD d):aD (.fn g [c,d]):=λS=> .fn _ _ λj hj=>by
 match j,hj with
 | 0,_=>exact h S
 | 1,_=>exact h' S
omit [jA]in
def zjJ{c:V}(h:aD c):aD (.fp [c] 0):=λS=> .fp _ _ λj hj=>by
 have:j=0:=by simp at hj;omega
 subst this;exact h S
omit [jA]in
def zrm(ty:Ty)(v:V)(x:ty.T)(hd:jE ty v=some x)(hv:aD v):aD (EC ty x):=by
 cases ty with
 | v t=>
  intro S;simp only[EC,jK];cases yW:t.isAgg
  ·simp only[cond_false];split
   ·rename_i c r he;have:=tM S t x 0;rw[he]at this;exact this
   ·exact .undef
  ·refine .agg _ λj hj=>?_;have:=tM S t x j;rw[List.getD_eq_getElem?_getD,List.getElem?_eq_getElem hj]at this;exact this
 | sl t=>exact dM _ _
 | raw=>simp only[jE,Option.some.injEq]at hd;subst hd;exact hv
 | cells t=>
  intro S;simp only[EC];refine .agg _ λj hj=>?_;have:=tM S t x j;rw[List.getD_eq_getElem?_getD,List.getElem?_eq_getElem hj]at this;exact this
 | pt t=>exact TU t x
 | c1 g t=>exact ze4 (TU t x)
 | p1 g t=>exact zjJ (ze4 (TU t x))
 | c2 g h t=>exact zsA (zjJ (ze4 (TU t x.1))) (TU t x.2)
structure Ex1(w0:World)(outer own:Nat→Prop)(w:World)(tv:Nat→Value)(c:jC)(id:Nat)(ρ:Nat→Option RI)(g:Nat→Option tA)(st1:St)(x:c.T)(st2:St)(ρ':Nat→Option RI)(g':Nat→Option tA):Prop where
 slots:st2.s=st1.s
 heap:sB w0 outer own ρ' g' w
 lies:aH st2.h g'
 less:∀q,st1.h q=none→st2.h q=none
 left:∀n,kD n st1.h st2.h
 out:∀q,Out id 128 q→ρ' q=ρ q∧(st1.h q=none→g' q=g q)
 ext:∀q qi,ρ q=some qi→ρ' q=some qi
 keep:∀u d,VR w ρ (sA outer ρ g) u d→VR w ρ' (sA outer ρ' g') u d
 ok:YJ w ρ' (sA outer ρ' g') g' tv st1.s c id x
 gone:∀s t ow r,c= .box s t ow→st1.s s= .bp r 0→st2.h r=none∧Out id 128 r
def zlw{tv:Nat→Value}(c:jC)(id:Nat)(st1:St)(k:c.T→St→Option R){r:R}{g:Nat→Option tA}(he:eT c st1 k=some r)(hh:sB w0 outer own ρ g w)(hl:aH st1.h g)
  (hv:∀s,VR w ρ (sA outer ρ g) (tv s) (st1.s s)) (hρ:∀q,q<128→ρ (id+q)=none) (hn:∀q,q<128→st1.h (id+q)=none):
  ∃x st2 ρ' g',k x st2=some r∧Ex1 w0 outer own w tv c id ρ g st1 x st2 ρ' g':=by
 have FW:∀q row,st1.h q=some row→Out id 128 q:=λq row hq h3=>by
  have:=hn (q - id) (by omega);rw[show id+(q - id)=q by omega,hq]at this;cases this
 have h0:ρ id=none:=hρ 0 (by omega);have C1:st1.h id=none:=hn 0 (by omega);cases c with
 | drop s=>exact⟨(),st1,ρ,g,he,rfl,hh,hl,λ_ h=>h,λn=>kD.refl n _,λq _=>⟨rfl,λ_=>rfl⟩,λ_ _ h=>h,λ_ _ h=>h,trivial,λs t ow r h=>by cases h⟩
 | slot s ty=>
  simp only[eT]at he;split at he
  case h_2=>cases he
  rename_i v ids lZ;obtain⟨x,hx,he⟩:=Option.bind_eq_some_iff.1 he;obtain⟨k1,k2⟩:=zku hl lZ;have k2:∀r∈ids,∃row,st1.h r=some row:=k2;obtain⟨m1,m2⟩:=hh.mark ids;obtain⟨f1,f2⟩:=zge hh (hv s) k1;have J1:∀r,st1.h r=none→r∉ids:=λr hn hm=>by obtain⟨row,h5⟩:=k2 r hm;rw[hn]at h5;cases h5
  exact⟨x,_,ρ,yC g ids,he,rfl,m1,ze9 hl ids,λq hq=>by show yC st1.h ids q=none;rw[wF,if_neg (J1 q hq)];exact hq,λn=>vN _ (zbG lZ),
   λq _=>⟨rfl,λhq=>by rw[wF,if_neg (J1 q hq)]⟩,λ_ _ h=>h,m2,⟨zky ty v x hx f1,zrm ty v x hx f2⟩,λs t ow r h=>by cases h⟩
 | own s t=>
  simp only[eT]at he;split at he
  case h_2=>cases he
  rename_i l ro KW;have Y9:=KW;have CX:=hv s
  -- a row that has moved
  have moved:∀(q:Nat) (m:cH) (l0:List (El t)) (ri':RI),ro=some q→st1.h q=some ⟨.arr t l0, .own⟩→sB w0 outer own (zA ρ id (some ri')) (zA (zA g q none) id (some ⟨.arr t l, .own⟩)) w→
    (∀u d,VR w ρ (sA outer ρ g) u d→VR w (zA ρ id (some ri')) (sA outer (zA ρ id (some ri')) (zA (zA g q none) id (some ⟨.arr t l, .own⟩))) u d)→
    VR w (zA ρ id (some ri')) (sA outer (zA ρ id (some ri')) (zA (zA g q none) id (some ⟨.arr t l, .own⟩))) (tv s) (.ow id)→
    ∃x st2 ρ' g',k x st2=some r∧Ex1 w0 outer own w tv (.own s t) id ρ g st1 x st2 ρ' g':=by
   rintro q m l0 ri' rfl hq n1 n2 n3;have J8:=FW q _ hq;refine⟨l,_,_,_,he,rfl,n1,λp row hp=>?_,λp hp=>?_,λn=>zjv Y9,λp hp=>⟨AA _ _ _ _ ?_,λI4=>?_⟩,λp pi hp=>?_,n2,⟨n3,RA _ _ _⟩,λs t ow r h=>by cases h⟩
   ·have hp:zA st1.h q none p=some row:=hp
    by_cases IX:p=q
    ·subst IX;rw[RA]at hp;cases hp
    ·rw[AA _ _ _ _ IX]at hp;rw[AA _ _ _ _ (by rintro rfl;rw[C1]at hp;cases hp),AA _ _ _ _ IX];exact hl _ _ hp
   ·show zA st1.h q none p=none
    by_cases IX:p=q
    ·subst IX;exact RA _ _ _
    ·rw[AA _ _ _ _ IX];exact hp
   ·rintro rfl;exact hp ⟨Nat.le_refl _,by omega⟩
   ·rw[AA _ _ _ _ (by rintro rfl;exact hp ⟨Nat.le_refl _,by omega⟩),AA];rintro rfl;rw[hq]at I4;cases I4
   ·rw[AA];exact hp;rintro rfl;rw[h0]at hp;cases hp
  unfold yS at KW;split at KW
  ·rename_i cW;simp only[Option.some.injEq,Prod.mk.injEq]at KW;obtain⟨rfl,rfl⟩:=KW;rw[cW]at CX;have hvn:tv s= .slice none 0 0:=by generalize tv s=x at CX;cases CX;rfl
   obtain⟨n1,n2⟩:=hh.empty t h0;refine⟨[],_,_,_,he,rfl,n1,λp row hp=>?_,λp hp=>hp,λn=>kD.refl n _,λp hp=>⟨AA _ _ _ _ ?_,λI4=>AA _ _ _ _ ?_⟩,λp pi hp=>?_,n2,⟨?_,RA _ _ _⟩,λs t ow r h=>by cases h⟩
   ·have hp:st1.h p=some row:=hp;rw[AA _ _ _ _ (by rintro rfl;rw[C1]at hp;cases hp)];exact hl _ _ hp
   ·rintro rfl;exact hp ⟨Nat.le_refl _,by omega⟩
   ·rintro rfl;exact hp ⟨Nat.le_refl _,by omega⟩
   ·rw[AA];exact hp;rintro rfl;rw[h0]at hp;cases hp
   ·rw[hvn];exact .owN _ ⟨0,0,0,true⟩ none (RA _ _ _) rfl rfl
  ·rename_i q cW;split at KW
   case h_2=>cases KW
   rename_i t' l1 IV;split at KW
   case isFalse=>cases KW
   rename_i e1;subst e1;simp only[fM,Option.some.injEq,Prod.mk.injEq]at KW;obtain⟨rfl,rfl⟩:=KW;rw[cW]at CX;obtain⟨ri,hρq,_⟩:=hh.rows q _ (hl _ _ IV);obtain⟨n1,n2⟩:=hh.rename (hl _ _ IV) hρq h0;refine moved q .own l1 ri rfl IV n1 n2 ?_
   rcases CX.ow_inv hρq with⟨e1,e2,e3,e4⟩ | ⟨ao,e1,e2,e3⟩
   ·rw[e1];exact .ow _ ri (RA _ _ _) e3 e4 e2
   ·rw[e1];exact .owN _ ri ao (RA _ _ _) e3 e2
  ·rename_i q t0 len cW;split at KW
   case h_2=>cases KW
   rename_i t' l1 IV;split at KW
   case isFalse=>cases KW
   rename_i e1;subst e1;simp only[fM,Option.some.injEq,Prod.mk.injEq]at KW;obtain⟨rfl,rfl⟩:=KW;rw[cW]at CX;obtain⟨ri,hρq,XV,_⟩:=hh.rows q _ (hl _ _ IV);have RY:ri.n=l1.length:=XV.1;obtain⟨ao,cap,h1,h2,h3,h4,h5⟩:=CX.ov_inv hρq
   rcases h3 with⟨rfl,rfl⟩ | ⟨rfl,eW,hc⟩
   ·-- nothing of it
    obtain⟨k1,k2⟩:=hh.less (JU g q);obtain⟨n1,n2⟩:=k1.empty t' h0;rw[List.take_zero]at he moved;refine moved q .own l1 ⟨0,0,0,true⟩ rfl IV n1 (λu d hu=>n2 _ _ (k2 _ _ hu)) ?_;rw[h1];exact .owN _ ⟨0,0,0,true⟩ ao (RA _ _ _) rfl rfl
   ·rw[Nat.zero_mul]at h1
    rcases XV.2 with h6 | ⟨_,ce,c1,c2,c3,c4⟩
    ·rw[eW]at h6;cases h6.1
    obtain⟨n1,n2⟩:=hh.move (hl _ _ IV) hρq eW h0 (ri':=⟨ri.b,len,cap,false⟩) rfl rfl w (Wx.refl _) rfl (λ_ _=>rfl) (.arr t' (l1.take len)) λbad JV=>by
     refine⟨by simp;omega, .inr ⟨rfl,ce,h4,h5,λj hj=>c3 j ?_,λi hi j hj=>?_⟩⟩
     ·have:cap *sz t'≤ri.cap *sz t':=Nat.mul_le_mul_right _ (by omega);have hj:j<cap *sz t':=hj;omega
     ·obtain⟨u,f1,f2⟩:=c4 i (by simp at hi;omega) j hj;refine⟨u,f1,?_⟩;rw[List.getElem_take];exact JV _ _ f2
    refine moved q .own l1 _ rfl IV n1 n2 ?_;rw[h1];exact .ow _ ⟨ri.b,len,cap,false⟩ (RA _ _ _) h4 h5 rfl
  ·cases KW
 | box s t ow=>
  simp only[eT]at he;split at he
  case h_2=>cases he
  rename_i q cW;split at he
  case h_2=>cases he
  rename_i cs IV;split at he
  case h_2=>cases he
  rename_i cs' h' D0;obtain⟨x,hx,he⟩:=Option.bind_eq_some_iff.1 he;have hs:=AF t hx;have J8:=FW q _ IV;have B5:=hl _ _ IV;obtain⟨ri,hρq,XV,_⟩:=hh.rows q _ B5
  have LV:cs.length≤128:=by
   have h1:=fP _ _ _ _ _ D0;have h2:=hs.len;rw[mD]at h2;have:=zdB t;simp only at h1;omega
  have bW:∀p,st1.h p=none→zA st1.h q none p=none:=λp hp=>by
   by_cases IX:p=q
   ·subst IX;exact RA _ _ _
   ·rw[AA _ _ _ _ IX];exact hp
  obtain⟨ρ1,g1,T,m0⟩:=PR ow id 128 cs 0 (zA st1.h q none) h' cs' (enc t x) ρ g (λj=>(w.cell? (at_ ri.b j)).getD undef) D0 hs (by omega) hh
   (λj hj=>by obtain⟨_,y,f1,f2⟩:=XV.2 j hj;rw[f1];exact f2)
   (fun p row hp=>by
    by_cases IX:p=q
    ·subst IX;rw[RA]at hp;cases hp
    ·rw[AA _ _ _ _ IX]at hp;exact hl _ _ hp)
   (λp hp=>bW _ (hn p hp)) (λp _ hp=>hρ p hp)
  have Z9:g1 q=some ⟨.box cs, .own⟩:=by rw[(T.out q J8).2 (RA _ _ _)];exact B5
  have hρ1:ρ1 q=some ri:=T.ext _ _ hρq;obtain⟨n1,n2⟩:=T.heap.reread Z9 (es:=SA ow id 0 (enc t x)) (by rw[wE];exact m0) (λri' h3 j hj=>by rw[hρ1]at h3;cases h3;exact T.vals j hj);have o6:h' q=none:=T.less q (RA _ _ _)
  refine⟨x,_,_,_,he,rfl,n1,λp row hp=>?_,λp hp=>T.less p (bW p hp),λn=>(FK (kD.refl n _) _ none (.inr ⟨_,IV,rfl⟩)).trans (rI (λr=>r<n) _ _ _ _ _ D0),λp hp=>⟨(T.out p hp).1,λI4=>?_⟩,T.ext,λu d hu=>n2 _ _ (T.keep _ _ hu),
   ⟨q,cW,RA _ _ _,λp hp=>?_⟩,λs' t' ow' r' h1 h2=>?_⟩
  ·have hp:h' p=some row:=hp;rw[AA _ _ _ _ (by rintro rfl;rw[o6]at hp;cases hp)];exact T.lies _ _ hp
  ·rw[AA _ _ _ _ (by rintro rfl;rw[IV]at I4;cases I4),(T.out p hp).2 (bW p I4)]
  ·rw[AA _ _ _ _ (by rintro rfl;exact J8 ⟨by omega,by omega⟩)];exact T.new p (by omega) hp
  ·cases h1;rw[cW]at h2;cases h2;exact⟨o6,J8⟩
def YK(w:World)(ρ:Nat→Option RI)(bad:Nat→Prop)(g:Nat→Option tA)(tv:Nat→Value)(sl:Nat→V):(cs:List jC)→Nat→HD cs→Prop
 | [],_,_=>True
 | [c],id,x=>YJ w ρ bad g tv sl c id x
 | c :: d :: r,id,x=>YJ w ρ bad g tv sl c id x.1∧YK w ρ bad g tv sl (d :: r) (id+128) x.2
def YJ.later{tv:Nat→Value}{sl:Nat→V}{c:jC}{id:Nat}{x:c.T}{ρ ρ':Nat→Option RI}{bad bad':Nat→Prop}{g g':Nat→Option tA}(h:YJ w ρ bad g tv sl c id x)
  (hk:∀u d,VR w ρ bad u d→VR w ρ' bad' u d) (hg:∀q,q<128→g' (id+q)=g (id+q)) (hb:∀s t ow r,c= .box s t ow→sl s= .bp r 0→g' r=g r):YJ w ρ' bad' g' tv sl c id x:=by
 cases c with
 | drop s=>trivial
 | slot s ty=>exact⟨hk _ _ h.1,h.2⟩
 | own s t=>exact⟨hk _ _ h.1,by rw[show id=id+0 from rfl,hg 0 (by omega)];exact h.2⟩
 | box s t ow=>
  obtain⟨r,h1,h2,h3⟩:=h;exact⟨r,h1,by rw[hb s t ow r rfl h1];exact h2,λq hq=>by rw[hg q hq];exact h3 q hq⟩
structure ExA(w0:World)(outer own:Nat→Prop)(w:World)(tv:Nat→Value)(cs:List jC)(id:Nat)(ρ:Nat→Option RI)(g:Nat→Option tA)(st1:St)(x:HD cs)(hn:Nat→Option tA)(ρ':Nat→Option RI)(g':Nat→Option tA):Prop where
 heap:sB w0 outer own ρ' g' w
 lies:aH hn g'
 left:∀n,kD n st1.h hn
 out:∀q,q<id→ρ' q=ρ q∧(st1.h q=none→g' q=g q)
 fresh:∀q,id+128 *cs.length≤q→ρ' q=none
 ext:∀q qi,ρ q=some qi→ρ' q=some qi
 keep:∀u d,VR w ρ (sA outer ρ g) u d→VR w ρ' (sA outer ρ' g') u d
 ok:YK w ρ' (sA outer ρ' g') g' tv st1.s cs id x
def zlK{tv:Nat→Value}:∀(cs:List jC) (id:Nat) (st1:St) (k:HD cs→Option R) (r:R) (ρ:Nat→Option RI) (g:Nat→Option tA),PG cs st1 k=some r→sB w0 outer own ρ g w→aH st1.h g→
  (∀s,VR w ρ (sA outer ρ g) (tv s) (st1.s s))→(∀q,id≤q→ρ q=none)→(∀q,id≤q→st1.h q=none)→∃x hn ρ' g',k x=some r∧ExA w0 outer own w tv cs id ρ g st1 x hn ρ' g'
 | [],id,st1,k,r,ρ,g,he,hh,hl,hv,hρ,hn=>⟨(),st1.h,ρ,g,he,hh,hl,λn=>kD.refl n _,λq _=>⟨rfl,λ_=>rfl⟩,λq hq=>hρ q (by simpa using hq),λ_ _ h=>h,λ_ _ h=>h,trivial⟩
 | [c],id,st1,k,r,ρ,g,he,hh,hl,hv,hρ,hn=>by
  simp only[PG]at he;obtain⟨x,st2,ρ',g',h1,E⟩:=zlw c id st1 _ he hh hl hv (λq hq=>hρ _ (by omega)) (λq hq=>hn _ (by omega));refine⟨x,st2.h,ρ',g',h1,E.heap,E.lies,E.left,λq hq=>E.out q (λh=>by omega),λq hq=>?_,E.ext,E.keep,E.ok⟩;simp at hq;rw[(E.out q (λh=>by omega)).1];exact hρ q (by omega)
 | c :: d :: cs,id,st1,k,r,ρ,g,he,hh,hl,hv,hρ,hn=>by
  simp only[PG]at he;obtain⟨x,st2,ρ1,g1,h1,E⟩:=zlw c id st1 _ he hh hl hv (λq hq=>hρ _ (by omega)) (λq hq=>hn _ (by omega))
  obtain⟨y,hn',ρ',g',h2,F⟩:=zlK (d :: cs) (id+128) st2 _ r ρ1 g1 h1 E.heap E.lies (λs=>by rw[E.slots];exact E.keep _ _ (hv s))
   (λq hq=>by rw[(E.out q (λh=>by omega)).1];exact hρ q (by omega)) (λq hq=>E.less q (hn q (by omega)))
  refine⟨(x,y),hn',ρ',g',h2,F.heap,F.lies,λn=>(E.left n).trans (F.left n),λq hq=>?_,λq hq=>?_,λq qi hq=>F.ext _ _ (E.ext _ _ hq),λu d hu=>F.keep _ _ (E.keep _ _ hu),?_,by rw[←E.slots];exact F.ok⟩
  ·have ho:Out id 128 q:=λh=>by omega
   exact⟨((F.out q (by omega)).1).trans (E.out q ho).1,λhq0=>((F.out q (by omega)).2 (E.less q hq0)).trans ((E.out q ho).2 hq0)⟩
  ·exact F.fresh q (by simp at hq⊢;omega)
  ·refine E.ok.later F.keep (λq hq=>(F.out (id+q) (by omega)).2 (E.less _ (hn _ (by omega)))) λs t ow r h3 h4=>?_;obtain⟨h5,h6⟩:=E.gone s t ow r h3 h4
   have hrlt:r<id:=by
    rcases Nat.lt_or_ge r id with h7 | h7
    ·exact h7
    ·obtain⟨ri,h8,_⟩:=(show VR w ρ (sA outer ρ g) (tv s) (.bp r 0) by rw[←h4];exact hv s).bp_inv;rw[hρ r h7]at h8;cases h8
   exact(F.out r (by omega)).2 h5
def zfi{tv:Nat→Value}{sl:Nat→V}{ρ2:Nat→Option RI}{bad2:Nat→Prop}{g2:Nat→Option tA}:∀(cs:List jC) (M id:Nat) (x:HD cs) (h:Nat→Option tA) (q:Nat) (row:tA),
  YK w ρ2 bad2 g2 tv sl cs M x→yO sl cs id x h q=some row→
  h q=some row∨(id≤q∧q<id+128 *cs.length∧(∃t l,row=⟨.arr t l, .own⟩)∧g2 (M+(q - id))=some row)∨
   (∃o ow es s,row=⟨.box (SA ow (id+o) 0 es), .own⟩∧g2 q=some ⟨.box (SA ow (M+o) 0 es), .own⟩∧o+128≤128 *cs.length∧(∀j (hj:j<es.length),aD es[j])∧es.length≤128∧sl s= .bp q 0):=by
 have one:∀(c:jC) (M id:Nat) (x:c.T) (h:Nat→Option tA) (q:Nat) (row:tA),YJ w ρ2 bad2 g2 tv sl c M x→eK sl c id x h q=some row→
   h q=some row∨(id≤q∧q<id+128∧(∃t l,row=⟨.arr t l, .own⟩)∧g2 (M+(q - id))=some row)∨
   (∃ow es s,row=⟨.box (SA ow id 0 es), .own⟩∧g2 q=some ⟨.box (SA ow M 0 es), .own⟩∧(∀j (hj:j<es.length),aD es[j])∧es.length≤128∧sl s= .bp q 0):=by
  intro c M id x h q row hc hi;cases c with
  | drop s=>exact .inl hi
  | slot s ty=>exact .inl hi
  | own s t=>
   simp only[eK]at hi
   by_cases hq:q=id
   ·subst hq;rw[RA]at hi;cases hi;exact .inr (.inl ⟨Nat.le_refl _,by omega,⟨_,_,rfl⟩,by rw[Nat.sub_self];exact hc.2⟩)
   ·rw[AA _ _ _ _ hq]at hi;exact .inl hi
  | box s t ow=>
   obtain⟨r,h1,h2,h3⟩:=hc;simp only[eK,h1]at hi
   by_cases hq:q=r
   ·subst hq;rw[RA]at hi;cases hi;refine .inr (.inr ⟨ow,enc t x,s,rfl,h2,λj hj=>?_,by rw[mD];exact zdB t,h1⟩);intro S;have:=tM S t x j;rw[List.getD_eq_getElem?_getD,List.getElem?_eq_getElem hj]at this;exact this
   ·rw[AA _ _ _ _ hq,AB]at hi;split at hi
    ·rename_i y hy;cases hi;obtain⟨t',l,e1,e2,e3⟩:=PD _ _ _ _ _ _ hy;have YV:=zdB t;rw[mD]at e3;refine .inr (.inl ⟨by omega,by omega,⟨t',l,e1⟩,?_⟩);rw[h3 (q - id) (by omega),fR ow M id,show id+(q - id)=q by omega];exact hy
    ·exact .inl hi
 intro cs;induction cs with
 | nil=>intro M id x h q row _ hi;exact .inl hi
 | cons c cs ih=>
  intro M id x h q row hc hi;cases cs with
  | nil=>
   rcases one c M id x h q row hc hi with h1 | ⟨h1,h2,h3⟩ | ⟨ow,es,s,h1,h2,h3⟩
   ·exact .inl h1
   ·exact .inr (.inl ⟨h1,by simp only[List.length_cons,List.length_nil];omega,h3⟩)
   ·exact .inr (.inr ⟨0,ow,es,s,h1,h2,by simp only[List.length_cons];omega,h3⟩)
  | cons d r=>
   simp only[yO]at hi
   rcases one c M id x.1 _ q row hc.1 hi with h1 | ⟨h1,h2,h3⟩ | ⟨ow,es,s,h1,h2,h3⟩
   ·rcases ih (M+128) (id+128) x.2 h q row hc.2 h1 with h4 | ⟨h4,h5,h6,h7⟩ | ⟨o,ow,es,s,h4,h5,h6,h7⟩
    ·exact .inl h4
    ·refine .inr (.inl ⟨by omega,by simp at h5⊢;omega,h6,?_⟩);rw[show M+(q - id)=M+128+(q - (id+128)) by omega];exact h7
    ·refine .inr (.inr ⟨o+128,ow,es,s,?_,?_,by simp at h6⊢;omega,h7⟩)
     ·rw[show id+(o+128)=id+128+o by omega];exact h4
     ·rw[show M+(o+128)=M+128+o by omega];exact h5
   ·exact .inr (.inl ⟨h1,by simp only[List.length_cons];omega,h3⟩)
   ·exact .inr (.inr ⟨0,ow,es,s,h1,h2,by simp only[List.length_cons];omega,h3⟩)
def zt7{tv:Nat→Value}{sl:Nat→V}{ρ2:Nat→Option RI}{bad2:Nat→Prop}{g2:Nat→Option tA}(f:Nat→V)(s:Nat):∀(cs:List jC) (M id:Nat) (x:HD cs),
  YK w ρ2 bad2 g2 tv sl cs M x→(gE cs s=false∧KG cs id x f s=f s)∨(VR w ρ2 bad2 (tv s) (KG cs id x f s)∧aD (KG cs id x f s))∨
   (∃o,KG cs id x f s= .ow (id+o)∧VR w ρ2 bad2 (tv s) (.ow (M+o))∧o<128 *cs.length):=by
 have one:∀(c:jC) (M id:Nat) (x:c.T) (f:Nat→V),YJ w ρ2 bad2 g2 tv sl c M x→((∀r,gE (c :: r) s=gE r s)∧gI c id x f s=f s)∨(VR w ρ2 bad2 (tv s) (gI c id x f s)∧aD (gI c id x f s))∨
   (gI c id x f s= .ow id∧VR w ρ2 bad2 (tv s) (.ow M)):=by
  intro c M id x f hc;cases c with
  | slot s' ty=>
   by_cases hs:s=s'
   ·subst hs;simp only[gI,RA];exact .inr (.inl hc)
   ·simp only[gI];rw[AA _ _ _ _ hs];refine .inl ⟨λr=>?_,rfl⟩
    have:Nat.beq s' s=false:=by
     cases hb:Nat.beq s' s with
     | false=>rfl
     | true=>exact absurd (Nat.eq_of_beq_eq_true hb).symm hs
    simp[gE,this]
  | own s' t=>
   by_cases hs:s=s'
   ·subst hs;exact .inr (.inr ⟨RA _ _ _,hc.1⟩)
   ·simp only[gI];rw[AA _ _ _ _ hs];refine .inl ⟨λr=>?_,rfl⟩
    have:Nat.beq s' s=false:=by
     cases hb:Nat.beq s' s with
     | false=>rfl
     | true=>exact absurd (Nat.eq_of_beq_eq_true hb).symm hs
    simp[gE,this]
  | box s' t ow=>exact .inl ⟨λr=>rfl,rfl⟩
  | drop s'=>exact .inl ⟨λr=>rfl,rfl⟩
 intro cs;induction cs with
 | nil=>intro M id x _;exact .inl ⟨rfl,rfl⟩
 | cons c cs ih=>
  intro M id x hc;cases cs with
  | nil=>
   rcases one c M id x f hc with⟨h1,h2⟩ | h | ⟨h1,h2⟩
   ·exact .inl ⟨by rw[h1];rfl,h2⟩
   ·exact .inr (.inl h)
   ·exact .inr (.inr ⟨0,h1,h2,by simp only[List.length_cons];omega⟩)
  | cons d r=>
   simp only[KG]
   rcases one c M id x.1 (KG (d :: r) (id+128) x.2 f) hc.1 with⟨h1,h2⟩ | h | ⟨h1,h2⟩
   ·rw[h2]
    rcases ih (M+128) (id+128) x.2 hc.2 with⟨h3,h4⟩ | h3 | ⟨o,h3,h4,h5⟩
    ·exact .inl ⟨by rw[h1];exact h3,h4⟩
    ·exact .inr (.inl h3)
    ·exact .inr (.inr ⟨o+128,by rw[h3];congr 1;omega,by rw[show M+(o+128)=M+128+o by omega];exact h4,by simp only[List.length_cons]at h5⊢;omega⟩)
   ·exact .inr (.inl h)
   ·exact .inr (.inr ⟨0,h1,h2,by simp only[List.length_cons];omega⟩)
def YK.slots{tv:Nat→Value}{sl sl':Nat→V}{ρ2:Nat→Option RI}{bad2:Nat→Prop}{g2:Nat→Option tA}:∀(cs:List jC) (M:Nat) (x:HD cs),
  (∀s t ow,jC.box s t ow∈cs→sl' s=sl s)→YK w ρ2 bad2 g2 tv sl cs M x→YK w ρ2 bad2 g2 tv sl' cs M x:=by
 have one:∀(c:jC) (M:Nat) (x:c.T),(∀s t ow,c=jC.box s t ow→sl' s=sl s)→YJ w ρ2 bad2 g2 tv sl c M x→YJ w ρ2 bad2 g2 tv sl' c M x:=by
  intro c M x hs hc;cases c with
  | drop s=>trivial
  | slot s ty=>exact hc
  | own s t=>exact hc
  | box s t ow=>obtain⟨r,h1,h2⟩:=hc;exact⟨r,by rw[hs s t ow rfl];exact h1,h2⟩
 intro cs;induction cs with
 | nil=>intro M x _ _;trivial
 | cons c cs ih=>
  intro M x hs hc;cases cs with
  | nil=>exact one c M x (λs t ow h=>hs s t ow (by simp[h])) hc
  | cons d r=>exact⟨one c M x.1 (λs t ow h=>hs s t ow (by simp[h])) hc.1,ih (M+128) x.2 (λs t ow h=>hs s t ow (List.mem_cons_of_mem _ h)) hc.2⟩
omit [jA]in
def zjU(sl:Nat→V):∀(cs:List jC) (id:Nat) (x:HD cs) (h:Nat→Option tA) (q:Nat) (row:tA),h q=some row→∃row',yO sl cs id x h q=some row':=by
 have up:∀(h:Nat→Option tA) (i:Nat) (y:tA) (q:Nat),(∃row,h q=some row)→∃row',zA h i (some y) q=some row':=by
  intro h i y q hq
  by_cases hi:q=i
  ·subst hi;exact⟨y,RA _ _ _⟩
  ·rw[AA _ _ _ _ hi];exact hq
 have one:∀(c:jC) (id:Nat) (x:c.T) (h:Nat→Option tA) (q:Nat),(∃row,h q=some row)→∃row',eK sl c id x h q=some row':=by
  intro c id x h q hq;cases c with
  | drop s'=>exact hq
  | slot s' ty=>exact hq
  | own s' t=>exact up _ _ _ _ hq
  | box s' t ow=>
   simp only[eK];generalize sl s'=v;cases v with
   | bp r off=>
    cases off with
    | zero=>
     refine up _ _ _ _ ?_;rw[AB];cases aB ow id (λ_=>none) 0 (enc t x) q with
     | some y=>exact⟨_,rfl⟩
     | none=>exact hq
    | succ n=>exact hq
   | _=>exact hq
 intro cs;induction cs with
 | nil=>intro id x h q row hq;exact⟨row,hq⟩
 | cons c cs ih=>
  intro id x h q row hq;cases cs with
  | nil=>exact one c id x h q ⟨row,hq⟩
  | cons d r=>exact one c id x.1 _ q (ih (id+128) x.2 h q row hq)
def zeU{j:JI}{b:St}{ρ':Nat→Option RI}{a':Act}{w':World}{k:HD j.cs→Option R}{r:R}(hb:bB C w0 outer own ρ b a w)(VZ:∀q,b.nx≤q→ρ q=none)
  (hr:bB C w0 outer own ρ' st' a' w') (hf:∀q,st'.nx≤q→ρ' q=none) (hnx:b.nx≤st'.nx) (aAA:∀q qi,ρ q=some qi→ρ' q=some qi)
  (H0:∀s,j.has s=false→st'.s s=b.s s) (AX:kD b.nx (iD j b).h st'.h) (pX:fS j=true) (he:PG j.cs st' k=some r):
  ∃x,k x=some r∧∃ρ'',bB C w0 outer own ρ'' (install j b x) a' w'∧(∀q,(install j b x).nx≤q→ρ'' q=none)∧(∀q qi,ρ q=some qi→ρ'' q=some qi)∧kD b.nx b.h (install j b x).h:=by
 have K8:∀q row,b.h q=some row→ρ q≠none∧q<b.nx:=λq row hq=>by
  obtain⟨ri,h1,_⟩:=hb.heap.rows q row hq;refine⟨by rw[h1];simp,?_⟩
  rcases Nat.lt_or_ge q b.nx with h | h
  ·exact h
  ·rw[VZ q h]at h1;cases h1
 have hhn:∀q,st'.nx≤q→st'.h q=none:=λq hq=>by
  cases hg:st'.h q with
  | none=>rfl
  | some row=>obtain⟨ri,h3,_⟩:=hr.heap.rows _ _ hg;rw[hf q hq]at h3;cases h3
 obtain⟨x,hn,ρ2,g2,hx,E⟩:=zlK (tv:=λs=>a'.tmps.getD s undef) j.cs st'.nx st' k r ρ' st'.h he hr.heap (λ_ _ h=>h) hr.slots hf hhn;let M:=st'.nx;let L:=128 *j.cs.length;let ρ'':Nat→Option RI:=λq=>if q<b.nx then ρ q else if q<b.nx+L then ρ2 (M+(q - b.nx))else none
 let φ:Nat→Nat:=λq=>if q<b.nx then q else M+(q - b.nx)
 have hρ2:∀q qi,ρ q=some qi→ρ2 q=some qi:=λq qi hq=>E.ext _ _ (aAA _ _ hq)
 have NV:∀q,ρ q≠none→q<b.nx:=λq hq=>by
  rcases Nat.lt_or_ge q b.nx with h | h
  ·exact h
  ·exact absurd (VZ q h) hq
 have hρlow:∀q,q<b.nx→ρ'' q=ρ q:=λq hq=>by simp only[ρ'',hq,if_true]
 have D3:∀q qi,ρ q=some qi→ρ'' q=some qi:=λq qi hq=>by rw[hρlow q (NV q (by rw[hq];simp))];exact hq
 have hρhi:∀o,o<L→ρ'' (b.nx+o)=ρ2 (M+o):=λo ho=>by
  have h1:¬(b.nx+o<b.nx):=by omega
  have h2:b.nx+o<b.nx+L:=by omega
  simp only[ρ'',h1,h2,if_false,if_true];congr 1;omega
 have hφlow:∀q,q<b.nx→φ q=q:=λq hq=>by simp only[φ,hq,if_true]
 have hφhi:∀q,b.nx≤q→φ q=M+(q - b.nx):=λq hq=>by
  have:¬q<b.nx:=by omega
  simp only[φ,this,if_false]
 have W2:YK w' ρ2 (sA outer ρ2 g2) g2 (λs=>a'.tmps.getD s undef) b.s j.cs M x:=by
  refine YK.slots j.cs M x (λs t ow hm=>?_) E.ok;have:=List.all_eq_true.1 pX _ hm;simp only[Bool.not_eq_true']at this;exact(H0 s this).symm
 -- the rows that stayed
 have WV:∀q row,BH j b q=some row→∃row0,b.h q=some row0∧row0.c=row.c∧∃row2,g2 q=some row2∧row2.c=row.c∧(row.m.isRo=false→row2.m.isRo=false):=λq row hq=>by
  unfold BH at hq;split at hq
  ·rename_i c hc;cases hi:cL j.cs b q
   ·simp only[hi,cond_false,Option.some.injEq]at hq;subst hq;have h1:(iD j b).h q=some ⟨c, .lock⟩:=by simp[iD,hc,hi]
    exact⟨_,hc,rfl,_,E.lies _ _ (E.left (q+1) q _ (by omega) (AX q _ (K8 q _ hc).2 h1 rfl) rfl),rfl,λ_=>rfl⟩
   ·simp[hi]at hq
  ·rename_i SW;obtain⟨c,m⟩:=row
   have hm:m.isOwn=false:=by
    cases m with
    | own=>exact absurd hq (SW c)
    | ro=>rfl
    | lock=>rfl
   have YX:b.h q=some ⟨c,m⟩:=hq
   have h1:(iD j b).h q=some ⟨c,m⟩:=by
    simp only[iD,YX];cases m with
    | own=>cases hm
    | ro=>rfl
    | lock=>rfl
   exact⟨_,hq,rfl,_,E.lies _ _ (E.left (q+1) q _ (by omega) (AX q _ (K8 q _ hq).2 h1 hm) hm),rfl,λh=>h⟩
 have IV:∀q row,(install j b x).h q=some row→∃row2,g2 (φ q)=some row2∧(row.m.isRo=false→row2.m.isRo=false)∧ρ'' q=ρ2 (φ q):=λq row hq=>by
  rcases zfi j.cs M b.nx x (BH j b) q row W2 hq with h1 | ⟨h1,h2,_,h4⟩ | ⟨o,ow,es,s,h1,h2,h3,h4,h5,h6⟩
  ·obtain⟨row0,k1,_,row2,k2,_,k3⟩:=WV q row h1;have YY:=(K8 q _ k1).2;obtain⟨ri,e1,_⟩:=hb.heap.rows q _ k1;exact⟨row2,by rw[hφlow q YY];exact k2,k3,by rw[hφlow q YY,hρlow q YY,e1,hρ2 q ri e1]⟩
  ·refine⟨row,by rw[hφhi q h1];exact h4,λh=>h,?_⟩;have:=hρhi (q - b.nx) (by omega);rw[show b.nx+(q - b.nx)=q by omega]at this;rw[this,hφhi q h1]
  ·have J4:=hb.slots s;rw[h6]at J4;obtain⟨ri,e1,_⟩:=J4.bp_inv;have YY:=NV q (by rw[e1];simp);exact⟨_,by rw[hφlow q YY];exact h2,λ_=>rfl,by rw[hφlow q YY,hρlow q YY,e1,hρ2 q ri e1]⟩
 have jW:∀c,sA outer ρ'' (install j b x).h c→sA outer ρ2 g2 c:=by
  rintro c (hc | ⟨q,row,ri,f1,f2,f3,f4,f5⟩)
  ·exact .inl hc
  ·obtain⟨row2,k1,k2,k3⟩:=IV q row f1;rw[k3]at f3;exact .inr ⟨_,row2,ri,k1,k2 f2,f3,f4,f5⟩
 -- what is said ahead holds behind
 have keepB:∀u d,VR w' ρ2 (sA outer ρ2 g2) u d→GB (λq=>ρ q≠none) d→VR w' ρ'' (sA outer ρ'' (install j b x).h) u d:=λu d hu hS=>
  hu.keep hS (λq qi hq h2=>by
   cases h3:ρ q with
   | none=>exact absurd h3 hq
   | some ri=>rw[hρ2 q ri h3]at h2;cases h2;exact D3 q _ h3) (λ_ _ _=>rfl) λc hc=> .inl (jW c hc)
 have hH:sB w0 outer own ρ'' (install j b x).h w':=by
  refine E.heap.sub φ E.heap.wx E.heap.old E.heap.outLt (λq row hq=>?_) (λq q' row row' h1 h2 h3=>?_)
  ·obtain⟨row2,k1,k2,k3⟩:=IV q row hq;obtain⟨ri,e1,e2,e3⟩:=E.heap.rows _ _ k1;refine⟨row2,ri,k1,by rw[k3];exact e1,e1,?_,λhn=>⟨(e3 hn).1.1,λhm=>(e3 hn).1.2 (k2 hm)⟩⟩
   rcases zfi j.cs M b.nx x (BH j b) q row W2 hq with h1 | ⟨h1,h2,⟨t,l,h3⟩,h4⟩ | ⟨o,ow,es,s,h1,h2,h3,h4,h5,h6⟩
   ·obtain⟨row0,f1,f2,row2',f3,f4,_⟩:=WV q row h1;have YY:=(K8 q _ f1).2;rw[hφlow q YY,f3]at k1;cases k1;rw[f4]at e2;obtain⟨rc,rm⟩:=row;cases rc with
    | arr t l=>exact zaJ e2 jW ρ''
    | box cs=>
     obtain⟨ri0,g1,g3,_⟩:=hb.heap.rows q _ f1;rw[f2]at g3;refine⟨e2.1,λi hi=>?_⟩;obtain⟨x1,y,x2,x3⟩:=e2.2 i hi;obtain⟨_,y0,_,y3⟩:=g3.2 i hi;exact⟨x1,y,x2,keepB _ _ x3 y3.refs⟩
   ·subst h3;rw[hφhi q h1,h4]at k1;cases k1;exact zaJ e2 jW ρ''
   ·have J4:=hb.slots s;rw[h6]at J4;obtain⟨ri',e4,_⟩:=J4.bp_inv;have YY:=NV q (by rw[e4];simp);rw[hφlow q YY,h2]at k1;cases k1;subst h1;refine⟨e2.1,λi hi=>?_⟩;rw[wE]at hi;obtain⟨x1,y,x2,x3⟩:=e2.2 i (by rw[wE];exact hi);refine⟨x1,y,x2,?_⟩
    have:=kR (w:=w') (ρ:=ρ2) (ρ2:=ρ'') (bad:=sA outer ρ2 g2) (bad2:=sA outer ρ'' (install j b x).h) ow (M+o) (b.nx+o) es 0 (λi=>(w'.cell? (at_ ri.b i)).getD undef) (λp _ hp _ _=>by
      rw[Nat.add_assoc,Nat.add_assoc];exact hρhi (o+p) (by omega)) h4 jW (λi hi=>by
      obtain⟨_,y,x2,x3⟩:=e2.2 i hi;rw[x2];exact x3) i (by rw[wE];exact hi)
    rw[x2]at this;exact this
  ·have cls:∀q row,(install j b x).h q=some row→φ q=q∧q<b.nx∨b.nx≤q∧φ q=M+(q - b.nx):=λq row _=>by
    rcases Nat.lt_or_ge q b.nx with h | h
    ·exact .inl ⟨hφlow q h,h⟩
    ·exact .inr ⟨h,hφhi q h⟩
   rcases cls q row h1 with⟨c1,c2⟩ | ⟨c1,c2⟩<;>rcases cls q' row' h2 with⟨c3,c4⟩ | ⟨c3,c4⟩<;>omega
 refine⟨x,hx,ρ'',⟨hH,λs=>?_,hr.size,hr.defers,hr.glob⟩,λq hq=>?_,D3,λq row d6 hq hm=>?_⟩
 ·show VR w' ρ'' _ _ (KG j.cs b.nx x (λi=>bif lO j.kill i then .undef else b.s i) s)
  rcases zt7 (λi=>bif lO j.kill i then .undef else b.s i) s j.cs M b.nx x W2 with⟨h1,h2⟩ | ⟨h1,h2⟩ | ⟨o,h1,h2,h3⟩
  ·rw[h2];cases hk:lO j.kill s
   ·simp only[cond_false];have hhas:j.has s=false:=by simp[JI.has,hk,h1]
    have hv:=E.keep _ _ (hr.slots s);rw[H0 s hhas]at hv;exact keepB _ _ hv (hb.slots s).refs
   ·simp only[cond_true];exact .undef _
  ·exact(h1.noRef h2 ρ'').mono (λ_ _ h=>h) (λ_ _ _=>rfl) λc hc=> .inl (jW c hc)
  ·rw[h1];have hq:=hρhi o h3;have h2:VR w' ρ2 (sA outer ρ2 g2) (a'.tmps.getD s undef) (.ow (M+o)):=h2;generalize a'.tmps.getD s undef=T at h2⊢;cases h2 with
   | ow _ ri e1 e2 e3 e4=>exact .ow _ ri (by rw[hq];exact e1) e2 e3 e4
   | owN _ ri ao e1 e2 e3=>exact .owN _ ri ao (by rw[hq];exact e1) e2 e3
 ·have h1:¬q<b.nx:=by simp only[install]at hq;omega
  have h2:¬q<b.nx+L:=by simp only[install]at hq;omega
  simp only[ρ'',h1,h2,if_false]
 ·have h1:(iD j b).h q=some row:=by
   simp only[iD,hq];obtain⟨c,m⟩:=row;cases m with
   | own=>cases hm
   | ro=>rfl
   | lock=>rfl
  have h2:BH j b q=some row:=by
   simp only[BH,hq];obtain⟨c,m⟩:=row;cases m with
   | own=>cases hm
   | ro=>rfl
   | lock=>rfl
  have h3:g2 q=some row:=E.lies _ _ (E.left (q+1) q _ (by omega) (AX q _ d6 h1 hm) hm);obtain⟨row',h4⟩:=zjU b.s j.cs b.nx x _ q row h2;show yO b.s j.cs b.nx x (BH j b) q=some row
  rcases zfi j.cs M b.nx x (BH j b) q row' W2 h4 with h5 | ⟨h5,_⟩ | ⟨o,ow,es,s,h5,h6,_⟩
  ·rw[h2]at h5;cases h5;exact h4
  ·omega
  ·rw[h3]at h6;cases h6;cases hm
end
end Go.D
namespace Go.D
variable [jA]
section
variable {C:Cx} {w0:World} {outer own:Nat→Prop} {ρ:Nat→Option RI} {st st' b:St} {a:Act} {w:World} {R:Type} {j:JI}
omit [jA]in
def zsh(j:JI)(st:St):GF (iD j st).h st.h:=λr row' hr=>by
 simp only[iD]at hr;split at hr
 ·rename_i c hc;cases hi:cL j.cs st r
  ·simp only[hi,cond_false,Option.some.injEq]at hr;subst hr;exact⟨_,hc,rfl,λ_=>rfl⟩
  grind
 grind
omit [jA]in
def zrh(b st:St):GF (unlock b st).h st.h:=λr row' hr=>by
 simp only[unlock]at hr;split at hr
 ·rename_i c hc;split at hr
  ·cases hr;exact⟨_,hc,rfl,λ_=>rfl⟩
  grind
 grind
def bB.lock(hr:bB C w0 outer own ρ st a w)(j:JI):bB C w0 outer own ρ (iD j st) a w:=by
 obtain⟨h1,h2⟩:=hr.heap.less (zsh j st);exact⟨h1,λi=>h2 _ _ (hr.slots i),hr.size,hr.defers,hr.glob⟩
def bB.unlock(hr:bB C w0 outer own ρ st a w)(b:St):bB C w0 outer own ρ (Go.D.unlock b st) a w:=by
 obtain⟨h1,h2⟩:=hr.heap.less (zrh b st);exact⟨h1,λi=>h2 _ _ (hr.slots i),hr.size,hr.defers,hr.glob⟩
omit [jA]in
def zqy{n:Nat}(hk:kD n (iD j b).h st'.h):kD n b.h (unlock b st').h:=λr row hn hr hm=>by
 have h1:(iD j b).h r=some row:=by
  simp only[iD,hr];obtain⟨c,m⟩:=row;cases m with
  | own=>cases hm
  | ro=>rfl
  | lock=>rfl
 have h2:=hk r row hn h1 hm;simp only[unlock,h2,hr];obtain⟨c,m⟩:=row;cases m with
 | own=>cases hm
 | ro=>rfl
 | lock=>rfl
omit [jA]in
def zsj(f:Nat→V)(s:Nat):∀(cs:List jC) (id:Nat) (x:HD cs),gE cs s=false→KG cs id x f s=f s:=by
 have one:∀(c:jC) (r:List jC) (id:Nat) (x:c.T) (f:Nat→V),gE (c :: r) s=false→gE r s=false∧gI c id x f s=f s:=by
  intro c r id x f h;cases c with
  | slot s' ty=>
   simp only[gE,Bool.or_eq_false_iff]at h;refine⟨h.2,AA _ _ _ _ ?_⟩;rintro rfl;simp at h
  | own s' t=>
   simp only[gE,Bool.or_eq_false_iff]at h;refine⟨h.2,AA _ _ _ _ ?_⟩;rintro rfl;simp at h
  | box s' t ow=>exact⟨h,rfl⟩
  | drop s'=>exact⟨h,rfl⟩
 intro cs;induction cs with
 | nil=>intro id x _;rfl
 | cons c cs ih=>
  intro id x h;cases cs with
  | nil=>exact(one c [] id x f h).2
  | cons d r=>
   obtain⟨h1,h2⟩:=one c (d :: r) id x.1 (KG (d :: r) (id+128) x.2 f) h;simp only[KG];rw[h2];exact ih (id+128) x.2 h1
omit [jA]in
def OT(j:JI)(b:St)(x:HD j.cs)(s:Nat)(h:j.has s=false):(install j b x).s s=b.s s:=by
 simp only[JI.has,Bool.or_eq_false_iff]at h;show KG j.cs b.nx x _ s=_
 rw[zsj _ _ _ _ _ h.2,h.1];rfl
end
end Go.D
namespace Go.D
variable [jA]
structure nC(C:Cx)(w0:World)(outer own:Nat→Prop)(D:Nat→Prop)(st:St)(ρ:Nat→Option RI)(st':St)(a':Act)(w':World)(ρ':Nat→Option RI):Prop where
 rel:bB C w0 outer own ρ' st' a' w'
 ext:∀q qi,ρ q=some qi→ρ' q=some qi
 slots:∀s,¬D s→st'.s s=st.s s
 keeps:kD st.nx st.h st'.h
 nx:st.nx≤st'.nx
 fresh:∀q,st'.nx≤q→ρ' q=none
section
variable {C:Cx} {w0:World} {outer own D:Nat→Prop} {R:Type}
def zuJ{w:World}{ρ:Nat→Option RI}{bad:Nat→Prop}{v:Value}(h:VR w ρ bad v (.tup [])):v=undef:=by
 cases h with
 | tup _ vs hs hv=>
  have:vs= #[]:=by simpa using hs
  subst this;rfl
omit [jA]in
def zr8{ops:Array Oper}{tmps:Array Value}{j dj:Nat}(h:(ops[j]?).bind (·.dst)=some dj)(NV:dj<tmps.size):
  yielded ops tmps j=match tmps.getD dj undef with | .bool b=>some b | _=>none:=by
 unfold yielded;rw[h];simp only[Option.bind_some,Array.getElem?_eq_getElem NV,Array.getD_eq_getD_getElem?,Option.getD_some];split<;>split<;>simp_all
omit [jA]in
def ztp(ops:Array Oper){k:Nat}(hk:k<ops.size):xF k (ops.toList.drop k)=(k,ops[k]) :: xF (k+1) (ops.toList.drop (k+1)):=by
 rw[List.drop_eq_getElem_cons (by simpa using hk)];rfl
omit [jA]in
def zs8(f:Nat→V)(i:Nat)(v:V)(h:f i=v):zA f i v=f:=by
 funext q
 by_cases hq:q=i
 ·subst hq;rw[RA,h]
 ·rw[AA _ _ _ _ hq]
def zfU(hC:LF C)(hΦ:YF C){ops:Array Oper}{Q:Exit→Act→World→Prop}{K:St→Option R}{r:R}(nx:Nat)(hD:∀o∈ops,∀d,o.dst=some d→D d):∀(m k:Nat) (st:St) (a:Act) (w:World) (ρ:Nat→Option RI),
  k+m=ops.size→bB C w0 outer own ρ st a w→(∀q,nx+128 *k≤q→ρ q=none)→iJ C ops nx (xF k (ops.toList.drop k)) st K=some r→
  (∀ st' a' w' ρ',bB C w0 outer own ρ' st' a' w'→(∀ q,nx+128 *ops.size≤q→ρ' q=none)→(∀ q qi,ρ q=some qi→ρ' q=some qi)→(∀ s,¬ D s→st'.s s=st.s s)→kD nx st.h st'.h→st'.nx=st.nx→
   K st'=some r→Q .normal a' w')→wpOps C.P ops Q (List.range' k m) a w
 | 0,k,st,a,w,ρ,hk,hr,hf,HV,MV=>by
  have:ops.toList.drop k=[]:=List.drop_eq_nil_of_le (by simp;omega);rw[this]at HV;exact MV st a w ρ hr (λq hq=>hf q (by omega)) (λ_ _ h=>h) (λ_ _=>rfl) (kD.refl _ _) rfl HV
 | m+1,k,st,a,w,ρ,hk,hr,hf,HV,MV=>by
  have NV:k<ops.size:=by omega
  have ho:ops[k]?=some ops[k]:=Array.getElem?_eq_getElem NV;rw[ztp ops NV]at HV;rw[List.range'_succ];simp only[wpOps,ho];have hDk:∀d,(ops[k]).dst=some d→D d:=hD _ (Array.getElem_mem NV)
  -- a step
  have step:∀(st0:St),bB C w0 outer own ρ st0 a w→st0.h=st.h→st0.nx=st.nx→(∀s,¬D s→st0.s s=st.s s)→(rB C (nx+128 *k) ops[k] st0 λst'=>iJ C ops nx (xF (k+1) (ops.toList.drop (k+1))) st' K)=some r→
    (ops[k]).wp C.P a w (wpOps C.P ops Q (List.range' (k+1) m)) Q:=by
   intro st0 hr0 hh0 hnx0 uY HV;rw[YR]at HV;obtain⟨st1,h1,h2⟩:=Option.bind_eq_some_iff.1 HV;have L:=zjt (n:=nx) (i:=nx+128 *k) (by omega) ops[k] st1 h1;refine zlj hr0 hC hΦ ⟨_,hf⟩ (λq _=>hf _ (by omega)) h1 _ Q λa1 w1 hA=>?_;obtain⟨ρ1,OV,hE,hx⟩:=hA;refine zfU hC hΦ nx hD m (k+1) st1 a1 w1 ρ1 (by omega) OV (λq hq=>by rw[hE q (by omega)];exact hf q (by omega)) h2 λst' a' w' ρ' p1 p2 p3 p4 p5 p6 p7=>?_;refine MV st' a' w' ρ' p1 p2 (λq qi hq=>p3 _ _ (hx q qi hq)) (λs hs=>?_) ?_ (p6.trans (L.nx.trans hnx0)) p7
   ·rw[p4 s hs,L.slots s (λe=>hs (hDk s e)),uY s hs]
   ·rw[←hh0];exact L.rows.trans p5
  have skip:(VA C (ops[k]).dst st (.tup []) λst'=>iJ C ops nx (xF (k+1) (ops.toList.drop (k+1))) st' K)=some r→wpOps C.P ops Q (List.range' (k+1) m) (a.put (ops[k]).dst undef) w:=by
   intro HV;rw[pS]at HV;obtain⟨st1,h1,h2⟩:=Option.bind_eq_some_iff.1 HV;have L:=zcB (π:=λr=>r<nx) (V.tup []) st1 h1;obtain⟨p1,_,_⟩:=hr.put (v:=undef) (d:= .tup []) (.tup [] #[] rfl λj hj=>by simp at hj) h1;refine zfU hC hΦ nx hD m (k+1) st1 _ w ρ (by omega) p1 (λq hq=>hf q (by omega)) h2 λst' a' w' ρ' q1 q2 q3 q4 q5 q6 q7=>?_;refine MV st' a' w' ρ' q1 q2 q3 (λs hs=>?_) (L.rows.trans q5) (q6.trans L.nx) q7;rw[q4 s hs,L.slots s (λe=>hs (hDk s e))]
  simp only[iJ]at HV;split at HV
  ·rename_i hg;rw[if_pos (by simp[Region.wanted,hg])];exact .inl (step st hr rfl rfl (λ_ _=>rfl) HV)
  ·rename_i j want hg;split at HV
   ·cases HV
   rename_i dj FZ
   have hDj:D dj:=by
    obtain⟨oj,h1,h2⟩:=Option.bind_eq_some_iff.1 FZ;exact hD oj (Array.mem_of_getElem? h1) dj h2
   have hv:=hr.slots dj
   have hyn:∀v,a.tmps.getD dj undef=v→(∀b,v≠ .bool b)→yielded ops a.tmps j=none:=λv hv hn=>by
    unfold yielded;rw[FZ];simp only[Option.bind_some];split
    ·rename_i b hb;rw[Array.getD_eq_getD_getElem?,hb]at hv;exact absurd hv.symm (hn b)
    ·rfl
   split at HV
   ·rename_i hs;rw[hs]at hv;have hy:=hyn _ (zuJ hv) (λb h=>by cases h);rw[if_neg (by simp[Region.wanted,hg,hy])];exact skip HV
   ·rename_i t hs;rw[hs]at hv
    have hb:a.tmps.getD dj undef= .bool t:=by
     generalize a.tmps.getD dj undef=v at hv;cases hv;rfl
    have XY:dj<a.tmps.size:=by
     rcases Nat.lt_or_ge dj a.tmps.size with h | h
     ·exact h
     ·rw[Array.getD_eq_getD_getElem?,Array.getElem?_eq_none h]at hb;cases hb
    have hy:yielded ops a.tmps j=some t:=by rw[zr8 FZ XY,hb]
    have PX:({st with s:=zA st.s dj (.bool t)}:St)=st:=by rw[zs8 _ _ _ hs]
    have hw:Region.wanted ops[k] (yielded ops a.tmps)=(t==want):=by
     simp only[Region.wanted,hg,hy];cases t<;>cases want<;>rfl
    rw[hw]
    have HV:(bif t==want then rB C (nx+128 *k) ops[k] {st with s:=zA st.s dj (.bool t)} λst'=>iJ C ops nx (xF (k+1) (ops.toList.drop (k+1))) st' K
      else VA C (ops[k]).dst {st with s:=zA st.s dj (.bool t)} (.tup []) λst'=>iJ C ops nx (xF (k+1) (ops.toList.drop (k+1))) st' K)=some r:=by
     cases t<;>exact HV
    rw[PX]at HV;cases L8:t==want
    ·rw[L8]at HV;simp only[Bool.false_eq_true,if_false];exact skip HV
    ·rw[L8]at HV;simp only[if_true];exact .inl (step st hr rfl rfl (λ_ _=>rfl) HV)
   ·cases HV
end
end Go.D
namespace Go.D
variable [jA]
def JD(D:Nat→Prop):Option JI→Prop
 | none=>True
 | some j=>∀s,j.has s=true→D s
def fI(an:An)(D:Nat→Prop):Code→Prop
 | .region id ops _=>(∀o∈ops,∀d,o.dst=some d→D d)∧JD D (OC id an.r)
 | .seq a b=>fI an D a∧fI an D b
 | .cond (.tmp t) a b=>fI an D a∧fI an D b∧JD D (OC (zfW t a b) an.c)
 | .cond _ a b=>fI an D a∧fI an D b
 | .block id b=>fI an D b∧JD D (OC id an.b)
 | .loop b=>fI an D b∧match tK b with
  | some rid=>JD D (OC rid an.l)
  | none=>True
 | .scope b=>fI an D b
 | _=>True
omit [jA]in
def yU:∀(cs:List jC) (s:Nat),gE cs s=true→∃c∈cs,(∃ty,c= .slot s ty)∨∃t,c= .own s t
 | [],s,h=>by simp[gE]at h
 | .slot s' ty :: r,s,h=>by
  simp only[gE,Bool.or_eq_true]at h
  rcases h with h | h
  ·have:=Nat.eq_of_beq_eq_true h;subst this;exact⟨_,by simp, .inl ⟨ty,rfl⟩⟩
  ·obtain⟨c,h1,h2⟩:=yU r s h;exact⟨c,by simp[h1],h2⟩
 | .own s' t :: r,s,h=>by
  simp only[gE,Bool.or_eq_true]at h
  rcases h with h | h
  ·have:=Nat.eq_of_beq_eq_true h;subst this;exact⟨_,by simp, .inr ⟨t,rfl⟩⟩
  ·obtain⟨c,h1,h2⟩:=yU r s h;exact⟨c,by simp[h1],h2⟩
 | .drop s' :: r,s,h=>by
  obtain⟨c,h1,h2⟩:=yU r s h;exact⟨c,by simp[h1],h2⟩
 | .box s' t ow :: r,s,h=>by
  obtain⟨c,h1,h2⟩:=yU r s h;exact⟨c,by simp[h1],h2⟩
omit [jA]in
def zcT(j:JI)(o:Option JI)(h:fits j o=true):JD (λs=>j.has s=true) o:=by
 cases o with
 | none=>trivial
 | some i=>
  simp only[fits,Bool.and_eq_true,List.all_eq_true]at h;intro s hs;simp only[JI.has,Bool.or_eq_true]at hs
  rcases hs with hs | hs
  ·obtain⟨p,hp,hps⟩:=List.any_eq_true.1 hs;simp only[Bool.and_eq_true,Nat.ble_eq]at hps;have h1:=h.1 p hp;simp only[zk6,Bool.or_eq_true,Bool.and_eq_true]at h1
   rcases h1 with h1 | ⟨h1,h2⟩
   ·obtain⟨q,hq,J4⟩:=List.any_eq_true.1 h1;simp only[Bool.and_eq_true,Nat.ble_eq]at J4;have:lO j.kill s=true:=List.any_eq_true.2 ⟨q,hq,by simp only[Bool.and_eq_true,Nat.ble_eq];omega⟩;simp[JI.has,this]
   ·have:=Nat.eq_of_beq_eq_true h1;have hsp:s=p.1:=by omega
    subst hsp;simp[JI.has,h2]
  ·obtain⟨c,h1,h2⟩:=yU _ _ hs;have h3:=h.2 c h1
   rcases h2 with⟨ty,rfl⟩ | ⟨t,rfl⟩<;>exact h3
omit [jA]in
def QG(an:An)(j:JI):∀(c:Code),Code.within an j c=true→fI an (λs=>j.has s=true) c
 | .region id ops d,h=>by
  simp only[Code.within,Bool.and_eq_true,List.all_eq_true]at h;refine⟨λo ho d hd=>?_,zcT j _ h.2⟩;have:=h.1 o (by simpa using ho);rw[hd]at this;exact this
 | .seq a b,h=>by
  simp only[Code.within,Bool.and_eq_true]at h;exact⟨QG an j a h.1,QG an j b h.2⟩
 | .cond c a b,h=>by
  cases c with
  | tmp t=>
   simp only[Code.within,Bool.and_eq_true]at h;exact⟨QG an j a h.1.1,QG an j b h.1.2,zcT j _ h.2⟩
  | _=>
   simp only[Code.within,Bool.and_eq_true]at h;exact⟨QG an j a h.1,QG an j b h.2⟩
 | .block id b,h=>by
  simp only[Code.within,Bool.and_eq_true]at h;exact⟨QG an j b h.1,zcT j _ h.2⟩
 | .loop b,h=>by
  simp only[Code.within,Bool.and_eq_true]at h;refine⟨QG an j b h.1,?_⟩;have h2:=h.2;split
  ·rename_i rid hr;rw[hr]at h2;exact zcT j _ h2
  ·trivial
 | .scope b,h=>QG an j b h
 | .skip,_=>trivial
 | .exit _,_=>trivial
 | .ret,_=>trivial
 | .label _,_=>trivial
 | .goto _,_=>trivial
 | .refuse _,_=>trivial
 | .rangeFunc _ _ _ _,_=>trivial
end Go.D

/-
  Sizes of the program's data.
-/
import Derived.Test.YtinolgjddfjojaaGreatL8
namespace Go.D
instance:Wt G.Addr:=⟨fun _=>0⟩
theorem wt_Addr (x:G.Addr):wt x=0:=rfl
instance:Wt G.Op:=⟨fun x=>wt x.B⟩
theorem wt_Op (x:G.Op):wt x=wt x.B:=rfl
instance:Wt G.Event:=⟨fun x=>wt x.B+wt x.Ops⟩
theorem wt_Event (x:G.Event):wt x=wt x.B+wt x.Ops:=rfl
instance:Wt G.Note:=⟨fun x=>wt x.Cn+wt x.Sn+wt x.Body+wt x.Key+wt x.A⟩
theorem wt_Note (x:G.Note):wt x=wt x.Cn+wt x.Sn+wt x.Body+wt x.Key+wt x.A:=rfl
end Go.D
namespace Go.D
noncomputable section
def inR (n lo hi:Int):Bool:=decide (n≥lo)&&decide (n≤hi)
def always {α:Type} (_:α):Bool:=true
def eventOk (e:G.Event):Bool:=inR e.Kind 1 17&&inR e.I 0 10000&&inR e.J 0 10000&&inR e.N 0 10000&&decide ((e.B.length:Int)≤200)&&decide ((e.Ops.length:Int)≤16)
def sameO (a b:List UInt8):Option Bool:=pt (wt a≤LIM∧wt b≤LIM) (a==b)
def shown (l:List G.Note) (b:List UInt8):Bool:=anyN l.length fun i=>(l[i]?).any fun e=>e.Kind==13&&e.Sn==b
def shownO (l:List G.Note) (b:List UInt8):Option Bool:=pt (wt l≤LIM∧wt b≤LIM) (shown l b)
def rolledAt (l:List G.Note) (i:Nat):Bool:=anyN i fun j=>(l[i]?).any fun e=>(l[j]?).any fun d=>e.Kind==14&&(d.Kind==14&&d.Body==e.Body)
def rolled (l:List G.Note):Bool:=anyN l.length (rolledAt l)
def rolledO (l:List G.Note):Option Bool:=pt (wt l≤LIM) (rolled l)
def isUp (n:G.Note):Bool:=n.Kind==3||n.Kind==4
def isKey (n:G.Note):Bool:=isUp n||n.Kind==10
def differ (a b:G.Note):Bool:=(isUp a&&isUp b&&!(a.Cn==b.Cn))||(isKey a&&isKey b&&(!(a.Sn==b.Sn)||a.Epoch !=b.Epoch))||(a.Kind==12&&b.Kind==12)
def twiceAt (l:List G.Note) (i:Nat):Bool:=anyN i fun j=>(l[i]?).any fun e=>(l[j]?).any fun d=>d.Key==e.Key&&differ d e
def twice (l:List G.Note):Bool:=anyN l.length (twiceAt l)
def twiceO (l:List G.Note):Option Bool:=pt (wt l≤LIM) (twice l)
def asked (l:List G.Note) (e:G.Note) (i:Nat):Bool:=anyN i fun j=>(l[j]?).any fun d=>d.Kind==15&&(d.Key==e.Key&&d.Body==e.Body)
def forgedAt (l:List G.Note) (i:Nat):Bool:=(l[i]?).any fun e=>e.Kind==16&&(!shown (l.take i) e.Sn&&!asked l e i)
def forged (l:List G.Note):Bool:=anyN l.length (forgedAt l)
def forgedO (l:List G.Note):Option Bool:=pt (wt l≤LIM) (forged l)
def lucky (l:List G.Note):Bool:=rolled l||forged l||twice l
def luckyO (l:List G.Note):Option Bool:=pt (wt l≤LIM) (lucky l)
end
end Go.D
namespace Go.D
noncomputable section
def spec_l1In.raw (a0:Int) (a1:Int) (a2:Int):Option Bool:=
  joinK (fun (y1:Bool)=>
  some y1) fun k2=>
  cond (decide (a0≥a1))
  (k2 (decide (a0≤a2)))
  (k2 false)
def spec_EventOk.raw (a0:G.Event):Option Bool:=
  joinK (fun (y1:Bool)=>
  some y1) fun k2=>
  cond ((inR a0.Kind 1 17))
  (cond ((inR a0.I 0 10000))
  (cond ((inR a0.J 0 10000))
  (cond ((inR a0.N 0 10000))
  (cond (decide ((a0.B.length:Int)≤200))
  (k2 (decide ((a0.Ops.length:Int)≤16)))
  (k2 false))
  (k2 false))
  (k2 false))
  (k2 false))
  (k2 false)
def impl_within.raw (a0:Int) (a1:Int) (a2:Int):Option Bool:=
  joinK (fun (y1:Bool)=>
  some y1) fun k2=>
  cond (decide (a0≥a1))
  (k2 (decide (a0≤a2)))
  (k2 false)
def spec_l1Same.raw (a0:List UInt8) (a1:List UInt8):Option Bool:=
  cond (Nat.ble a0.length LIM) (cond (Nat.ble a1.length LIM) (some (a0==a1)) none) none
def spec_Shown.raw (a0:List G.Note) (a1:List UInt8):Option Bool:=
  joinK (fun (y1:Unit)=>
  some false) fun k2=>
  loopK FU (fun (x3:Int) k4=>
  cond (decide (x3<(a0.length:Int)))
  (joinK (fun (y5:Bool)=>
  cond (y5)
  (some true)
  (k4 (iadd .i64 x3 1))) fun k6=>
  Option.bind (idxI a0 x3) fun e7=>
  cond (e7.Kind==13)
  (Option.bind (idxI a0 x3) fun e8=>
  Option.bind (sameO e8.Sn a1) fun r9=>
  k6 r9)
  (k6 false))
  (k2 ())) 0
def bytes_Equal.raw (a0:List UInt8) (a1:List UInt8):Option Bool:=
  cond (Nat.ble a0.length LIM) (cond (Nat.ble a1.length LIM) (some (a0==a1)) none) none
def impl_Shown.raw (a0:List G.Note) (a1:List UInt8):Option Bool:=
  joinK (fun (y1:Unit)=>
  some false) fun k2=>
  loopK FU (fun (x3:Int) k4=>
  cond (decide (x3<(a0.length:Int)))
  (Option.bind (idxI a0 x3) fun e5=>
  joinK (fun (y6:Bool)=>
  cond (y6)
  (some true)
  (k4 (iadd .i64 x3 1))) fun k7=>
  cond (e5.Kind==13)
  (Option.bind (sameO e5.Sn a1) fun r8=>
  k7 r8)
  (k7 false))
  (k2 ())) 0
def spec_Rolled.raw (a0:List G.Note):Option Bool:=
  joinK (fun (y1:Unit)=>
  some false) fun k2=>
  loopK FU (fun (x3:Int) k4=>
  cond (decide (x3<(a0.length:Int)))
  (joinK (fun (y5:Unit)=>
  k4 (iadd .i64 x3 1)) fun k6=>
  loopK FU (fun (x7:Int) k8=>
  joinK (fun (y9:Bool)=>
  cond (y9)
  (joinK (fun (y12:Bool)=>
  cond (y12)
  (some true)
  (k8 (iadd .i64 x7 1))) fun k13=>
  Option.bind (idxI a0 x7) fun e14=>
  cond (e14.Kind==14)
  (Option.bind (idxI a0 x7) fun e15=>
  Option.bind (idxI a0 x3) fun e16=>
  Option.bind (sameO e15.Body e16.Body) fun r17=>
  k13 r17)
  (k13 false))
  (k6 ())) fun k10=>
  cond (decide (x7<x3))
  (Option.bind (idxI a0 x3) fun e11=>
  k10 (e11.Kind==14))
  (k10 false)) 0)
  (k2 ())) 0
def spec_l27Up.raw (a0:G.Note):Option Bool:=
  joinK (fun (y1:Bool)=>
  some y1) fun k2=>
  cond (a0.Kind==3)
  (k2 true)
  (k2 (a0.Kind==4))
def spec_l27Key.raw (a0:G.Note):Option Bool:=
  joinK (fun (y1:Bool)=>
  some y1) fun k2=>
  cond ((isUp a0))
  (k2 true)
  (k2 (a0.Kind==10))
def spec_KeyTwice.raw (a0:List G.Note):Option Bool:=
  joinK (fun (y1:Unit)=>
  some false) fun k2=>
  loopK FU (fun (x3:Int) k4=>
  cond (decide (x3<(a0.length:Int)))
  (joinK (fun (y5:Unit)=>
  k4 (iadd .i64 x3 1)) fun k6=>
  loopK FU (fun (x7:Int) k8=>
  cond (decide (x7<x3))
  (joinK (fun (y9:Unit)=>
  k8 (iadd .i64 x7 1)) fun k10=>
  Option.bind (idxI a0 x3) fun e11=>
  Option.bind (idxI a0 x7) fun e12=>
  Option.bind (sameO e11.Key e12.Key) fun r13=>
  cond (!r13)
  (k10 ())
  (joinK (fun (y14:Bool)=>
  cond (y14)
  (some true)
  (joinK (fun (y23:Bool)=>
  cond (y23)
  (some true)
  (joinK (fun (y30:Bool)=>
  cond (y30)
  (some true)
  (k10 ())) fun k31=>
  Option.bind (idxI a0 x3) fun e32=>
  cond (e32.Kind==12)
  (Option.bind (idxI a0 x7) fun e33=>
  k31 (e33.Kind==12))
  (k31 false))) fun k24=>
  Option.bind (idxI a0 x3) fun e25=>
  cond ((isUp e25))
  (Option.bind (idxI a0 x7) fun e26=>
  cond ((isUp e26))
  (Option.bind (idxI a0 x3) fun e27=>
  Option.bind (idxI a0 x7) fun e28=>
  Option.bind (sameO e27.Cn e28.Cn) fun r29=>
  k24 (!r29))
  (k24 false))
  (k24 false))) fun k15=>
  Option.bind (idxI a0 x3) fun e16=>
  cond ((isKey e16))
  (Option.bind (idxI a0 x7) fun e17=>
  cond ((isKey e17))
  (Option.bind (idxI a0 x3) fun e18=>
  Option.bind (idxI a0 x7) fun e19=>
  Option.bind (sameO e18.Sn e19.Sn) fun r20=>
  cond (!r20)
  (k15 true)
  (Option.bind (idxI a0 x3) fun e21=>
  Option.bind (idxI a0 x7) fun e22=>
  k15 (e21.Epoch !=e22.Epoch)))
  (k15 false))
  (k15 false)))
  (k6 ())) 0)
  (k2 ())) 0
def spec_Forged.raw (a0:List G.Note):Option Bool:=
  joinK (fun (y1:Unit)=>
  some false) fun k2=>
  loopK FU (fun (x3:Int) k4=>
  cond (decide (x3<(a0.length:Int)))
  (joinK (fun (y5:Unit)=>
  k4 (iadd .i64 x3 1)) fun k6=>
  joinK (fun (y7:Bool)=>
  cond (y7)
  (k6 ())
  (joinK (fun (y13:Bool)=>
  cond (!y13)
  (some true)
  (k6 ())) fun k14=>
  loopK FU (fun (x15:Bool × Int) k16=>
  joinK (fun (y17:Bool)=>
  cond (y17)
  (joinK (fun (y19:Bool)=>
  k16 (y19,(iadd .i64 x15.2 1))) fun k20=>
  Option.bind (idxI a0 x15.2) fun e21=>
  cond (e21.Kind==15)
  (Option.bind (idxI a0 x15.2) fun e22=>
  Option.bind (idxI a0 x3) fun e23=>
  Option.bind (sameO e22.Key e23.Key) fun r24=>
  cond (r24)
  (Option.bind (idxI a0 x15.2) fun e25=>
  Option.bind (idxI a0 x3) fun e26=>
  Option.bind (sameO e25.Body e26.Body) fun r27=>
  k20 r27)
  (k20 false))
  (k20 false))
  (k14 x15.1)) fun k18=>
  cond (decide (x15.2<x3))
  (k18 (!x15.1))
  (k18 false)) (false,0))) fun k8=>
  Option.bind (idxI a0 x3) fun e9=>
  cond (e9.Kind !=16)
  (k8 true)
  (cond (decide (0≤(0:Int))&&decide ((0:Int)≤x3)&&decide (x3≤(a0.length:Int))) (let l10:List G.Note:=List.take ((x3 - 0).toNat) (List.drop 0 a0)
  Option.bind (idxI a0 x3) fun e11=>
  Option.bind (shownO l10 e11.Sn) fun r12=>
  k8 r12) none))
  (k2 ())) 0
def spec_Lucky.raw (a0:List G.Note):Option Bool:=
  joinK (fun (y1:Bool)=>
  some y1) fun k2=>
  Option.bind (rolledO a0) fun r3=>
  cond (r3)
  (k2 true)
  (Option.bind (forgedO a0) fun r4=>
  cond (r4)
  (k2 true)
  (Option.bind (twiceO a0) fun r5=>
  k2 r5))
end
end Go.D
namespace Go.D
end Go.D
namespace Go.D
theorem inR_raw (a b c:Int):joinK (R:=Bool) (fun (y:Bool)=>some y) (fun k=>cond (decide (a≥b)) (k (decide (a≤c))) (k false))=some (inR a b c):=by
  simp only [joinK,inR]
  cases decide (a≥b) <;> rfl
theorem impl_within.ok {x:TyTup [.v .int, .v .int, .v .int]} (_:bdTup [.v .int, .v .int, .v .int] x):impl_within.raw x.1 x.2.1 x.2.2=some (inR x.1 x.2.1 x.2.2):=inR_raw _ _ _
theorem spec_l1In.ok {x:TyTup [.v .int, .v .int, .v .int]} (_:bdTup [.v .int, .v .int, .v .int] x):spec_l1In.raw x.1 x.2.1 x.2.2=some (inR x.1 x.2.1 x.2.2):=inR_raw _ _ _
theorem lt_len {n i:Nat} (h:i<n):decide ((i:Int)<(n:Int))=true:=by simp;exact h
theorem lt_end {n:Nat}:decide ((n:Int)<(n:Int))=false:=by simp
theorem cut_ok {n i:Nat} (h:i≤n):(decide (0≤(0:Int))&&decide ((0:Int)≤(i:Int))&&decide ((i:Int)≤(n:Int)))=true:=by simp;exact h
theorem cut_eq {α:Type} (l:List α) (i:Nat):List.take (((i:Int) - 0).toNat) (List.drop 0 l)=l.take i:=by simp
theorem eventOk_raw (e:G.Event):joinK (R:=Bool) (fun (y:Bool)=>some y) (fun k=>cond (inR e.Kind 1 17) (cond (inR e.I 0 10000) (cond (inR e.J 0 10000) (cond (inR e.N 0 10000) (cond (decide ((e.B.length:Int)≤200))
    (k (decide ((e.Ops.length:Int)≤16))) (k false)) (k false)) (k false)) (k false)) (k false))=some (eventOk e):=by
  simp only [joinK,eventOk]
  cases inR e.Kind 1 17 <;> cases inR e.I 0 10000 <;> cases inR e.J 0 10000 <;> cases inR e.N 0 10000 <;> cases decide ((e.B.length:Int)≤200) <;> rfl
theorem spec_EventOk.ok {x:TyTup [.v .Event]} (_:bdTup [.v .Event] x):spec_EventOk.raw x=some (eventOk x):=eventOk_raw x
theorem ble_ok {n m:Nat} (h:n≤m):Nat.ble n m=true:=Nat.ble_eq_true_of_le h
theorem sameO_raw (a b:List UInt8) {r:Bool}:sameO a b=some r→(cond (Nat.ble a.length LIM) (cond (Nat.ble b.length LIM) (some (a==b)) none) none)=some r:=
  pt_ok fun h=>by
    rw [ble_ok (by rw [← wt_bytes];exact h.1),ble_ok (by rw [← wt_bytes];exact h.2)];rfl
theorem bytes_Equal.ok {x:TyTup [.sl .byte, .sl .byte]} (_:bdTup [.sl .byte, .sl .byte] x) {r:Bool}:sameO x.1 x.2=some r→bytes_Equal.raw x.1 x.2=some r:=sameO_raw x.1 x.2
theorem spec_l1Same.ok {x:TyTup [.sl .byte, .sl .byte]} (_:bdTup [.sl .byte, .sl .byte] x) {r:Bool}:sameO x.1 x.2=some r→spec_l1Same.raw x.1 x.2=some r:=sameO_raw x.1 x.2
theorem note_wt {l:List G.Note} (h:wt l≤LIM) {i:Nat} (hi:i<l.length):wt l[i]≤LIM∧wt l[i].Cn≤LIM∧wt l[i].Sn≤LIM∧wt l[i].Body≤LIM∧wt l[i].Key≤LIM:=by
  have:=wt_get hi
  rw [wt_Note] at this
  have h2:=wt_Note l[i]
  omega
theorem impl_Shown_raw (l:List G.Note) (b:List UInt8) (hl:l.length≤maxLen) (h:wt l≤LIM∧wt b≤LIM):impl_Shown.raw l b=some (shown l b):=by
  simp only [impl_Shown.raw,joinK,shown]
  rw [loop_any l.length hl (fun i=>(l[i]?).any fun e=>e.Kind==13&&e.Sn==b) (some true) (some false) (fun i k hi=>?_) (fun k=>by simp only [lt_end,cond_false])]
  · cases anyN _ _ <;> rfl
  · simp only [lt_len hi,cond_true,idxI_get hi,bind_some',at_any hi,sameO]
    rw [pt_bind ⟨(note_wt h.1 hi).2.2.1,h.2⟩]
    cases l[i].Kind==13 <;> cases l[i].Sn==b <;> rfl
theorem impl_Shown.ok {x:TyTup [.sl .Note, .sl .byte]} (hb:bdTup [.sl .Note, .sl .byte] x) {r:Bool}:shownO x.1 x.2=some r→impl_Shown.raw x.1 x.2=some r:=pt_ok fun h=>impl_Shown_raw x.1 x.2 hb.1.1 h
theorem spec_Shown_raw (l:List G.Note) (b:List UInt8) (hl:l.length≤maxLen) (h:wt l≤LIM∧wt b≤LIM):spec_Shown.raw l b=some (shown l b):=by
  simp only [spec_Shown.raw,joinK,shown]
  rw [loop_any l.length hl (fun i=>(l[i]?).any fun e=>e.Kind==13&&e.Sn==b) (some true) (some false) (fun i k hi=>?_) (fun k=>by simp only [lt_end,cond_false])]
  · cases anyN _ _ <;> rfl
  · simp only [lt_len hi,cond_true,idxI_get hi,bind_some',at_any hi,sameO]
    rw [pt_bind ⟨(note_wt h.1 hi).2.2.1,h.2⟩]
    cases l[i].Kind==13 <;> cases l[i].Sn==b <;> rfl
theorem spec_Shown.ok {x:TyTup [.sl .Note, .sl .byte]} (hb:bdTup [.sl .Note, .sl .byte] x) {r:Bool}:shownO x.1 x.2=some r→spec_Shown.raw x.1 x.2=some r:=pt_ok fun h=>spec_Shown_raw x.1 x.2 hb.1.1 h
theorem spec_Rolled_raw (l:List G.Note) (hl:l.length≤maxLen) (h:wt l≤LIM):spec_Rolled.raw l=some (rolled l):=by
  simp only [spec_Rolled.raw,joinK,rolled]
  rw [loop_any l.length hl (rolledAt l) (some true) (some false) (fun i k hi=>?_) (fun k=>by simp only [lt_end,cond_false])]
  · cases anyN _ _ <;> rfl
  · simp only [lt_len hi,cond_true,idxI_get hi,bind_some']
    cases hk:l[i].Kind==14
    · have hr:rolledAt l i=false:=by
        rw [rolledAt,anyN_false];intro j hj
        rw [at_any hi,at_any (Nat.lt_trans hj hi),hk];rfl
      rw [hr]
      refine (loop_once (z:=k (IntKind.wrap .i64 ((i:Int)+1))) fun k'=>?_).trans rfl
      cases decide ((0:Int)<(i:Int)) <;> rfl
    · simp only [rolledAt]
      rw [loop_any i (by omega) (fun j=>(l[i]?).any fun e=>(l[j]?).any fun d=>e.Kind==14&&(d.Kind==14&&d.Body==e.Body)) (some true) _ (fun j k' hj=>?_) (fun k'=>by simp only [lt_end,cond_false];rfl)]
      simp only [lt_len hj,cond_true,idxI_get (Nat.lt_trans hj hi),bind_some',at_any hi,at_any (Nat.lt_trans hj hi),hk,sameO]
      rw [pt_bind ⟨(note_wt h (Nat.lt_trans hj hi)).2.2.2.1,(note_wt h hi).2.2.2.1⟩]
      cases l[j].Kind==14 <;> cases l[j].Body==l[i].Body <;> rfl
theorem spec_Rolled.ok {x:TyTup [.sl .Note]} (hb:bdTup [.sl .Note] x) {r:Bool}:rolledO x=some r→spec_Rolled.raw x=some r:=pt_ok fun h=>spec_Rolled_raw x hb.1 h
theorem spec_l27Up.ok {x:TyTup [.v .Note]} (_:bdTup [.v .Note] x):spec_l27Up.raw x=some (isUp x):=by
  show spec_l27Up.raw (x:G.Note)=some (isUp (x:G.Note))
  generalize (show G.Note from x)=n
  simp only [spec_l27Up.raw,joinK,isUp]
  cases n.Kind==3 <;> rfl
theorem spec_l27Key.ok {x:TyTup [.v .Note]} (_:bdTup [.v .Note] x):spec_l27Key.raw x=some (isKey x):=by
  show spec_l27Key.raw (x:G.Note)=some (isKey (x:G.Note))
  generalize (show G.Note from x)=n
  simp only [spec_l27Key.raw,joinK,isKey]
  cases isUp n <;> rfl
theorem neq_comm (a b:Int):(a !=b)=(b !=a):=by
  by_cases h:a=b
  · subst h;rfl
  · rw [bne_iff_ne.2 h,bne_iff_ne.2 (Ne.symm h)]
theorem spec_KeyTwice_raw (l:List G.Note) (hl:l.length≤maxLen) (h:wt l≤LIM):spec_KeyTwice.raw l=some (twice l):=by
  simp only [spec_KeyTwice.raw,joinK,twice]
  rw [loop_any l.length hl (twiceAt l) (some true) (some false) (fun i k hi=>?_) (fun k=>by simp only [lt_end,cond_false])]
  · cases anyN _ _ <;> rfl
  · simp only [lt_len hi,cond_true,twiceAt]
    rw [loop_any i (by omega) (fun j=>(l[i]?).any fun e=>(l[j]?).any fun d=>d.Key==e.Key&&differ d e) (some true) _ (fun j k' hj=>?_) (fun k'=>by simp only [lt_end,cond_false];rfl)]
    have hw:=note_wt h hi
    have hw2:=note_wt h (Nat.lt_trans hj hi)
    simp only [lt_len hj,cond_true,idxI_get (Nat.lt_trans hj hi),idxI_get hi,bind_some',at_any hi,at_any (Nat.lt_trans hj hi),sameO]
    rw [pt_bind ⟨hw.2.2.2.2,hw2.2.2.2.2⟩]
    simp only [pt_bind (p:=wt l[i].Sn≤LIM∧wt l[j].Sn≤LIM) ⟨hw.2.2.1,hw2.2.2.1⟩,pt_bind (p:=wt l[i].Cn≤LIM∧wt l[j].Cn≤LIM) ⟨hw.2.1,hw2.2.1⟩,differ]
    rw [BEq.comm (a:=l[j].Key),BEq.comm (a:=l[j].Sn),BEq.comm (a:=l[j].Cn),neq_comm l[j].Epoch]
    generalize (l[i].Key==l[j].Key)=s0,(l[i].Sn==l[j].Sn)=s1,(l[i].Cn==l[j].Cn)=s2,(l[i].Epoch !=l[j].Epoch)=s3,isKey l[i]=s4,isKey l[j]=s5,isUp l[i]=s6,isUp l[j]=s7,(l[i].Kind==12)=s8,(l[j].Kind==12)=s9
    cases s0
    · rfl
    cases s4 <;> cases s5 <;> cases s6 <;> cases s7 <;> cases s1 <;> cases s2 <;> cases s3 <;> cases s8 <;> cases s9 <;> rfl
theorem spec_KeyTwice.ok {x:TyTup [.sl .Note]} (hb:bdTup [.sl .Note] x) {r:Bool}:twiceO x=some r→spec_KeyTwice.raw x=some r:=pt_ok fun h=>spec_KeyTwice_raw x hb.1 h
theorem take_wt {l:List G.Note} (h:wt l≤LIM) (i:Nat):wt (l.take i)≤LIM:=Nat.le_trans (wt_take l i) h
theorem loop_until {R:Type} (n:Nat) (hn:n≤maxLen) (p:Nat→Bool) (fin:Bool→Option R) {f:Bool × Int→(Bool × Int→Option R)→Option R}
    (hf:∀ (i:Nat) k,i<n→f (false,(i:Int)) k=k (p i,IntKind.wrap .i64 ((i:Int)+1))) (ht:∀ (i:Nat) k,f (true,(i:Int)) k=fin true) (hz:∀ k,f (false,(n:Int)) k=fin false):
    loopK FU f (false,(0:Int))=fin (anyN n p):=by
  have key:=loop_FU (f:=f) (g:=fun x:Bool × Int=>fin (x.1||(List.range' x.2.toNat (n - x.2.toNat)).any p)) (fun x=>0≤x.2∧x.2≤n) (fun x=>n - x.2.toNat) (fun x hx k hk=>by
    obtain ⟨b,i⟩:=x
    obtain ⟨h0,h1⟩:=hx
    simp only at h0 h1
    obtain ⟨j,rfl⟩:=Int.eq_ofNat_of_zero_le h0
    simp only [Int.toNat_natCast]
    cases b
    · by_cases hj:j<n
      · rw [hf j k hj,iadd_nat j (by omega)]
        rw [hk (p j,((j+1:Nat):Int)) ⟨by show (0:Int)≤((j+1:Nat):Int);omega,by show ((j+1:Nat):Int)≤n;omega⟩ (by simp only [Int.toNat_natCast];omega)]
        simp only [Int.toNat_natCast,Bool.false_or]
        rw [show n - j=(n - (j+1))+1 by omega,List.range'_succ,List.any_cons]
      · have:j=n:=by omega
        subst this
        rw [hz];simp
    · rw [ht];simp) (x:=(false,(0:Int))) ⟨Int.le_refl _,by show (0:Int)≤n;omega⟩ (by show n - Int.toNat 0<2^64;unfold maxLen at hn;simp;omega)
  rw [key]
  simp only [Bool.false_or,Int.toNat_zero,Nat.sub_zero,anyN,List.range_eq_range']
theorem spec_Forged_raw (l:List G.Note) (hl:l.length≤maxLen) (h:wt l≤LIM):spec_Forged.raw l=some (forged l):=by
  simp only [spec_Forged.raw,joinK,forged]
  rw [loop_any l.length hl (forgedAt l) (some true) (some false) (fun i k hi=>?_) (fun k=>by simp only [lt_end,cond_false])]
  · cases anyN _ _ <;> rfl
  · have hw:=note_wt h hi
    simp only [lt_len hi,cond_true,idxI_get hi,bind_some',cut_ok (Nat.le_of_lt hi),cut_eq,shownO]
    rw [pt_bind ⟨take_wt h i,hw.2.2.1⟩]
    rw [loop_until i (by omega) (fun j=>(l[j]?).any fun d=>d.Kind==15&&(d.Key==l[i].Key&&d.Body==l[i].Body)) (fun y=>cond (!y) (some true) (k (iadd .i64 (i:Int) 1))) (fun j k' hj=>?_) (fun j k'=>by cases decide ((j:Int)<(i:Int)) <;> rfl) (fun k'=>by simp only [lt_end,cond_false])]
    · rw [forgedAt,at_any hi,asked]
      by_cases h16:l[i].Kind=16
      · have e1:(l[i].Kind !=16)=false:=by simp [h16]
        have e2:(l[i].Kind==16)=true:=by simp [h16]
        rw [e1,e2]
        cases shown (l.take i) l[i].Sn <;> cases anyN i _ <;> rfl
      · have e1:(l[i].Kind !=16)=true:=by simp [h16]
        have e2:(l[i].Kind==16)=false:=by simp [h16]
        rw [e1,e2];rfl
    · have hw2:=note_wt h (Nat.lt_trans hj hi)
      simp only [lt_len hj,cond_true,idxI_get (Nat.lt_trans hj hi),bind_some',at_any (Nat.lt_trans hj hi),sameO]
      rw [pt_bind ⟨hw2.2.2.2.2,hw.2.2.2.2⟩,pt_bind ⟨hw2.2.2.2.1,hw.2.2.2.1⟩]
      cases l[j].Kind==15 <;> cases l[j].Key==l[i].Key <;> cases l[j].Body==l[i].Body <;> rfl
theorem spec_Forged.ok {x:TyTup [.sl .Note]} (hb:bdTup [.sl .Note] x) {r:Bool}:forgedO x=some r→spec_Forged.raw x=some r:=pt_ok fun h=>spec_Forged_raw x hb.1 h
theorem lucky_raw (l:List G.Note) (h:wt l≤LIM):(joinK (fun (y1:Bool)=>some y1) fun k2=>Option.bind (rolledO l) fun r3=>cond (r3) (k2 true) (Option.bind (forgedO l) fun r4=>cond (r4) (k2 true) (Option.bind (twiceO l) fun r5=>k2 r5)))=some (lucky l):=by
  simp only [joinK,rolledO,forgedO,twiceO,pt_bind h,lucky]
  cases rolled l <;> cases forged l <;> rfl
theorem spec_Lucky.ok {x:TyTup [.sl .Note]} (_:bdTup [.sl .Note] x) {r:Bool}:luckyO x=some r→spec_Lucky.raw x=some r:=pt_ok fun h=>lucky_raw x h
end Go.D

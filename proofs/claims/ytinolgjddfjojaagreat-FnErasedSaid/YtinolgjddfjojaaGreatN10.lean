/-
  Sizes of the program's data.
-/
import Derived.Test.YtinolgjddfjojaaGreatN8g
namespace Go.D
end Go.D
namespace Go.D
end Go.D
namespace Go.D
noncomputable section
def spec_l1Size.raw (a0:List UInt8) (a1:Int):Option Int:=
  let x1:Int:=iadd .i64 3 (iquo .i64 (a0.length:Int) 12)
  cond (decide (x1>a1))
  (some a1)
  (some x1)
def spec_DrawWorld.raw (a0:List UInt8):Option G.World:=
  Option.bind (spec_l1New.raw a0) fun r1=>
  Option.bind (spec_l1Size.raw a0 30) fun r2=>
  Option.bind (spec_l26World.raw r1 (iadd .i64 10 r2)) fun r3=>
  some r3.1
def spec_l8Nums.raw (a0:G.Cur) (a1:Int):Option ((List Int) × G.Cur):=
  Option.bind (spec_l1Int.raw a0 [0,0,0,1000,5000,281474976710000]) fun r1=>
  Option.bind (spec_l1Below.raw r1.2 (iadd .i64 a1 1)) fun r2=>
  joinK (fun (y3:(List Int) × G.Cur)=>
  Option.bind (spec_l1Once.raw y3.2 5) fun r13=>
  joinK (fun (y14:(List Int) × G.Cur)=>
  some (y14.1,y14.2)) fun k15=>
  cond (r13.1)
  (Option.bind (spec_l1Int.raw r13.2 [(-1),281474976710655,281474976710656]) fun r16=>
  cond (decide (y3.1.length+[r16.1].length≤LIM)) (k15 ((y3.1++[r16.1]),r16.2)) none)
  (k15 (y3.1,r13.2))) fun k4=>
  loopK FU (fun (x5:(List Int) × Int × Int × G.Cur) k6=>
  cond (decide (x5.2.2.1>0))
  (Option.bind (spec_l1Once.raw x5.2.2.2 6) fun r7=>
  joinK (fun (y8:Int × G.Cur)=>
  Option.bind (spec_l1Below.raw y8.2 40) fun r11=>
  Option.bind (spec_l1Int.raw r11.2 [0,0,20,1000]) fun r12=>
  cond (decide (x5.1.length+[isub .i64 (iadd .i64 y8.1 r11.1) r12.1].length≤LIM)) (k6 ((x5.1++[isub .i64 (iadd .i64 y8.1 r11.1) r12.1]),y8.1,(isub .i64 x5.2.2.1 1),r12.2)) none) fun k9=>
  cond (r7.1)
  (Option.bind (spec_l1Int.raw r7.2 [1,32,900,1023,1024,1025,3000]) fun r10=>
  k9 ((iadd .i64 x5.2.1 r10.1),r10.2))
  (k9 (x5.2.1,r7.2)))
  (k4 (x5.1,x5.2.2.2))) ([],r1.1,r2.1,r2.2)
def spec_WinOf.raw (a0:List Int):Option G.Win:=
  Option.bind (spec_WinNew.raw) fun r1=>
  joinK (fun (y2:G.Win)=>
  some y2) fun k3=>
  loopK FU (fun (x4:Int × G.Win) k5=>
  cond (decide (x4.1<(a0.length:Int)))
  (Option.bind (idxI a0 x4.1) fun e6=>
  Option.bind (spec_WinAdd.raw x4.2 e6) fun r7=>
  k5 ((iadd .i64 x4.1 1),r7.1))
  (k3 x4.2)) (0,r1)
def spec_l8Draw.raw (a0:G.Cur):Option (G.Win × G.Cur):=
  Option.bind (spec_l8Nums.raw a0 12) fun r1=>
  Option.bind (spec_WinOf.raw r1.1) fun r2=>
  some (r2,r1.2)
def spec_l14Draw.raw (a0:G.Cur) (a1:Int):Option (G.Chan × G.Cur):=
  Option.bind (spec_l1Bytes.raw a0 12) fun r1=>
  Option.bind (spec_l1Bytes.raw r1.2 32) fun r2=>
  Option.bind (spec_ChanNew.raw a1 r1.1 r2.1) fun r3=>
  Option.bind (spec_l1Int.raw r2.2 [0,0,3,281474976709656,281474976710656]) fun r4=>
  Option.bind (spec_l1Once.raw r4.2 3) fun r5=>
  joinK (fun (y6:G.Cur × G.Chan)=>
  Option.bind (spec_l1Once.raw y6.1 2) fun r9=>
  joinK (fun (y10:G.Chan × G.Cur)=>
  joinK (fun (y20:Bool × G.Cur)=>
  joinK (fun (y23:G.Chan)=>
  some (y23,y20.2)) fun k24=>
  cond (y20.1)
  (Option.bind (deriveO y10.1.Cur.Key [114,101,107,101,121]) fun r25=>
  k24 (⟨y10.1.Role,y10.1.Sn,y10.1.Cur,y10.1.Old,y10.1.HasOld,y10.1.Until,r25⟩:G.Chan))
  (k24 y10.1)) fun k21=>
  cond (a1==0)
  (cond (decide (y10.1.Cur.N<4294967295))
  (Option.bind (spec_l1Once.raw y10.2 2) fun r22=>
  k21 (r22.1,r22.2))
  (k21 (false,y10.2)))
  (k21 (false,y10.2))) fun k11=>
  cond (r9.1)
  (Option.bind (spec_l1Int.raw r9.2 [1,1,2,4294967295]) fun r12=>
  Option.bind (deriveO y6.2.Cur.Key [114,101,107,101,121]) fun r13=>
  Option.bind (spec_EpNew.raw r12.1 r13) fun r14=>
  Option.bind (spec_l1Int.raw r12.2 [(-1),0,5,7,1000005]) fun r15=>
  joinK (fun (y16:Bool)=>
  joinK (fun (y18:G.Chan)=>
  k11 (y18,r15.2)) fun k19=>
  cond (y16)
  (k19 (⟨y6.2.Role,y6.2.Sn,r14,(⟨isub .i64 r14.N 1,y6.2.Cur.Key,y6.2.Cur.Seq,y6.2.Cur.Win⟩:G.Ep),true,5,y6.2.Next⟩:G.Chan))
  (k19 (⟨y6.2.Role,y6.2.Sn,r14,(⟨isub .i64 r14.N 1,y6.2.Cur.Key,y6.2.Cur.Seq,y6.2.Cur.Win⟩:G.Ep),true,r15.1,y6.2.Next⟩:G.Chan))) fun k17=>
  cond (a1==0)
  (k17 (decide (r15.1<0)))
  (k17 false))
  (k11 (y6.2,r9.2))) fun k7=>
  cond (r5.1)
  (Option.bind (spec_l8Draw.raw r5.2) fun r8=>
  k7 (r8.2,(⟨r3.Role,r3.Sn,(⟨r3.Cur.N,r3.Cur.Key,r4.1,r8.1⟩:G.Ep),r3.Old,r3.HasOld,r3.Until,r3.Next⟩:G.Chan)))
  (k7 (r5.2,(⟨r3.Role,r3.Sn,(⟨r3.Cur.N,r3.Cur.Key,r4.1,r3.Cur.Win⟩:G.Ep),r3.Old,r3.HasOld,r3.Until,r3.Next⟩:G.Chan)))
def spec_l9Ep.raw (a0:G.Cur):Option (G.Ep × G.Cur):=
  Option.bind (spec_l1Int.raw a0 [0,0,1,2,4294967295]) fun r1=>
  Option.bind (spec_l1Bytes.raw r1.2 32) fun r2=>
  Option.bind (spec_EpNew.raw r1.1 r2.1) fun r3=>
  let x4:List Int:=[0,0,1,5,281474976709655,281474976709656,281474976710655,281474976710656]
  Option.bind (spec_l1Int.raw r2.2 x4) fun r5=>
  Option.bind (spec_l1Once.raw r5.2 3) fun r6=>
  joinK (fun (y7:G.Cur × G.Ep)=>
  some (y7.2,y7.1)) fun k8=>
  cond (r6.1)
  (Option.bind (spec_l8Draw.raw r6.2) fun r9=>
  k8 (r9.2,(⟨r3.N,r3.Key,r5.1,r9.1⟩:G.Ep)))
  (k8 (r6.2,(⟨r3.N,r3.Key,r5.1,r3.Win⟩:G.Ep)))
def spec_l8Any.raw (a0:G.Cur):Option (G.Win × G.Cur):=
  Option.bind (spec_l8Draw.raw a0) fun r1=>
  Option.bind (spec_l1Below.raw r1.2 12) fun r2=>
  joinK (fun (y3:G.Cur × G.Win)=>
  some (y3.2,y3.1)) fun k4=>
  cond (r2.1==0)
  (Option.bind (spec_l1Int.raw r2.2 [(-2),(-1),0,700,281474976710656]) fun r5=>
  k4 (r5.2,(⟨r5.1,r1.1.Bits⟩:G.Win)))
  (joinK (fun (y6:G.Cur × G.Win)=>
  k4 (y6.1,y6.2)) fun k7=>
  cond (r2.1==1)
  (Option.bind (spec_l1Below.raw r2.2 32) fun r8=>
  Option.bind (spec_l1Int.raw r8.2 [(-1),0,1,4294967295,4294967296]) fun r9=>
  cond (decide (0≤r8.1)&&decide (r8.1<(r1.1.Bits.length:Int))) (Option.bind (r1.1.Bits[r8.1.toNat]?) fun e10=>
  k7 (r9.2,(⟨r1.1.Top,List.set r1.1.Bits r8.1.toNat r9.1⟩:G.Win))) none)
  (joinK (fun (y11:G.Cur × G.Win)=>
  k7 (y11.1,y11.2)) fun k12=>
  cond (r2.1==2)
  (Option.bind (spec_l1Below.raw r2.2 32) fun r13=>
  cond (decide (0≤(0:Int))&&decide ((0:Int)≤r13.1)&&decide (r13.1≤(r1.1.Bits.length:Int))) (k12 (r13.2,(⟨r1.1.Top,List.take ((r13.1 - 0).toNat) (List.drop 0 r1.1.Bits)⟩:G.Win))) none)
  (k12 (r2.2,r1.1))))
def spec_l9Any.raw (a0:G.Cur):Option (G.Ep × G.Cur):=
  Option.bind (spec_l9Ep.raw a0) fun r1=>
  Option.bind (spec_l1Below.raw r1.2 14) fun r2=>
  joinK (fun (y3:G.Cur × G.Ep)=>
  some (y3.2,y3.1)) fun k4=>
  cond (r2.1==0)
  (Option.bind (spec_l1Int.raw r2.2 [(-1),4294967296]) fun r5=>
  k4 (r5.2,(⟨r5.1,r1.1.Key,r1.1.Seq,r1.1.Win⟩:G.Ep)))
  (joinK (fun (y6:G.Cur × G.Ep)=>
  k4 (y6.1,y6.2)) fun k7=>
  cond (r2.1==1)
  (Option.bind (spec_l1Int.raw r2.2 [0,31,33]) fun r8=>
  Option.bind (spec_l1Bytes.raw r8.2 r8.1) fun r9=>
  k7 (r9.2,(⟨r1.1.N,r9.1,r1.1.Seq,r1.1.Win⟩:G.Ep)))
  (joinK (fun (y10:G.Cur × G.Ep)=>
  k7 (y10.1,y10.2)) fun k11=>
  cond (r2.1==2)
  (Option.bind (spec_l1Int.raw r2.2 [(-1),281474976710657]) fun r12=>
  k11 (r12.2,(⟨r1.1.N,r1.1.Key,r12.1,r1.1.Win⟩:G.Ep)))
  (joinK (fun (y13:G.Cur × G.Ep)=>
  k11 (y13.1,y13.2)) fun k14=>
  cond (r2.1==3)
  (Option.bind (spec_l8Any.raw r2.2) fun r15=>
  k14 (r15.2,(⟨r1.1.N,r1.1.Key,r1.1.Seq,r15.1⟩:G.Ep)))
  (k14 (r2.2,r1.1)))))
def spec_l14Any.raw (a0:G.Cur):Option (G.Chan × G.Cur):=
  Option.bind (spec_l1Below.raw a0 2) fun r1=>
  Option.bind (spec_l14Draw.raw r1.2 r1.1) fun r2=>
  Option.bind (spec_l1Below.raw r2.2 20) fun r3=>
  joinK (fun (y4:G.Cur × G.Chan)=>
  some (y4.2,y4.1)) fun k5=>
  cond (r3.1==0)
  (Option.bind (spec_l1Int.raw r3.2 [(-1),0,1,2]) fun r6=>
  k5 (r6.2,(⟨r6.1,r2.1.Sn,r2.1.Cur,r2.1.Old,r2.1.HasOld,r2.1.Until,r2.1.Next⟩:G.Chan)))
  (joinK (fun (y7:G.Cur × G.Chan)=>
  k5 (y7.1,y7.2)) fun k8=>
  cond (r3.1==1)
  (Option.bind (spec_l1Bytes.raw r3.2 11) fun r9=>
  k8 (r9.2,(⟨r2.1.Role,r9.1,r2.1.Cur,r2.1.Old,r2.1.HasOld,r2.1.Until,r2.1.Next⟩:G.Chan)))
  (joinK (fun (y10:G.Cur × G.Chan)=>
  k8 (y10.1,y10.2)) fun k11=>
  cond (r3.1==2)
  (Option.bind (spec_l9Any.raw r3.2) fun r12=>
  k11 (r12.2,(⟨r2.1.Role,r2.1.Sn,r12.1,r2.1.Old,r2.1.HasOld,r2.1.Until,r2.1.Next⟩:G.Chan)))
  (joinK (fun (y13:G.Cur × G.Chan)=>
  k11 (y13.1,y13.2)) fun k14=>
  cond (r3.1==3)
  (Option.bind (spec_l9Any.raw r3.2) fun r15=>
  k14 (r15.2,(⟨r2.1.Role,r2.1.Sn,r2.1.Cur,r15.1,r2.1.HasOld,r2.1.Until,r2.1.Next⟩:G.Chan)))
  (joinK (fun (y16:G.Chan × G.Cur)=>
  k14 (y16.2,y16.1)) fun k17=>
  cond (r3.1==4)
  (k17 ((⟨r2.1.Role,r2.1.Sn,r2.1.Cur,r2.1.Old,!r2.1.HasOld,r2.1.Until,r2.1.Next⟩:G.Chan),r3.2))
  (joinK (fun (y18:G.Cur × G.Chan)=>
  k17 (y18.2,y18.1)) fun k19=>
  cond (r3.1==5)
  (Option.bind (spec_l1Int.raw r3.2 [(-2),(-1),1,1000006]) fun r20=>
  k19 (r20.2,(⟨r2.1.Role,r2.1.Sn,r2.1.Cur,r2.1.Old,r2.1.HasOld,r20.1,r2.1.Next⟩:G.Chan)))
  (joinK (fun (y21:G.Cur × G.Chan)=>
  k19 (y21.1,y21.2)) fun k22=>
  cond (r3.1==6)
  (Option.bind (spec_l1Int.raw r3.2 [0,31,32]) fun r23=>
  Option.bind (spec_l1Bytes.raw r23.2 r23.1) fun r24=>
  k22 (r24.2,(⟨r2.1.Role,r2.1.Sn,r2.1.Cur,r2.1.Old,r2.1.HasOld,r2.1.Until,r24.1⟩:G.Chan)))
  (k22 (r3.2,r2.1))))))))
def spec_DrawErased.raw (a0:List UInt8):Option ((List G.Note) × G.Chan):=
  Option.bind (spec_l1New.raw a0) fun r1=>
  Option.bind (spec_l26World.raw r1 30) fun r2=>
  Option.bind (spec_l1Below.raw r2.2 2) fun r3=>
  Option.bind (idxI r2.1.Clients r3.1) fun e4=>
  joinK (fun (y5:Bool × G.Cur)=>
  joinK (fun (y8:G.Chan)=>
  Option.bind (spec_l1Once.raw y5.2 4) fun r11=>
  joinK (fun (y12:G.Cur × G.Chan)=>
  Option.bind (cpy r2.1.Notes) fun r15=>
  joinK (fun (y16:Bool × G.Cur)=>
  joinK (fun (y19:G.Cur × (List G.Note))=>
  some (y19.2,y12.2)) fun k20=>
  cond (y16.1)
  (Option.bind (spec_l1Below.raw y16.2 (r15.length:Int)) fun r21=>
  Option.bind (spec_l1Int.raw r21.2 [3,4,10]) fun r22=>
  cond (decide (0≤r21.1)&&decide (r21.1<(r15.length:Int))) (Option.bind (r15[r21.1.toNat]?) fun e23=>
  let l24:List G.Note:=List.set r15 r21.1.toNat (⟨r22.1,e23.Id,e23.Role,e23.Cn,e23.Sn,e23.Epoch,e23.Seq,e23.Body,e23.Key,e23.A,e23.Now⟩:G.Note)
  cond (decide (([]:List UInt8).length+y12.2.Sn.length≤LIM)) (cond (decide (0≤r21.1)&&decide (r21.1<(l24.length:Int))) (Option.bind (l24[r21.1.toNat]?) fun e25=>
  let l26:List G.Note:=List.set l24 r21.1.toNat (⟨e25.Kind,e25.Id,e25.Role,e25.Cn,[]++y12.2.Sn,e25.Epoch,e25.Seq,e25.Body,e25.Key,e25.A,e25.Now⟩:G.Note)
  cond (decide (([]:List UInt8).length+y12.2.Cur.Key.length≤LIM)) (cond (decide (0≤r21.1)&&decide (r21.1<(l26.length:Int))) (Option.bind (l26[r21.1.toNat]?) fun e27=>
  let l28:List G.Note:=List.set l26 r21.1.toNat (⟨e27.Kind,e27.Id,e27.Role,e27.Cn,e27.Sn,e27.Epoch,e27.Seq,e27.Body,[]++y12.2.Cur.Key,e27.A,e27.Now⟩:G.Note)
  Option.bind (spec_l1Below.raw r22.2 2) fun r29=>
  cond (decide (0≤r21.1)&&decide (r21.1<(l28.length:Int))) (Option.bind (l28[r21.1.toNat]?) fun e30=>
  let l31:List G.Note:=List.set l28 r21.1.toNat (⟨e30.Kind,e30.Id,e30.Role,e30.Cn,e30.Sn,r29.1,e30.Seq,e30.Body,e30.Key,e30.A,e30.Now⟩:G.Note)
  k20 (r29.2,l31)) none) none) none) none) none) none)
  (k20 (y16.2,r15))) fun k17=>
  cond (decide ((r15.length:Int)>0))
  (Option.bind (spec_l1Once.raw y12.1 3) fun r18=>
  k17 (r18.1,r18.2))
  (k17 (false,y12.1))) fun k13=>
  cond (r11.1)
  (Option.bind (spec_l14Any.raw r11.2) fun r14=>
  k13 (r14.2,r14.1))
  (k13 (r11.2,y8))) fun k9=>
  cond (y5.1)
  (Option.bind (idxI r2.1.S.T.L 0) fun e10=>
  k9 e10.C)
  (k9 e4.C)) fun k6=>
  cond (decide ((r2.1.S.T.L.length:Int)>0))
  (Option.bind (spec_l1Once.raw r3.2 2) fun r7=>
  k6 (r7.1,r7.2))
  (k6 (false,r3.2))
def laws_FnErased.raw (a0:List UInt8):Option Bool:=
  cond ((big a0))
  (some true)
  (Option.bind (spec_DrawWorld.raw a0) fun r1=>
  Option.bind (luckyO r1.Notes) fun r2=>
  cond (r2)
  (some true)
  (joinK (fun (y3:Unit)=>
  joinK (fun (y12:Unit)=>
  Option.bind (spec_DrawErased.raw a0) fun r21=>
  Option.bind (erasedO r21.1 r21.2) fun r22=>
  Option.bind (erasedO r21.1 r21.2) fun r23=>
  some (r22==r23)) fun k13=>
  loopK FU (fun (x14:Int) k15=>
  cond (decide (x14<(r1.S.T.L.length:Int)))
  (Option.bind (idxI r1.S.T.L x14) fun e16=>
  joinK (fun (y17:Bool)=>
  cond (y17)
  (some false)
  (k15 (iadd .i64 x14 1))) fun k18=>
  Option.bind (shownO r1.Notes e16.C.Sn) fun r19=>
  cond (!r19)
  (Option.bind (erasedO r1.Notes e16.C) fun r20=>
  k18 (!r20))
  (k18 false))
  (k13 ())) 0) fun k4=>
  loopK FU (fun (x5:Int) k6=>
  cond (decide (x5<2))
  (Option.bind (idxI r1.Clients x5) fun e7=>
  joinK (fun (y8:Bool)=>
  cond (y8)
  (some false)
  (k6 (iadd .i64 x5 1))) fun k9=>
  Option.bind (shownO r1.Notes e7.C.Sn) fun r10=>
  cond (!r10)
  (Option.bind (erasedO r1.Notes e7.C) fun r11=>
  k9 (!r11))
  (k9 false))
  (k4 ())) 0))
end
end Go.D
namespace Go.D
end Go.D
namespace Go.D
theorem iquo12 {n:Nat} (h:n≤1048576):0≤iquo .i64 (n:Int) 12∧iquo .i64 (n:Int) 12≤1048576:=by
  unfold iquo
  rw [Int.tdiv_eq_ediv_of_nonneg (by omega),wrap_i64 (by omega) (by omega)]
  omega
end Go.D
namespace Go.D
theorem spec_l1Size_t {a0:List UInt8} {a1:Int} (ha:a0.length≤1048576) (hb:0≤a1):Ok (spec_l1Size.raw a0 a1) fun r=>0≤r∧r≤a1:=by
 (try simp only [N] at ha);(try simp only [N] at hb);have hL:=LIM_is;have hq:=iquo12 ha;(try simp only [N] at hq);have hi:=iadd_eq (a:=3) (b:=iquo .i64 (a0.length:Int) 12) (by omega) (by omega);(try simp only [N] at hi)
 unfold spec_l1Size.raw
 refine Ok.cond' (fun h1=>?_) (fun h1=>?_)
 ·(try simp only [B] at h1);(try have:=iadd_eq (a:=3) (b:=(iquo .i64 (a0.length:Int) 12)) (by omega) (by omega));refine Ok.some' ?_;(try simp only [N]);omega
 ·(try simp only [B] at h1);(try have:=iadd_eq (a:=3) (b:=(iquo .i64 (a0.length:Int) 12)) (by omega) (by omega));refine Ok.some' ?_;(try have:=iadd_eq (a:=3) (b:=(iquo .i64 (a0.length:Int) 12)) (by omega) (by omega));(try simp only [N]);omega
theorem spec_DrawWorld_t {a0:List UInt8} (ha:a0.length≤1048576):Ok (spec_DrawWorld.raw a0) fun r=>wt r≤400000000∧TW r:=by
 (try simp only [N] at ha);have hL:=LIM_is
 unfold spec_DrawWorld.raw
 refine Ok.bind (spec_l1New_t ?_) (fun r1 hr1=>?_)
 ·(try simp only [N]);omega
 (try simp only [N] at hr1);refine Ok.bind (spec_l1Size_t ?_ ?_) (fun r2 hr2=>?_)
 ·(try simp only [N]);omega
 ·(try simp only [N]);omega
 (try simp only [N] at hr2);refine Ok.bind (spec_l26World_t ?_ ?_) (fun r3 hr3=>?_)
 ·(try have:=iadd_eq (a:=10) (b:=r2) (by omega) (by omega));(try simp only [N]);omega
 ·(try have:=iadd_eq (a:=10) (b:=r2) (by omega) (by omega));(try simp only [N]);omega
 (try simp only [N] at hr3);refine Ok.some' ?_;(try simp only [N]);omega
theorem spec_l8Nums_t {a0:G.Cur} {a1:Int} (ha:CurOk a0) (hb:0≤a1∧a1≤100):Ok (spec_l8Nums.raw a0 a1) fun r=>wt r.1≤300∧CurOk r.2:=by
 (try simp only [N] at ha);(try simp only [N] at hb);have hL:=LIM_is;have hi:=iadd_eq (a:=a1) (b:=1) (by omega) (by omega);(try simp only [N] at hi)
 unfold spec_l8Nums.raw
 refine Ok.bind (int_t (0) (281474976710000) ?_ (by simp) (by decide)) (fun r1 hr1=>?_)
 ·(try simp only [N]);omega
 (try simp only [N] at hr1);refine Ok.bind (spec_l1Below_t ?_) (fun r2 hr2=>?_)
 ·(try have:=iadd_eq (a:=a1) (b:=1) (by omega) (by omega));(try simp only [N]);omega
 (try simp only [N] at hr2);refine Ok.join (fun y3:(List Int) × G.Cur=>wt y3.1≤200∧CurOk y3.2) (fun y3 hy3=>?_) (fun k4 hk4=>?_)
 ·(try simp only [N] at hy3);refine Ok.bind (spec_l1Once_t ?_) (fun r13 hr13=>?_)
  ·(try simp only [N]);omega
  (try simp only [N] at hr13);refine Ok.join (fun y14:(List Int) × G.Cur=>wt y14.1≤300∧CurOk y14.2) (fun y14 hy14=>?_) (fun k15 hk15=>?_)
  ·(try simp only [N] at hy14);refine Ok.some' ?_;(try simp only [N]);omega
  refine Ok.cond' (fun h1=>?_) (fun h1=>?_)
  ·(try simp only [B] at h1);refine Ok.bind (int_t (-1) (281474976710656) ?_ (by simp) (by decide)) (fun r16 hr16=>?_)
   ·(try simp only [N]);omega
   (try simp only [N] at hr16);refine Ok.guard ?_ ?_
   ·(try simp only [N]);omega
   refine hk15 _ ?_;(try simp only [N]);omega
  ·(try simp only [B] at h1);refine hk15 _ ?_;(try simp only [N]);omega
 refine Ok.loop (fun x5:(List Int) × Int × Int × G.Cur=>0≤x5.2.2.1∧x5.2.2.1≤101∧wt x5.1+x5.2.2.1≤110∧CurOk x5.2.2.2) (fun x5:(List Int) × Int × Int × G.Cur=>x5.2.2.1.toNat) (fun x5 hx5 k6 hk6=>?_) ?_ ?_
 ·(try simp only [N] at hx5);refine Ok.cond' (fun h2=>?_) (fun h2=>?_)
  ·(try simp only [B] at h2);refine Ok.bind (spec_l1Once_t ?_) (fun r7 hr7=>?_)
   ·(try simp only [N]);omega
   (try simp only [N] at hr7);refine Ok.join (fun y8:Int × G.Cur=>CurOk y8.2) (fun y8 hy8=>?_) (fun k9 hk9=>?_)
   ·(try simp only [N] at hy8);refine Ok.bind (spec_l1Below_t ?_) (fun r11 hr11=>?_)
    ·(try simp only [N]);omega
    (try simp only [N] at hr11);refine Ok.bind (int_t (0) (1000) ?_ (by simp) (by decide)) (fun r12 hr12=>?_)
    ·(try simp only [N]);omega
    (try simp only [N] at hr12);refine Ok.guard ?_ ?_
    ·(try have:=iadd_eq (a:=y8.1) (b:=r11.1) (by omega) (by omega));(try have:=isub_eq (a:=(iadd .i64 y8.1 r11.1)) (b:=r12.1) (by omega) (by omega));(try simp only [N]);omega
    refine hk6 _ ?_ ?_
    ·(try have:=isub_eq (a:=x5.2.2.1) (b:=1) (by omega) (by omega));(try have:=iadd_eq (a:=y8.1) (b:=r11.1) (by omega) (by omega));(try have:=isub_eq (a:=(iadd .i64 y8.1 r11.1)) (b:=r12.1) (by omega) (by omega));(try simp only [N]);omega
    ·(try have:=isub_eq (a:=x5.2.2.1) (b:=1) (by omega) (by omega));(try have:=iadd_eq (a:=y8.1) (b:=r11.1) (by omega) (by omega));(try have:=isub_eq (a:=(iadd .i64 y8.1 r11.1)) (b:=r12.1) (by omega) (by omega));(try simp only);omega
   refine Ok.cond' (fun h3=>?_) (fun h3=>?_)
   ·(try simp only [B] at h3);refine Ok.bind (int_t (1) (3000) ?_ (by simp) (by decide)) (fun r10 hr10=>?_)
    ·(try simp only [N]);omega
    (try simp only [N] at hr10);refine hk9 _ ?_;(try have:=iadd_eq (a:=x5.2.1) (b:=r10.1) (by omega) (by omega));(try simp only [N]);omega
   ·(try simp only [B] at h3);refine hk9 _ ?_;(try simp only [N]);omega
  ·(try simp only [B] at h2);refine hk4 _ ?_;(try simp only [N]);omega
 ·(try simp only [N]);omega
 ·(try simp only);omega
theorem spec_WinOf_t {a0:List Int} (ha:wt a0≤1000000):Ok (spec_WinOf.raw a0) fun r=>r.Bits.length=32:=by
 (try simp only [N] at ha);have hL:=LIM_is;have hw:=wt_len a0;(try simp only [N] at hw)
 unfold spec_WinOf.raw
 refine Ok.bind (spec_WinNew_t) (fun r1 hr1=>?_);(try simp only [N] at hr1);refine Ok.join (fun y2:G.Win=>y2.Bits.length=32) (fun y2 hy2=>?_) (fun k3 hk3=>?_)
 ·(try simp only [N] at hy2);refine Ok.some' ?_;(try simp only [N]);omega
 refine Ok.loop (fun x4:Int × G.Win=>0≤x4.1∧x4.1≤(a0.length:Int)∧x4.2.Bits.length=32) (fun x4:Int × G.Win=>((a0.length:Int) - x4.1).toNat) (fun x4 hx4 k5 hk5=>?_) ?_ ?_
 ·(try simp only [N] at hx4);refine Ok.cond' (fun h1=>?_) (fun h1=>?_)
  ·(try simp only [B] at h1);refine Ok.bind (Ok.idx ?_ ?_) (fun e6 he6=>?_)
   ·(try simp only [N]);omega
   ·(try simp only [N]);omega
   have he6w:=wt_at he6;(try simp only [N] at he6w);refine Ok.bind (spec_WinAdd_t ?_) (fun r7 hr7=>?_)
   ·(try simp only [N]);omega
   (try simp only [N] at hr7);refine hk5 _ ?_ ?_
   ·(try have:=iadd_eq (a:=x4.1) (b:=1) (by omega) (by omega));(try simp only);omega
   ·(try have:=iadd_eq (a:=x4.1) (b:=1) (by omega) (by omega));(try simp only);omega
  ·(try simp only [B] at h1);refine hk3 _ ?_;(try simp only [N]);omega
 ·(try simp only);omega
 ·(try simp only);omega
theorem spec_l8Draw_t {a0:G.Cur} (ha:CurOk a0):Ok (spec_l8Draw.raw a0) fun r=>r.1.Bits.length=32∧CurOk r.2:=by
 (try simp only [N] at ha);have hL:=LIM_is
 unfold spec_l8Draw.raw
 refine Ok.bind (spec_l8Nums_t ?_ ?_) (fun r1 hr1=>?_)
 ·(try simp only [N]);omega
 ·(try simp only [N]);omega
 (try simp only [N] at hr1);refine Ok.bind (spec_WinOf_t ?_) (fun r2 hr2=>?_)
 ·(try simp only [N]);omega
 (try simp only [N] at hr2);refine Ok.some' ?_;(try simp only [N]);omega
theorem spec_l14Draw_t {a0:G.Cur} {a1:Int} (ha:CurOk a0):Ok (spec_l14Draw.raw a0 a1) fun r=>wt r.1≤1000∧CurOk r.2:=by
 (try simp only [N] at ha);have hL:=LIM_is
 unfold spec_l14Draw.raw
 refine Ok.bind (spec_l1Bytes_t ?_ ?_) (fun r1 hr1=>?_)
 ·(try simp only [N]);omega
 ·(try simp only [N]);omega
 (try simp only [N] at hr1);refine Ok.bind (spec_l1Bytes_t ?_ ?_) (fun r2 hr2=>?_)
 ·(try simp only [N]);omega
 ·(try simp only [N]);omega
 (try simp only [N] at hr2);refine Ok.bind (spec_ChanNew_t ?_ ?_) (fun r3 hr3=>?_)
 ·(try simp only [N]);omega
 ·(try simp only [N]);omega
 (try simp only [N] at hr3);refine Ok.bind (int_t (0) (281474976710656) ?_ (by simp) (by decide)) (fun r4 hr4=>?_)
 ·(try simp only [N]);omega
 (try simp only [N] at hr4);refine Ok.bind (spec_l1Once_t ?_) (fun r5 hr5=>?_)
 ·(try simp only [N]);omega
 (try simp only [N] at hr5);refine Ok.join (fun y6:G.Cur × G.Chan=>CurOk y6.1∧wt y6.2≤300) (fun y6 hy6=>?_) (fun k7 hk7=>?_)
 ·(try simp only [N] at hy6);refine Ok.bind (spec_l1Once_t ?_) (fun r9 hr9=>?_)
  ·(try simp only [N]);omega
  (try simp only [N] at hr9);refine Ok.join (fun y10:G.Chan × G.Cur=>wt y10.1≤600∧CurOk y10.2) (fun y10 hy10=>?_) (fun k11 hk11=>?_)
  ·(try simp only [N] at hy10);refine Ok.join (fun y20:Bool × G.Cur=>CurOk y20.2) (fun y20 hy20=>?_) (fun k21 hk21=>?_)
   ·(try simp only [N] at hy20);refine Ok.join (fun y23:G.Chan=>wt y23≤1000) (fun y23 hy23=>?_) (fun k24 hk24=>?_)
    ·(try simp only [N] at hy23);refine Ok.some' ?_;(try simp only [N]);omega
    refine Ok.cond' (fun h1=>?_) (fun h1=>?_)
    ·refine Ok.bind (deriveO_t ?_) (fun r25 hr25=>?_)
     ·(try simp only [N]);omega
     (try simp only [N] at hr25);refine hk24 _ ?_;(try simp only [N]);omega
    ·refine hk24 _ ?_;(try simp only [N]);omega
   refine Ok.cond' (fun h2=>?_) (fun h2=>?_)
   ·(try simp only [B] at h2);refine Ok.cond' (fun h3=>?_) (fun h3=>?_)
    ·(try simp only [B] at h3);refine Ok.bind (spec_l1Once_t ?_) (fun r22 hr22=>?_)
     ·(try simp only [N]);omega
     (try simp only [N] at hr22);refine hk21 _ ?_;(try simp only [N]);omega
    ·(try simp only [B] at h3);refine hk21 _ ?_;(try simp only [N]);omega
   ·(try simp only [B] at h2);refine hk21 _ ?_;(try simp only [N]);omega
  refine Ok.cond' (fun h4=>?_) (fun h4=>?_)
  ·(try simp only [B] at h4);refine Ok.bind (int_t (1) (4294967295) ?_ (by simp) (by decide)) (fun r12 hr12=>?_)
   ·(try simp only [N]);omega
   (try simp only [N] at hr12);refine Ok.bind (deriveO_t ?_) (fun r13 hr13=>?_)
   ·(try simp only [N]);omega
   (try simp only [N] at hr13);refine Ok.bind (spec_EpNew_t ?_) (fun r14 hr14=>?_)
   ·(try simp only [N]);omega
   (try simp only [N] at hr14);refine Ok.bind (int_t (-1) (1000005) ?_ (by simp) (by decide)) (fun r15 hr15=>?_)
   ·(try simp only [N]);omega
   (try simp only [N] at hr15);refine Ok.join (fun y16:Bool=>True) (fun y16 hy16=>?_) (fun k17 hk17=>?_)
   ·refine Ok.join (fun y18:G.Chan=>wt y18≤600) (fun y18 hy18=>?_) (fun k19 hk19=>?_)
    ·(try simp only [N] at hy18);refine hk11 _ ?_;(try simp only [N]);omega
    refine Ok.cond' (fun h5=>?_) (fun h5=>?_)
    ·refine hk19 _ ?_;(try have:=isub_eq (a:=r14.N) (b:=1) (by omega) (by omega));(try simp only [N]);omega
    ·refine hk19 _ ?_;(try have:=isub_eq (a:=r14.N) (b:=1) (by omega) (by omega));(try simp only [N]);omega
   refine Ok.cond' (fun h6=>?_) (fun h6=>?_)
   ·exact hk17 _ trivial
   ·exact hk17 _ trivial
  ·(try simp only [B] at h4);refine hk11 _ ?_;(try simp only [N]);omega
 refine Ok.cond' (fun h7=>?_) (fun h7=>?_)
 ·(try simp only [B] at h7);refine Ok.bind (spec_l8Draw_t ?_) (fun r8 hr8=>?_)
  ·(try simp only [N]);omega
  (try simp only [N] at hr8);refine hk7 _ ?_;(try simp only [N]);omega
 ·(try simp only [B] at h7);refine hk7 _ ?_;(try simp only [N]);omega
theorem spec_l9Ep_t {a0:G.Cur} (ha:CurOk a0):Ok (spec_l9Ep.raw a0) fun r=>wt r.1≤300∧CurOk r.2:=by
 (try simp only [N] at ha);have hL:=LIM_is
 unfold spec_l9Ep.raw
 refine Ok.bind (int_t (0) (4294967295) ?_ (by simp) (by decide)) (fun r1 hr1=>?_)
 ·(try simp only [N]);omega
 (try simp only [N] at hr1);refine Ok.bind (spec_l1Bytes_t ?_ ?_) (fun r2 hr2=>?_)
 ·(try simp only [N]);omega
 ·(try simp only [N]);omega
 (try simp only [N] at hr2);refine Ok.bind (spec_EpNew_t ?_) (fun r3 hr3=>?_)
 ·(try simp only [N]);omega
 (try simp only [N] at hr3);refine Ok.bind (int_t (0) (281474976710656) ?_ (by simp) (by decide)) (fun r5 hr5=>?_)
 ·(try simp only [N]);omega
 (try simp only [N] at hr5);refine Ok.bind (spec_l1Once_t ?_) (fun r6 hr6=>?_)
 ·(try simp only [N]);omega
 (try simp only [N] at hr6);refine Ok.join (fun y7:G.Cur × G.Ep=>CurOk y7.1∧wt y7.2≤300) (fun y7 hy7=>?_) (fun k8 hk8=>?_)
 ·(try simp only [N] at hy7);refine Ok.some' ?_;(try simp only [N]);omega
 refine Ok.cond' (fun h1=>?_) (fun h1=>?_)
 ·(try simp only [B] at h1);refine Ok.bind (spec_l8Draw_t ?_) (fun r9 hr9=>?_)
  ·(try simp only [N]);omega
  (try simp only [N] at hr9);refine hk8 _ ?_;(try simp only [N]);omega
 ·(try simp only [B] at h1);refine hk8 _ ?_;(try simp only [N]);omega
theorem spec_l8Any_t {a0:G.Cur} (ha:CurOk a0):Ok (spec_l8Any.raw a0) fun r=>wt r.1≤100∧CurOk r.2:=by
 (try simp only [N] at ha);have hL:=LIM_is
 unfold spec_l8Any.raw
 refine Ok.bind (spec_l8Draw_t ?_) (fun r1 hr1=>?_)
 ·(try simp only [N]);omega
 (try simp only [N] at hr1);refine Ok.bind (spec_l1Below_t ?_) (fun r2 hr2=>?_)
 ·(try simp only [N]);omega
 (try simp only [N] at hr2);refine Ok.join (fun y3:G.Cur × G.Win=>CurOk y3.1∧wt y3.2≤100) (fun y3 hy3=>?_) (fun k4 hk4=>?_)
 ·(try simp only [N] at hy3);refine Ok.some' ?_;(try simp only [N]);omega
 refine Ok.cond' (fun h1=>?_) (fun h1=>?_)
 ·(try simp only [B] at h1);refine Ok.bind (int_t (-2) (281474976710656) ?_ (by simp) (by decide)) (fun r5 hr5=>?_)
  ·(try simp only [N]);omega
  (try simp only [N] at hr5);refine hk4 _ ?_;(try simp only [N]);omega
 ·(try simp only [B] at h1);refine Ok.join (fun y6:G.Cur × G.Win=>CurOk y6.1∧wt y6.2≤100) (fun y6 hy6=>?_) (fun k7 hk7=>?_)
  ·(try simp only [N] at hy6);refine hk4 _ ?_;(try simp only [N]);omega
  refine Ok.cond' (fun h2=>?_) (fun h2=>?_)
  ·(try simp only [B] at h2);refine Ok.bind (spec_l1Below_t ?_) (fun r8 hr8=>?_)
   ·(try simp only [N]);omega
   (try simp only [N] at hr8);refine Ok.bind (int_t (-1) (4294967296) ?_ (by simp) (by decide)) (fun r9 hr9=>?_)
   ·(try simp only [N]);omega
   (try simp only [N] at hr9);refine Ok.chk ?_ ?_
   ·(try simp only [B]);omega
   refine Ok.bind (Ok.get ?_) (fun e10 he10=>?_)
   ·(try simp only [N]);omega
   have he10w:=wt_at he10;(try simp only [N] at he10w);refine hk7 _ ?_;have:=wt_set_le r1.1.Bits r8.1.toNat r9.1;(try simp only [N] at this);(try simp only [N]);omega
  ·(try simp only [B] at h2);refine Ok.join (fun y11:G.Cur × G.Win=>CurOk y11.1∧wt y11.2≤100) (fun y11 hy11=>?_) (fun k12 hk12=>?_)
   ·(try simp only [N] at hy11);refine hk7 _ ?_;(try simp only [N]);omega
   refine Ok.cond' (fun h3=>?_) (fun h3=>?_)
   ·(try simp only [B] at h3);refine Ok.bind (spec_l1Below_t ?_) (fun r13 hr13=>?_)
    ·(try simp only [N]);omega
    (try simp only [N] at hr13);refine Ok.chk ?_ ?_
    ·(try simp only [B]);omega
    refine hk12 _ ?_;have:=wt_take (List.drop 0 r1.1.Bits) ((r13.1 - 0).toNat);(try simp only [N] at this);have:=wt_drop r1.1.Bits 0;(try simp only [N] at this);(try simp only [N]);omega
   ·(try simp only [B] at h3);refine hk12 _ ?_;(try simp only [N]);omega
theorem spec_l9Any_t {a0:G.Cur} (ha:CurOk a0):Ok (spec_l9Any.raw a0) fun r=>wt r.1≤500∧CurOk r.2:=by
 (try simp only [N] at ha);have hL:=LIM_is
 unfold spec_l9Any.raw
 refine Ok.bind (spec_l9Ep_t ?_) (fun r1 hr1=>?_)
 ·(try simp only [N]);omega
 (try simp only [N] at hr1);refine Ok.bind (spec_l1Below_t ?_) (fun r2 hr2=>?_)
 ·(try simp only [N]);omega
 (try simp only [N] at hr2);refine Ok.join (fun y3:G.Cur × G.Ep=>CurOk y3.1∧wt y3.2≤500) (fun y3 hy3=>?_) (fun k4 hk4=>?_)
 ·(try simp only [N] at hy3);refine Ok.some' ?_;(try simp only [N]);omega
 refine Ok.cond' (fun h1=>?_) (fun h1=>?_)
 ·(try simp only [B] at h1);refine Ok.bind (int_t (-1) (4294967296) ?_ (by simp) (by decide)) (fun r5 hr5=>?_)
  ·(try simp only [N]);omega
  (try simp only [N] at hr5);refine hk4 _ ?_;(try simp only [N]);omega
 ·(try simp only [B] at h1);refine Ok.join (fun y6:G.Cur × G.Ep=>CurOk y6.1∧wt y6.2≤500) (fun y6 hy6=>?_) (fun k7 hk7=>?_)
  ·(try simp only [N] at hy6);refine hk4 _ ?_;(try simp only [N]);omega
  refine Ok.cond' (fun h2=>?_) (fun h2=>?_)
  ·(try simp only [B] at h2);refine Ok.bind (int_t (0) (33) ?_ (by simp) (by decide)) (fun r8 hr8=>?_)
   ·(try simp only [N]);omega
   (try simp only [N] at hr8);refine Ok.bind (spec_l1Bytes_t ?_ ?_) (fun r9 hr9=>?_)
   ·(try simp only [N]);omega
   ·(try simp only [N]);omega
   (try simp only [N] at hr9);refine hk7 _ ?_;(try simp only [N]);omega
  ·(try simp only [B] at h2);refine Ok.join (fun y10:G.Cur × G.Ep=>CurOk y10.1∧wt y10.2≤500) (fun y10 hy10=>?_) (fun k11 hk11=>?_)
   ·(try simp only [N] at hy10);refine hk7 _ ?_;(try simp only [N]);omega
   refine Ok.cond' (fun h3=>?_) (fun h3=>?_)
   ·(try simp only [B] at h3);refine Ok.bind (int_t (-1) (281474976710657) ?_ (by simp) (by decide)) (fun r12 hr12=>?_)
    ·(try simp only [N]);omega
    (try simp only [N] at hr12);refine hk11 _ ?_;(try simp only [N]);omega
   ·(try simp only [B] at h3);refine Ok.join (fun y13:G.Cur × G.Ep=>CurOk y13.1∧wt y13.2≤500) (fun y13 hy13=>?_) (fun k14 hk14=>?_)
    ·(try simp only [N] at hy13);refine hk11 _ ?_;(try simp only [N]);omega
    refine Ok.cond' (fun h4=>?_) (fun h4=>?_)
    ·(try simp only [B] at h4);refine Ok.bind (spec_l8Any_t ?_) (fun r15 hr15=>?_)
     ·(try simp only [N]);omega
     (try simp only [N] at hr15);refine hk14 _ ?_;(try simp only [N]);omega
    ·(try simp only [B] at h4);refine hk14 _ ?_;(try simp only [N]);omega
theorem spec_l14Any_t {a0:G.Cur} (ha:CurOk a0):Ok (spec_l14Any.raw a0) fun r=>wt r.1≤2000∧CurOk r.2:=by
 (try simp only [N] at ha);have hL:=LIM_is
 unfold spec_l14Any.raw
 refine Ok.bind (spec_l1Below_t ?_) (fun r1 hr1=>?_)
 ·(try simp only [N]);omega
 (try simp only [N] at hr1);refine Ok.bind (spec_l14Draw_t ?_) (fun r2 hr2=>?_)
 ·(try simp only [N]);omega
 (try simp only [N] at hr2);refine Ok.bind (spec_l1Below_t ?_) (fun r3 hr3=>?_)
 ·(try simp only [N]);omega
 (try simp only [N] at hr3);refine Ok.join (fun y4:G.Cur × G.Chan=>CurOk y4.1∧wt y4.2≤2000) (fun y4 hy4=>?_) (fun k5 hk5=>?_)
 ·(try simp only [N] at hy4);refine Ok.some' ?_;(try simp only [N]);omega
 refine Ok.cond' (fun h1=>?_) (fun h1=>?_)
 ·(try simp only [B] at h1);refine Ok.bind (int_t (-1) (2) ?_ (by simp) (by decide)) (fun r6 hr6=>?_)
  ·(try simp only [N]);omega
  (try simp only [N] at hr6);refine hk5 _ ?_;(try simp only [N]);omega
 ·(try simp only [B] at h1);refine Ok.join (fun y7:G.Cur × G.Chan=>CurOk y7.1∧wt y7.2≤2000) (fun y7 hy7=>?_) (fun k8 hk8=>?_)
  ·(try simp only [N] at hy7);refine hk5 _ ?_;(try simp only [N]);omega
  refine Ok.cond' (fun h2=>?_) (fun h2=>?_)
  ·(try simp only [B] at h2);refine Ok.bind (spec_l1Bytes_t ?_ ?_) (fun r9 hr9=>?_)
   ·(try simp only [N]);omega
   ·(try simp only [N]);omega
   (try simp only [N] at hr9);refine hk8 _ ?_;(try simp only [N]);omega
  ·(try simp only [B] at h2);refine Ok.join (fun y10:G.Cur × G.Chan=>CurOk y10.1∧wt y10.2≤2000) (fun y10 hy10=>?_) (fun k11 hk11=>?_)
   ·(try simp only [N] at hy10);refine hk8 _ ?_;(try simp only [N]);omega
   refine Ok.cond' (fun h3=>?_) (fun h3=>?_)
   ·(try simp only [B] at h3);refine Ok.bind (spec_l9Any_t ?_) (fun r12 hr12=>?_)
    ·(try simp only [N]);omega
    (try simp only [N] at hr12);refine hk11 _ ?_;(try simp only [N]);omega
   ·(try simp only [B] at h3);refine Ok.join (fun y13:G.Cur × G.Chan=>CurOk y13.1∧wt y13.2≤2000) (fun y13 hy13=>?_) (fun k14 hk14=>?_)
    ·(try simp only [N] at hy13);refine hk11 _ ?_;(try simp only [N]);omega
    refine Ok.cond' (fun h4=>?_) (fun h4=>?_)
    ·(try simp only [B] at h4);refine Ok.bind (spec_l9Any_t ?_) (fun r15 hr15=>?_)
     ·(try simp only [N]);omega
     (try simp only [N] at hr15);refine hk14 _ ?_;(try simp only [N]);omega
    ·(try simp only [B] at h4);refine Ok.join (fun y16:G.Chan × G.Cur=>wt y16.1≤2000∧CurOk y16.2) (fun y16 hy16=>?_) (fun k17 hk17=>?_)
     ·(try simp only [N] at hy16);refine hk14 _ ?_;(try simp only [N]);omega
     refine Ok.cond' (fun h5=>?_) (fun h5=>?_)
     ·(try simp only [B] at h5);refine hk17 _ ?_;(try simp only [N]);omega
     ·(try simp only [B] at h5);refine Ok.join (fun y18:G.Cur × G.Chan=>CurOk y18.1∧wt y18.2≤2000) (fun y18 hy18=>?_) (fun k19 hk19=>?_)
      ·(try simp only [N] at hy18);refine hk17 _ ?_;(try simp only [N]);omega
      refine Ok.cond' (fun h6=>?_) (fun h6=>?_)
      ·(try simp only [B] at h6);refine Ok.bind (int_t (-2) (1000006) ?_ (by simp) (by decide)) (fun r20 hr20=>?_)
       ·(try simp only [N]);omega
       (try simp only [N] at hr20);refine hk19 _ ?_;(try simp only [N]);omega
      ·(try simp only [B] at h6);refine Ok.join (fun y21:G.Cur × G.Chan=>CurOk y21.1∧wt y21.2≤2000) (fun y21 hy21=>?_) (fun k22 hk22=>?_)
       ·(try simp only [N] at hy21);refine hk19 _ ?_;(try simp only [N]);omega
       refine Ok.cond' (fun h7=>?_) (fun h7=>?_)
       ·(try simp only [B] at h7);refine Ok.bind (int_t (0) (32) ?_ (by simp) (by decide)) (fun r23 hr23=>?_)
        ·(try simp only [N]);omega
        (try simp only [N] at hr23);refine Ok.bind (spec_l1Bytes_t ?_ ?_) (fun r24 hr24=>?_)
        ·(try simp only [N]);omega
        ·(try simp only [N]);omega
        (try simp only [N] at hr24);refine hk22 _ ?_;(try simp only [N]);omega
       ·(try simp only [B] at h7);refine hk22 _ ?_;(try simp only [N]);omega
theorem spec_DrawErased_t {a0:List UInt8} (ha:a0.length≤1048576):Ok (spec_DrawErased.raw a0) fun r=>wt r.1≤10000000000∧wt r.2≤500000000:=by
 (try simp only [N] at ha);have hL:=LIM_is
 unfold spec_DrawErased.raw
 refine Ok.bind (spec_l1New_t ?_) (fun r1 hr1=>?_)
 ·(try simp only [N,Bool.false_eq_true,false_implies,and_true,implies_true]);omega
 (try simp only [N] at hr1);refine Ok.bind (spec_l26World_t ?_ ?_) (fun r2 hr2=>?_)
 ·(try simp only [N]);omega
 ·(try simp only [N,Bool.false_eq_true,false_implies,and_true,implies_true]);omega
 (try simp only [N] at hr2);have hnl:=wt_len r2.1.Notes;(try simp only [N] at hnl);have hsl:=wt_len r2.1.S.T.L;(try simp only [N] at hsl);refine Ok.bind (spec_l1Below_t ?_) (fun r3 hr3=>?_)
 ·(try simp only [N]);omega
 (try simp only [N] at hr3);refine Ok.bind (Ok.idx ?_ ?_) (fun e4 he4=>?_)
 ·(try simp only [N,Bool.false_eq_true,false_implies,and_true,implies_true]);omega
 ·(try simp only [N,Bool.false_eq_true,false_implies,and_true,implies_true]);omega
 have he4w:=wt_at he4;(try simp only [N] at he4w);refine Ok.join (fun y5:Bool × G.Cur=>CurOk y5.2∧(y5.1=true→0<r2.1.S.T.L.length)) (fun y5 hy5=>?_) (fun k6 hk6=>?_)
 ·(try simp only [N] at hy5);refine Ok.join (fun y8:G.Chan=>wt y8≤400000000) (fun y8 hy8=>?_) (fun k9 hk9=>?_)
  ·(try simp only [N] at hy8);refine Ok.bind (spec_l1Once_t ?_) (fun r11 hr11=>?_)
   ·(try simp only [N]);omega
   (try simp only [N] at hr11);refine Ok.join (fun y12:G.Cur × G.Chan=>CurOk y12.1∧wt y12.2≤400000000) (fun y12 hy12=>?_) (fun k13 hk13=>?_)
   ·(try simp only [N] at hy12);refine Ok.same (pt_some ?_) ?_
    ·(try simp only [N,Bool.false_eq_true,false_implies,and_true,implies_true]);omega
    refine Ok.join (fun y16:Bool × G.Cur=>CurOk y16.2∧(y16.1=true→0<r2.1.Notes.length)) (fun y16 hy16=>?_) (fun k17 hk17=>?_)
    ·(try simp only [N] at hy16);refine Ok.join (fun y19:G.Cur × (List G.Note)=>CurOk y19.1∧wt y19.2≤10000000000) (fun y19 hy19=>?_) (fun k20 hk20=>?_)
     ·(try simp only [N] at hy19);refine Ok.some' ?_;(try simp only [N]);omega
     refine Ok.cond' (fun h1=>?_) (fun h1=>?_)
     ·have hpos:=hy16.2 h1;refine Ok.bind (spec_l1Below_t ?_) (fun r21 hr21=>?_)
      ·(try simp only [N]);omega
      (try simp only [N] at hr21);refine Ok.bind (int_t (3) (10) ?_ (by simp) (by decide)) (fun r22 hr22=>?_)
      ·(try simp only [N]);omega
      (try simp only [N] at hr22);refine Ok.chk ?_ ?_
      ·(try simp only [B]);omega
      refine Ok.bind (Ok.get ?_) (fun e23 he23=>?_)
      ·(try simp only [N,Bool.false_eq_true,false_implies,and_true,implies_true]);omega
      have he23w:=wt_at he23;(try simp only [N] at he23w);refine Ok.guard ?_ ?_
      ·(try simp only [N]);omega
      refine Ok.chk ?_ ?_
      ·have:=wt_set_le r2.1.Notes r21.1.toNat (⟨r22.1,e23.Id,e23.Role,e23.Cn,e23.Sn,e23.Epoch,e23.Seq,e23.Body,e23.Key,e23.A,e23.Now⟩:G.Note);(try simp only [N] at this);(try simp only [B,N]);omega
      refine Ok.bind (Ok.get ?_) (fun e25 he25=>?_)
      ·(try simp only [N]);omega
      have he25w:=wt_at he25;(try simp only [N] at he25w);refine Ok.guard ?_ ?_
      ·(try simp only [N]);omega
      refine Ok.chk ?_ ?_
      ·have:=wt_set_le (List.set r2.1.Notes r21.1.toNat (⟨r22.1,e23.Id,e23.Role,e23.Cn,e23.Sn,e23.Epoch,e23.Seq,e23.Body,e23.Key,e23.A,e23.Now⟩:G.Note):List G.Note) r21.1.toNat (⟨e25.Kind,e25.Id,e25.Role,e25.Cn,[]++y12.2.Sn,e25.Epoch,e25.Seq,e25.Body,e25.Key,e25.A,e25.Now⟩:G.Note);(try simp only [N] at this)
       have:=wt_set_le r2.1.Notes r21.1.toNat (⟨r22.1,e23.Id,e23.Role,e23.Cn,e23.Sn,e23.Epoch,e23.Seq,e23.Body,e23.Key,e23.A,e23.Now⟩:G.Note);(try simp only [N] at this);(try simp only [B,N]);omega
      refine Ok.bind (Ok.get ?_) (fun e27 he27=>?_)
      ·(try simp only [N]);omega
      have he27w:=wt_at he27;(try simp only [N] at he27w);refine Ok.bind (spec_l1Below_t ?_) (fun r29 hr29=>?_)
      ·(try simp only [N]);omega
      (try simp only [N] at hr29);refine Ok.chk ?_ ?_
      ·have:=wt_set_le (List.set (List.set r2.1.Notes r21.1.toNat (⟨r22.1,e23.Id,e23.Role,e23.Cn,e23.Sn,e23.Epoch,e23.Seq,e23.Body,e23.Key,e23.A,e23.Now⟩:G.Note):List G.Note) r21.1.toNat (⟨e25.Kind,e25.Id,e25.Role,e25.Cn,[]++y12.2.Sn,e25.Epoch,e25.Seq,e25.Body,e25.Key,e25.A,e25.Now⟩:G.Note):List G.Note) r21.1.toNat (⟨e27.Kind,e27.Id,e27.Role,e27.Cn,e27.Sn,e27.Epoch,e27.Seq,e27.Body,[]++y12.2.Cur.Key,e27.A,e27.Now⟩:G.Note)
       (try simp only [N] at this);have:=wt_set_le (List.set r2.1.Notes r21.1.toNat (⟨r22.1,e23.Id,e23.Role,e23.Cn,e23.Sn,e23.Epoch,e23.Seq,e23.Body,e23.Key,e23.A,e23.Now⟩:G.Note):List G.Note) r21.1.toNat (⟨e25.Kind,e25.Id,e25.Role,e25.Cn,[]++y12.2.Sn,e25.Epoch,e25.Seq,e25.Body,e25.Key,e25.A,e25.Now⟩:G.Note);(try simp only [N] at this)
       have:=wt_set_le r2.1.Notes r21.1.toNat (⟨r22.1,e23.Id,e23.Role,e23.Cn,e23.Sn,e23.Epoch,e23.Seq,e23.Body,e23.Key,e23.A,e23.Now⟩:G.Note);(try simp only [N] at this);(try simp only [B,N]);omega
      refine Ok.bind (Ok.get ?_) (fun e30 he30=>?_)
      ·(try simp only [N]);omega
      have he30w:=wt_at he30;(try simp only [N] at he30w);refine hk20 _ ?_
      have:=wt_set_le (List.set (List.set (List.set r2.1.Notes r21.1.toNat (⟨r22.1,e23.Id,e23.Role,e23.Cn,e23.Sn,e23.Epoch,e23.Seq,e23.Body,e23.Key,e23.A,e23.Now⟩:G.Note):List G.Note) r21.1.toNat (⟨e25.Kind,e25.Id,e25.Role,e25.Cn,[]++y12.2.Sn,e25.Epoch,e25.Seq,e25.Body,e25.Key,e25.A,e25.Now⟩:G.Note):List G.Note) r21.1.toNat (⟨e27.Kind,e27.Id,e27.Role,e27.Cn,e27.Sn,e27.Epoch,e27.Seq,e27.Body,[]++y12.2.Cur.Key,e27.A,e27.Now⟩:G.Note):List G.Note) r21.1.toNat (⟨e30.Kind,e30.Id,e30.Role,e30.Cn,e30.Sn,r29.1,e30.Seq,e30.Body,e30.Key,e30.A,e30.Now⟩:G.Note)
      (try simp only [N] at this)
      have:=wt_set_le (List.set (List.set r2.1.Notes r21.1.toNat (⟨r22.1,e23.Id,e23.Role,e23.Cn,e23.Sn,e23.Epoch,e23.Seq,e23.Body,e23.Key,e23.A,e23.Now⟩:G.Note):List G.Note) r21.1.toNat (⟨e25.Kind,e25.Id,e25.Role,e25.Cn,[]++y12.2.Sn,e25.Epoch,e25.Seq,e25.Body,e25.Key,e25.A,e25.Now⟩:G.Note):List G.Note) r21.1.toNat (⟨e27.Kind,e27.Id,e27.Role,e27.Cn,e27.Sn,e27.Epoch,e27.Seq,e27.Body,[]++y12.2.Cur.Key,e27.A,e27.Now⟩:G.Note)
      (try simp only [N] at this);have:=wt_set_le (List.set r2.1.Notes r21.1.toNat (⟨r22.1,e23.Id,e23.Role,e23.Cn,e23.Sn,e23.Epoch,e23.Seq,e23.Body,e23.Key,e23.A,e23.Now⟩:G.Note):List G.Note) r21.1.toNat (⟨e25.Kind,e25.Id,e25.Role,e25.Cn,[]++y12.2.Sn,e25.Epoch,e25.Seq,e25.Body,e25.Key,e25.A,e25.Now⟩:G.Note);(try simp only [N] at this)
      have:=wt_set_le r2.1.Notes r21.1.toNat (⟨r22.1,e23.Id,e23.Role,e23.Cn,e23.Sn,e23.Epoch,e23.Seq,e23.Body,e23.Key,e23.A,e23.Now⟩:G.Note);(try simp only [N] at this);(try simp only [N]);omega
     ·refine hk20 _ ?_;(try simp only [N]);omega
    refine Ok.cond' (fun h2=>?_) (fun h2=>?_)
    ·(try simp only [B] at h2);refine Ok.bind (spec_l1Once_t ?_) (fun r18 hr18=>?_)
     ·(try simp only [N]);omega
     (try simp only [N] at hr18);refine hk17 _ ?_;(try simp only [N]);omega
    ·(try simp only [B] at h2);refine hk17 _ ?_;(try simp only [N,Bool.false_eq_true,false_implies]);omega
   refine Ok.cond' (fun h3=>?_) (fun h3=>?_)
   ·(try simp only [B] at h3);refine Ok.bind (spec_l14Any_t ?_) (fun r14 hr14=>?_)
    ·(try simp only [N]);omega
    (try simp only [N] at hr14);refine hk13 _ ?_;(try simp only [N]);omega
   ·(try simp only [B] at h3);refine hk13 _ ?_;(try simp only [N]);omega
  refine Ok.cond' (fun h4=>?_) (fun h4=>?_)
  ·have hpos:=hy5.2 h4;refine Ok.bind (Ok.idx ?_ ?_) (fun e10 he10=>?_)
   ·(try simp only [N,Bool.false_eq_true,false_implies,and_true,implies_true]);omega
   ·(try simp only [N,Bool.false_eq_true,false_implies,and_true,implies_true]);omega
   have he10w:=wt_at he10;(try simp only [N] at he10w);refine hk9 _ ?_;(try simp only [N]);omega
  ·refine hk9 _ ?_;(try simp only [N]);omega
 refine Ok.cond' (fun h5=>?_) (fun h5=>?_)
 ·(try simp only [B] at h5);refine Ok.bind (spec_l1Once_t ?_) (fun r7 hr7=>?_)
  ·(try simp only [N]);omega
  (try simp only [N] at hr7);refine hk6 _ ?_;(try simp only [N]);omega
 ·(try simp only [B] at h5);refine hk6 _ ?_;(try simp only [N,Bool.false_eq_true,false_implies]);omega
end Go.D

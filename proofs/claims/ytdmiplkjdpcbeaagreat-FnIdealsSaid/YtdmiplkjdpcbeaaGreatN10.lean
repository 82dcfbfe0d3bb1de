/-
 Sizes of the program's data.
-/
import Derived.Test.YtdmiplkjdpcbeaaGreatN8g
namespace Go.D
end Go.D
namespace Go.D
end Go.D
namespace Go.D
open Option renaming bind → ob
noncomputable section
def QU.raw (a0:G.Cur) (a1:Int):Option ((List Int) × G.Cur):=
 ob (OA.raw a0 [0,0,0,1000,5000,281474976710000]) fun r1=>
 ob (BA.raw r1.2 (cA .i64 a1 1)) fun r2=>
 aA (fun (y3:(List Int) × G.Cur)=>
 ob (nC.raw y3.2 5) fun r13=>
 aA (fun (y14:(List Int) × G.Cur)=>
 some (y14.1,y14.2)) fun k15=>
 cond (r13.1)
 (ob (OA.raw r13.2 [(-1),281474976710655,281474976710656]) fun r16=>
 cond (decide (y3.1.length+[r16.1].length≤bA)) (k15 ((y3.1++[r16.1]),r16.2)) none)
 (k15 (y3.1,r13.2))) fun k4=>
 tA FU (fun (x5:(List Int) × Int × Int × G.Cur) k6=>
 cond (decide (x5.2.2.1>0))
 (ob (nC.raw x5.2.2.2 6) fun r7=>
 aA (fun (y8:Int × G.Cur)=>
 ob (BA.raw y8.2 40) fun r11=>
 ob (OA.raw r11.2 [0,0,20,1000]) fun r12=>
 cond (decide (x5.1.length+[sA .i64 (cA .i64 y8.1 r11.1) r12.1].length≤bA)) (k6 ((x5.1++[sA .i64 (cA .i64 y8.1 r11.1) r12.1]),y8.1,(sA .i64 x5.2.2.1 1),r12.2)) none) fun k9=>
 cond (r7.1)
 (ob (OA.raw r7.2 [1,32,900,1023,1024,1025,3000]) fun r10=>
 k9 ((cA .i64 x5.2.1 r10.1),r10.2))
 (k9 (x5.2.1,r7.2)))
 (k4 (x5.1,x5.2.2.2))) ([],r1.1,r2.1,r2.2)
def TT.raw (a0:List Int):Option G.Win:=
 ob (VO.raw) fun r1=>
 aA (fun (y2:G.Win)=>
 some y2) fun k3=>
 tA FU (fun (x4:Int × G.Win) k5=>
 cond (decide (x4.1<(a0.length:Int)))
 (ob (pA a0 x4.1) fun e6=>
 ob (TO.raw x4.2 e6) fun r7=>
 k5 ((cA .i64 x4.1 1),r7.1))
 (k3 x4.2)) (0,r1)
def AM.raw (a0:G.Cur):Option (G.Win × G.Cur):=
 ob (QU.raw a0 12) fun r1=>
 ob (TT.raw r1.1) fun r2=>
 some (r2,r1.2)
def OJ.raw (a0:G.Cur) (a1:Int):Option (G.Chan × G.Cur):=
 ob (mB.raw a0 12) fun r1=>
 ob (mB.raw r1.2 32) fun r2=>
 ob (sL.raw a1 r1.1 r2.1) fun r3=>
 ob (OA.raw r2.2 [0,0,3,281474976709656,281474976710656]) fun r4=>
 ob (nC.raw r4.2 3) fun r5=>
 aA (fun (y6:G.Cur × G.Chan)=>
 ob (nC.raw y6.1 2) fun r9=>
 aA (fun (y10:G.Chan × G.Cur)=>
 aA (fun (y20:Bool × G.Cur)=>
 aA (fun (y23:G.Chan)=>
 some (y23,y20.2)) fun k24=>
 cond (y20.1)
 (ob (jF y10.1.Cur.Key [114,101,107,101,121]) fun r25=>
 k24 (⟨y10.1.Role,y10.1.Sn,y10.1.Cur,y10.1.Old,y10.1.HasOld,y10.1.Until,r25⟩:G.Chan))
 (k24 y10.1)) fun k21=>
 cond (a1==0)
 (cond (decide (y10.1.Cur.N<4294967295))
 (ob (nC.raw y10.2 2) fun r22=>
 k21 (r22.1,r22.2))
 (k21 (false,y10.2)))
 (k21 (false,y10.2))) fun k11=>
 cond (r9.1)
 (ob (OA.raw r9.2 [1,1,2,4294967295]) fun r12=>
 ob (jF y6.2.Cur.Key [114,101,107,101,121]) fun r13=>
 ob (II.raw r12.1 r13) fun r14=>
 ob (OA.raw r12.2 [(-1),0,5,7,1000005]) fun r15=>
 aA (fun (y16:Bool)=>
 aA (fun (y18:G.Chan)=>
 k11 (y18,r15.2)) fun k19=>
 cond (y16)
 (k19 (⟨y6.2.Role,y6.2.Sn,r14,(⟨sA .i64 r14.N 1,y6.2.Cur.Key,y6.2.Cur.Seq,y6.2.Cur.Win⟩:G.Ep),true,5,y6.2.Next⟩:G.Chan))
 (k19 (⟨y6.2.Role,y6.2.Sn,r14,(⟨sA .i64 r14.N 1,y6.2.Cur.Key,y6.2.Cur.Seq,y6.2.Cur.Win⟩:G.Ep),true,r15.1,y6.2.Next⟩:G.Chan))) fun k17=>
 cond (a1==0)
 (k17 (decide (r15.1<0)))
 (k17 false))
 (k11 (y6.2,r9.2))) fun k7=>
 cond (r5.1)
 (ob (AM.raw r5.2) fun r8=>
 k7 (r8.2,(⟨r3.Role,r3.Sn,(⟨r3.Cur.N,r3.Cur.Key,r4.1,r8.1⟩:G.Ep),r3.Old,r3.HasOld,r3.Until,r3.Next⟩:G.Chan)))
 (k7 (r5.2,(⟨r3.Role,r3.Sn,(⟨r3.Cur.N,r3.Cur.Key,r4.1,r3.Cur.Win⟩:G.Ep),r3.Old,r3.HasOld,r3.Until,r3.Next⟩:G.Chan)))
def RU.raw (a0:G.Cur):Option (G.Ep × G.Cur):=
 ob (OA.raw a0 [0,0,1,2,4294967295]) fun r1=>
 ob (mB.raw r1.2 32) fun r2=>
 ob (II.raw r1.1 r2.1) fun r3=>
 let x4:List Int:=[0,0,1,5,281474976709655,281474976709656,281474976710655,281474976710656]
 ob (OA.raw r2.2 x4) fun r5=>
 ob (nC.raw r5.2 3) fun r6=>
 aA (fun (y7:G.Cur × G.Ep)=>
 some (y7.2,y7.1)) fun k8=>
 cond (r6.1)
 (ob (AM.raw r6.2) fun r9=>
 k8 (r9.2,(⟨r3.N,r3.Key,r5.1,r9.1⟩:G.Ep)))
 (k8 (r6.2,(⟨r3.N,r3.Key,r5.1,r3.Win⟩:G.Ep)))
def NU.raw (a0:G.Cur):Option (G.Win × G.Cur):=
 ob (AM.raw a0) fun r1=>
 ob (BA.raw r1.2 12) fun r2=>
 aA (fun (y3:G.Cur × G.Win)=>
 some (y3.2,y3.1)) fun k4=>
 cond (r2.1==0)
 (ob (OA.raw r2.2 [(-2),(-1),0,700,281474976710656]) fun r5=>
 k4 (r5.2,(⟨r5.1,r1.1.Bits⟩:G.Win)))
 (aA (fun (y6:G.Cur × G.Win)=>
 k4 (y6.1,y6.2)) fun k7=>
 cond (r2.1==1)
 (ob (BA.raw r2.2 32) fun r8=>
 ob (OA.raw r8.2 [(-1),0,1,4294967295,4294967296]) fun r9=>
 cond (decide (0≤r8.1)&&decide (r8.1<(r1.1.Bits.length:Int))) (ob (r1.1.Bits[r8.1.toNat]?) fun e10=>
 k7 (r9.2,(⟨r1.1.Top,List.set r1.1.Bits r8.1.toNat r9.1⟩:G.Win))) none)
 (aA (fun (y11:G.Cur × G.Win)=>
 k7 (y11.1,y11.2)) fun k12=>
 cond (r2.1==2)
 (ob (BA.raw r2.2 32) fun r13=>
 cond (decide (0≤(0:Int))&&decide ((0:Int)≤r13.1)&&decide (r13.1≤(r1.1.Bits.length:Int))) (k12 (r13.2,(⟨r1.1.Top,List.take ((r13.1 - 0).toNat) r1.1.Bits⟩:G.Win))) none)
 (k12 (r2.2,r1.1))))
def vP.raw (a0:G.Cur):Option (G.Ep × G.Cur):=
 ob (RU.raw a0) fun r1=>
 ob (BA.raw r1.2 14) fun r2=>
 aA (fun (y3:G.Cur × G.Ep)=>
 some (y3.2,y3.1)) fun k4=>
 cond (r2.1==0)
 (ob (OA.raw r2.2 [(-1),4294967296]) fun r5=>
 k4 (r5.2,(⟨r5.1,r1.1.Key,r1.1.Seq,r1.1.Win⟩:G.Ep)))
 (aA (fun (y6:G.Cur × G.Ep)=>
 k4 (y6.1,y6.2)) fun k7=>
 cond (r2.1==1)
 (ob (OA.raw r2.2 [0,31,33]) fun r8=>
 ob (mB.raw r8.2 r8.1) fun r9=>
 k7 (r9.2,(⟨r1.1.N,r9.1,r1.1.Seq,r1.1.Win⟩:G.Ep)))
 (aA (fun (y10:G.Cur × G.Ep)=>
 k7 (y10.1,y10.2)) fun k11=>
 cond (r2.1==2)
 (ob (OA.raw r2.2 [(-1),281474976710657]) fun r12=>
 k11 (r12.2,(⟨r1.1.N,r1.1.Key,r12.1,r1.1.Win⟩:G.Ep)))
 (aA (fun (y13:G.Cur × G.Ep)=>
 k11 (y13.1,y13.2)) fun k14=>
 cond (r2.1==3)
 (ob (NU.raw r2.2) fun r15=>
 k14 (r15.2,(⟨r1.1.N,r1.1.Key,r1.1.Seq,r15.1⟩:G.Ep)))
 (k14 (r2.2,r1.1)))))
def cP.raw (a0:G.Cur):Option (G.Chan × G.Cur):=
 ob (BA.raw a0 2) fun r1=>
 ob (OJ.raw r1.2 r1.1) fun r2=>
 ob (BA.raw r2.2 20) fun r3=>
 aA (fun (y4:G.Cur × G.Chan)=>
 some (y4.2,y4.1)) fun k5=>
 cond (r3.1==0)
 (ob (OA.raw r3.2 [(-1),0,1,2]) fun r6=>
 k5 (r6.2,(⟨r6.1,r2.1.Sn,r2.1.Cur,r2.1.Old,r2.1.HasOld,r2.1.Until,r2.1.Next⟩:G.Chan)))
 (aA (fun (y7:G.Cur × G.Chan)=>
 k5 (y7.1,y7.2)) fun k8=>
 cond (r3.1==1)
 (ob (mB.raw r3.2 11) fun r9=>
 k8 (r9.2,(⟨r2.1.Role,r9.1,r2.1.Cur,r2.1.Old,r2.1.HasOld,r2.1.Until,r2.1.Next⟩:G.Chan)))
 (aA (fun (y10:G.Cur × G.Chan)=>
 k8 (y10.1,y10.2)) fun k11=>
 cond (r3.1==2)
 (ob (vP.raw r3.2) fun r12=>
 k11 (r12.2,(⟨r2.1.Role,r2.1.Sn,r12.1,r2.1.Old,r2.1.HasOld,r2.1.Until,r2.1.Next⟩:G.Chan)))
 (aA (fun (y13:G.Cur × G.Chan)=>
 k11 (y13.1,y13.2)) fun k14=>
 cond (r3.1==3)
 (ob (vP.raw r3.2) fun r15=>
 k14 (r15.2,(⟨r2.1.Role,r2.1.Sn,r2.1.Cur,r15.1,r2.1.HasOld,r2.1.Until,r2.1.Next⟩:G.Chan)))
 (aA (fun (y16:G.Chan × G.Cur)=>
 k14 (y16.2,y16.1)) fun k17=>
 cond (r3.1==4)
 (k17 ((⟨r2.1.Role,r2.1.Sn,r2.1.Cur,r2.1.Old,!r2.1.HasOld,r2.1.Until,r2.1.Next⟩:G.Chan),r3.2))
 (aA (fun (y18:G.Cur × G.Chan)=>
 k17 (y18.2,y18.1)) fun k19=>
 cond (r3.1==5)
 (ob (OA.raw r3.2 [(-2),(-1),1,1000006]) fun r20=>
 k19 (r20.2,(⟨r2.1.Role,r2.1.Sn,r2.1.Cur,r2.1.Old,r2.1.HasOld,r20.1,r2.1.Next⟩:G.Chan)))
 (aA (fun (y21:G.Cur × G.Chan)=>
 k19 (y21.1,y21.2)) fun k22=>
 cond (r3.1==6)
 (ob (OA.raw r3.2 [0,31,32]) fun r23=>
 ob (mB.raw r23.2 r23.1) fun r24=>
 k22 (r24.2,(⟨r2.1.Role,r2.1.Sn,r2.1.Cur,r2.1.Old,r2.1.HasOld,r2.1.Until,r24.1⟩:G.Chan)))
 (k22 (r3.2,r2.1))))))))
end
end Go.D
namespace Go.D
end Go.D
namespace Go.D
end Go.D
namespace Go.D
theorem zuG {a0:G.Cur} {a1:Int} (ha:jA a0) (hb:0≤a1∧a1≤100):Ok (QU.raw a0 a1) fun r=>wt r.1≤300∧jA r.2:=by
 (try simp only [N] at ha);(try simp only [N] at hb);have hL:=qA;have hi:=zA (a:=a1) (b:=1) (by omega) (by omega);(try simp only [N] at hi)
 unfold QU.raw
 refine Ok.bind (TA (0) (281474976710000) ?_ (by simp) (by decide)) (fun r1 MV=>?_)
 ·(try simp only [N]);omega
 (try simp only [N] at MV);refine Ok.bind (EA ?_) (fun r2 VV=>?_)
 ·(try have:=zA (a:=a1) (b:=1) (by omega) (by omega));(try simp only [N]);omega
 (try simp only [N] at VV);refine Ok.join (fun y3:(List Int) × G.Cur=>wt y3.1≤200∧jA y3.2) (fun y3 cX=>?_) (fun k4 bW=>?_)
 ·(try simp only [N] at cX);refine Ok.bind (zC ?_) (fun r13 IW=>?_)
  ·(try simp only [N]);omega
  (try simp only [N] at IW);refine Ok.join (fun y14:(List Int) × G.Cur=>wt y14.1≤300∧jA y14.2) (fun y14 NY=>?_) (fun k15 nX=>?_)
  ·(try simp only [N] at NY);refine Ok.some' ?_;(try simp only [N]);omega
  refine Ok.condR (fun h1=>?_) (fun h1=>?_)
  ·(try simp only [B] at h1);refine nX _ ?_;(try simp only [N]);omega
  (try simp only [B] at h1);refine Ok.bind (TA (-1) (281474976710656) ?_ (by simp) (by decide)) (fun r16 qX=>?_)
  ·(try simp only [N]);omega
  (try simp only [N] at qX);refine Ok.guard ?_ ?_
  ·(try simp only [N]);omega
  refine nX _ ?_;(try simp only [N]);omega
 refine Ok.loopR (fun x5:(List Int) × Int × Int × G.Cur=>0≤x5.2.2.1∧x5.2.2.1≤101∧wt x5.1+x5.2.2.1≤110∧jA x5.2.2.2) (fun x5=>x5.2.2.1.toNat) ?_ ?_ (fun x5 hx5 k6 kX=>?_)
 iterate 2 (·(try simp only [N]);omega)
 (try simp only [N] at hx5);refine Ok.condR (fun h2=>?_) (fun h2=>?_)
 ·(try simp only [B] at h2);refine bW _ ?_;(try simp only [N]);omega
 (try simp only [B] at h2);refine Ok.bind (zC ?_) (fun r7 KW=>?_)
 ·(try simp only [N]);omega
 (try simp only [N] at KW);refine Ok.joinR (fun y8:Int × G.Cur=>jA y8.2) (fun k9 LX=>?_) (fun y8 s4=>?_)
 ·refine Ok.condR (fun h3=>?_) (fun h3=>?_)
  ·(try simp only [B] at h3);refine LX _ ?_;(try simp only [N]);omega
  (try simp only [B] at h3);refine Ok.bind (TA (1) (3000) ?_ (by simp) (by decide)) (fun r10 BW=>?_)
  ·(try simp only [N]);omega
  (try simp only [N] at BW);refine LX _ ?_;(try have:=zA (a:=x5.2.1) (b:=r10.1) (by omega) (by omega));(try simp only [N]);omega
 (try simp only [N] at s4);refine Ok.bind (EA ?_) (fun r11 vW=>?_)
 ·(try simp only [N]);omega
 (try simp only [N] at vW);refine Ok.bind (TA (0) (1000) ?_ (by simp) (by decide)) (fun r12 aW=>?_)
 ·(try simp only [N]);omega
 (try simp only [N] at aW);refine Ok.guard ?_ ?_
 ·(try have:=zA (a:=y8.1) (b:=r11.1) (by omega) (by omega));(try have:=PA (a:=(cA .i64 y8.1 r11.1)) (b:=r12.1) (by omega) (by omega));(try simp only [N]);omega
 refine kX _ ?_ ?_
 iterate 2 (·(try have:=PA (a:=x5.2.2.1) (b:=1) (by omega) (by omega));(try have:=zA (a:=y8.1) (b:=r11.1) (by omega) (by omega));(try have:=PA (a:=(cA .i64 y8.1 r11.1)) (b:=r12.1) (by omega) (by omega));(try simp only [N]);omega)
theorem ztS {a0:List Int} (ha:wt a0≤1000000):Ok (TT.raw a0) fun r=>r.Bits.length=32:=by
 (try simp only [N] at ha);have hL:=qA;have hw:=CB a0;(try simp only [N] at hw)
 unfold TT.raw
 refine Ok.bind (zgw) (fun r1 MV=>?_);(try simp only [N] at MV);refine Ok.join (fun y2:G.Win=>y2.Bits.length=32) (fun y2 WV=>?_) (fun k3 PV=>?_)
 ·(try simp only [N] at WV);refine Ok.some' ?_;(try simp only [N]);omega
 refine Ok.loopR (fun x4:Int × G.Win=>0≤x4.1∧x4.1≤(a0.length:Int)∧x4.2.Bits.length=32) (fun x4=>((a0.length:Int) - x4.1).toNat) ?_ ?_ (fun x4 B1 k5 EW=>?_)
 iterate 2 (·(try simp only);omega)
 (try simp only [N] at B1);refine Ok.condR (fun h1=>?_) (fun h1=>?_)
 ·(try simp only [B] at h1);refine PV _ ?_;(try simp only [N]);omega
 (try simp only [B] at h1);refine Ok.bind (Ok.idx ?_ ?_) (fun e6 FZ=>?_)
 iterate 2 (·(try simp only [N]);omega)
 have CX:=wA FZ;(try simp only [N] at CX);refine Ok.bind (zgu ?_) (fun r7 KW=>?_)
 ·(try simp only [N]);omega
 (try simp only [N] at KW);refine EW _ ?_ ?_
 iterate 2 (·(try have:=zA (a:=x4.1) (b:=1) (by omega) (by omega));(try simp only);omega)
theorem zb3 {a0:G.Cur} (ha:jA a0):Ok (AM.raw a0) fun r=>r.1.Bits.length=32∧jA r.2:=by
 (try simp only [N] at ha);have hL:=qA
 unfold AM.raw
 refine Ok.bind (zuG ?_ ?_) (fun r1 MV=>?_)
 iterate 2 (·(try simp only [N]);omega)
 (try simp only [N] at MV);refine Ok.bind (ztS ?_) (fun r2 VV=>?_)
 ·(try simp only [N]);omega
 (try simp only [N] at VV);refine Ok.some' ?_;(try simp only [N]);omega
theorem ZT {a0:G.Cur} {a1:Int} (ha:jA a0):Ok (OJ.raw a0 a1) fun r=>wt r.1≤1000∧jA r.2:=by
 (try simp only [N] at ha);have hL:=qA
 unfold OJ.raw
 refine Ok.bind (qB ?_ ?_) (fun r1 MV=>?_)
 iterate 2 (·(try simp only [N]);omega)
 (try simp only [N] at MV);refine Ok.bind (qB ?_ ?_) (fun r2 VV=>?_)
 iterate 2 (·(try simp only [N]);omega)
 (try simp only [N] at VV);refine Ok.bind (zbP ?_ ?_) (fun r3 YV=>?_)
 iterate 2 (·(try simp only [N]);omega)
 (try simp only [N] at YV);refine Ok.bind (TA (0) (281474976710656) ?_ (by simp) (by decide)) (fun r4 SV=>?_)
 ·(try simp only [N]);omega
 (try simp only [N] at SV);refine Ok.bind (zC ?_) (fun r5 TV=>?_)
 ·(try simp only [N]);omega
 (try simp only [N] at TV);refine Ok.joinR (fun y6:G.Cur × G.Chan=>jA y6.1∧wt y6.2≤300) (fun k7 fW=>?_) (fun y6 WW=>?_)
 ·refine Ok.condR (fun h1=>?_) (fun h1=>?_)
  ·(try simp only [B] at h1);refine fW _ ?_;(try simp only [N]);omega
  (try simp only [B] at h1);refine Ok.bind (zb3 ?_) (fun r8 xW=>?_)
  ·(try simp only [N]);omega
  (try simp only [N] at xW);refine fW _ ?_;(try simp only [N]);omega
 (try simp only [N] at WW);refine Ok.bind (zC ?_) (fun r9 gX=>?_)
 ·(try simp only [N]);omega
 (try simp only [N] at gX);refine Ok.join (fun y10:G.Chan × G.Cur=>wt y10.1≤600∧jA y10.2) (fun y10 SW=>?_) (fun k11 uW=>?_)
 ·(try simp only [N] at SW);refine Ok.joinR (fun y20:Bool × G.Cur=>jA y20.2) (fun k21 sW=>?_) (fun y20 bX=>?_)
  ·refine Ok.condR (fun h2=>?_) (fun h2=>?_)
   ·(try simp only [B] at h2);refine sW _ ?_;(try simp only [N]);omega
   (try simp only [B] at h2);refine Ok.condR (fun h3=>?_) (fun h3=>?_)
   ·(try simp only [B] at h3);refine sW _ ?_;(try simp only [N]);omega
   (try simp only [B] at h3);refine Ok.bind (zC ?_) (fun r22 PW=>?_)
   ·(try simp only [N]);omega
   (try simp only [N] at PW);refine sW _ ?_;(try simp only [N]);omega
  (try simp only [N] at bX);refine Ok.join (fun y23:G.Chan=>wt y23≤1000) (fun y23 xX=>?_) (fun k24 zW=>?_)
  ·(try simp only [N] at xX);refine Ok.some' ?_;(try simp only [N]);omega
  refine Ok.condR (fun h4=>?_) (fun h4=>?_)
  ·refine zW _ ?_;(try simp only [N]);omega
  refine Ok.bind (jI ?_) (fun r25 QW=>?_)
  ·(try simp only [N]);omega
  (try simp only [N] at QW);refine zW _ ?_;(try simp only [N]);omega
 refine Ok.condR (fun h5=>?_) (fun h5=>?_)
 ·(try simp only [B] at h5);refine uW _ ?_;(try simp only [N]);omega
 (try simp only [B] at h5);refine Ok.bind (TA (1) (4294967295) ?_ (by simp) (by decide)) (fun r12 aW=>?_)
 ·(try simp only [N]);omega
 (try simp only [N] at aW);refine Ok.bind (jI ?_) (fun r13 IW=>?_)
 ·(try simp only [N]);omega
 (try simp only [N] at IW);refine Ok.bind (wO ?_) (fun r14 OW=>?_)
 ·(try simp only [N]);omega
 (try simp only [N] at OW);refine Ok.bind (TA (-1) (1000005) ?_ (by simp) (by decide)) (fun r15 tW=>?_)
 ·(try simp only [N]);omega
 (try simp only [N] at tW);refine Ok.joinR (fun y16:Bool=>True) (fun k17 pW=>?_) (fun y16 XW=>?_)
 ·refine Ok.condR (fun h6=>?_) (fun h6=>?_)
  ·exact pW _ trivial
  exact pW _ trivial
 refine Ok.join (fun y18:G.Chan=>wt y18≤600) (fun y18 XX=>?_) (fun k19 HW=>?_)
 ·(try simp only [N] at XX);refine uW _ ?_;(try simp only [N]);omega
 refine Ok.cond' (fun h7=>?_) (fun h7=>?_)
 ·refine HW _ ?_;(try have:=PA (a:=r14.N) (b:=1) (by omega) (by omega));(try simp only [N]);omega
 refine HW _ ?_;(try have:=PA (a:=r14.N) (b:=1) (by omega) (by omega));(try simp only [N]);omega
theorem zuI {a0:G.Cur} (ha:jA a0):Ok (RU.raw a0) fun r=>wt r.1≤300∧jA r.2:=by
 (try simp only [N] at ha);have hL:=qA
 unfold RU.raw
 refine Ok.bind (TA (0) (4294967295) ?_ (by simp) (by decide)) (fun r1 MV=>?_)
 ·(try simp only [N]);omega
 (try simp only [N] at MV);refine Ok.bind (qB ?_ ?_) (fun r2 VV=>?_)
 iterate 2 (·(try simp only [N]);omega)
 (try simp only [N] at VV);refine Ok.bind (wO ?_) (fun r3 YV=>?_)
 ·(try simp only [N]);omega
 (try simp only [N] at YV);refine Ok.bind (TA (0) (281474976710656) ?_ (by simp) (by decide)) (fun r5 TV=>?_)
 ·(try simp only [N]);omega
 (try simp only [N] at TV);refine Ok.bind (zC ?_) (fun r6 lW=>?_)
 ·(try simp only [N]);omega
 (try simp only [N] at lW);refine Ok.join (fun y7:G.Cur × G.Ep=>jA y7.1∧wt y7.2≤300) (fun y7 BZ=>?_) (fun k8 AX=>?_)
 ·(try simp only [N] at BZ);refine Ok.some' ?_;(try simp only [N]);omega
 refine Ok.condR (fun h1=>?_) (fun h1=>?_)
 ·(try simp only [B] at h1);refine AX _ ?_;(try simp only [N]);omega
 (try simp only [B] at h1);refine Ok.bind (zb3 ?_) (fun r9 gX=>?_)
 ·(try simp only [N]);omega
 (try simp only [N] at gX);refine AX _ ?_;(try simp only [N]);omega
theorem zuD {a0:G.Cur} (ha:jA a0):Ok (NU.raw a0) fun r=>wt r.1≤100∧jA r.2:=by
 (try simp only [N] at ha);have hL:=qA
 unfold NU.raw
 refine Ok.bind (zb3 ?_) (fun r1 MV=>?_)
 ·(try simp only [N]);omega
 (try simp only [N] at MV);refine Ok.bind (EA ?_) (fun r2 VV=>?_)
 ·(try simp only [N]);omega
 (try simp only [N] at VV);refine Ok.join (fun y3:G.Cur × G.Win=>jA y3.1∧wt y3.2≤100) (fun y3 cX=>?_) (fun k4 bW=>?_)
 ·(try simp only [N] at cX);refine Ok.some' ?_;(try simp only [N]);omega
 refine Ok.cond' (fun h1=>?_) (fun h1=>?_)
 ·(try simp only [B] at h1);refine Ok.bind (TA (-2) (281474976710656) ?_ (by simp) (by decide)) (fun r5 TV=>?_)
  ·(try simp only [N]);omega
  (try simp only [N] at TV);refine bW _ ?_;(try simp only [N]);omega
 (try simp only [B] at h1);refine Ok.join (fun y6:G.Cur × G.Win=>jA y6.1∧wt y6.2≤100) (fun y6 WW=>?_) (fun k7 fW=>?_)
 ·(try simp only [N] at WW);refine bW _ ?_;(try simp only [N]);omega
 refine Ok.cond' (fun h2=>?_) (fun h2=>?_)
 ·(try simp only [B] at h2);refine Ok.bind (EA ?_) (fun r8 xW=>?_)
  ·(try simp only [N]);omega
  (try simp only [N] at xW);refine Ok.bind (TA (-1) (4294967296) ?_ (by simp) (by decide)) (fun r9 gX=>?_)
  ·(try simp only [N]);omega
  (try simp only [N] at gX);refine Ok.chk ?_ ?_
  ·(try simp only [B]);omega
  refine Ok.bind (Ok.get ?_) (fun e10 BX=>?_)
  ·(try simp only [N]);omega
  have NW:=wA BX;(try simp only [N] at NW);refine fW _ ?_;have:=EB r1.1.Bits r8.1.toNat r9.1;(try simp only [N] at this);(try simp only [N]);omega
 (try simp only [B] at h2);refine Ok.join (fun y11:G.Cur × G.Win=>jA y11.1∧wt y11.2≤100) (fun y11 iX=>?_) (fun k12 wW=>?_)
 ·(try simp only [N] at iX);refine fW _ ?_;(try simp only [N]);omega
 refine Ok.condR (fun h3=>?_) (fun h3=>?_)
 ·(try simp only [B] at h3);refine wW _ ?_;(try simp only [N]);omega
 (try simp only [B] at h3);refine Ok.bind (EA ?_) (fun r13 IW=>?_)
 ·(try simp only [N]);omega
 (try simp only [N] at IW);refine Ok.chk ?_ ?_
 ·(try simp only [B]);omega
 refine wW _ ?_;have:=FE r1.1.Bits ((r13.1 - 0).toNat);(try simp only [N] at this);(try simp only [N]);omega
theorem zgO {a0:G.Cur} (ha:jA a0):Ok (vP.raw a0) fun r=>wt r.1≤500∧jA r.2:=by
 (try simp only [N] at ha);have hL:=qA
 unfold vP.raw
 refine Ok.bind (zuI ?_) (fun r1 MV=>?_)
 ·(try simp only [N]);omega
 (try simp only [N] at MV);refine Ok.bind (EA ?_) (fun r2 VV=>?_)
 ·(try simp only [N]);omega
 (try simp only [N] at VV);refine Ok.join (fun y3:G.Cur × G.Ep=>jA y3.1∧wt y3.2≤500) (fun y3 cX=>?_) (fun k4 bW=>?_)
 ·(try simp only [N] at cX);refine Ok.some' ?_;(try simp only [N]);omega
 refine Ok.cond' (fun h1=>?_) (fun h1=>?_)
 ·(try simp only [B] at h1);refine Ok.bind (TA (-1) (4294967296) ?_ (by simp) (by decide)) (fun r5 TV=>?_)
  ·(try simp only [N]);omega
  (try simp only [N] at TV);refine bW _ ?_;(try simp only [N]);omega
 (try simp only [B] at h1);refine Ok.join (fun y6:G.Cur × G.Ep=>jA y6.1∧wt y6.2≤500) (fun y6 WW=>?_) (fun k7 fW=>?_)
 ·(try simp only [N] at WW);refine bW _ ?_;(try simp only [N]);omega
 refine Ok.cond' (fun h2=>?_) (fun h2=>?_)
 ·(try simp only [B] at h2);refine Ok.bind (TA (0) (33) ?_ (by simp) (by decide)) (fun r8 xW=>?_)
  ·(try simp only [N]);omega
  (try simp only [N] at xW);refine Ok.bind (qB ?_ ?_) (fun r9 gX=>?_)
  iterate 2 (·(try simp only [N]);omega)
  (try simp only [N] at gX);refine fW _ ?_;(try simp only [N]);omega
 (try simp only [B] at h2);refine Ok.join (fun y10:G.Cur × G.Ep=>jA y10.1∧wt y10.2≤500) (fun y10 SW=>?_) (fun k11 uW=>?_)
 ·(try simp only [N] at SW);refine fW _ ?_;(try simp only [N]);omega
 refine Ok.cond' (fun h3=>?_) (fun h3=>?_)
 ·(try simp only [B] at h3);refine Ok.bind (TA (-1) (281474976710657) ?_ (by simp) (by decide)) (fun r12 aW=>?_)
  ·(try simp only [N]);omega
  (try simp only [N] at aW);refine uW _ ?_;(try simp only [N]);omega
 (try simp only [B] at h3);refine Ok.join (fun y13:G.Cur × G.Ep=>jA y13.1∧wt y13.2≤500) (fun y13 RW=>?_) (fun k14 ZV=>?_)
 ·(try simp only [N] at RW);refine uW _ ?_;(try simp only [N]);omega
 refine Ok.condR (fun h4=>?_) (fun h4=>?_)
 ·(try simp only [B] at h4);refine ZV _ ?_;(try simp only [N]);omega
 (try simp only [B] at h4);refine Ok.bind (zuD ?_) (fun r15 tW=>?_)
 ·(try simp only [N]);omega
 (try simp only [N] at tW);refine ZV _ ?_;(try simp only [N]);omega
theorem zgB {a0:G.Cur} (ha:jA a0):Ok (cP.raw a0) fun r=>wt r.1≤2000∧jA r.2:=by
 (try simp only [N] at ha);have hL:=qA
 unfold cP.raw
 refine Ok.bind (EA ?_) (fun r1 MV=>?_)
 ·(try simp only [N]);omega
 (try simp only [N] at MV);refine Ok.bind (ZT ?_) (fun r2 VV=>?_)
 ·(try simp only [N]);omega
 (try simp only [N] at VV);refine Ok.bind (EA ?_) (fun r3 YV=>?_)
 ·(try simp only [N]);omega
 (try simp only [N] at YV);refine Ok.join (fun y4:G.Cur × G.Chan=>jA y4.1∧wt y4.2≤2000) (fun y4 aY=>?_) (fun k5 EW=>?_)
 ·(try simp only [N] at aY);refine Ok.some' ?_;(try simp only [N]);omega
 refine Ok.cond' (fun h1=>?_) (fun h1=>?_)
 ·(try simp only [B] at h1);refine Ok.bind (TA (-1) (2) ?_ (by simp) (by decide)) (fun r6 lW=>?_)
  ·(try simp only [N]);omega
  (try simp only [N] at lW);refine EW _ ?_;(try simp only [N]);omega
 (try simp only [B] at h1);refine Ok.join (fun y7:G.Cur × G.Chan=>jA y7.1∧wt y7.2≤2000) (fun y7 BZ=>?_) (fun k8 AX=>?_)
 ·(try simp only [N] at BZ);refine EW _ ?_;(try simp only [N]);omega
 refine Ok.cond' (fun h2=>?_) (fun h2=>?_)
 ·(try simp only [B] at h2);refine Ok.bind (qB ?_ ?_) (fun r9 gX=>?_)
  iterate 2 (·(try simp only [N]);omega)
  (try simp only [N] at gX);refine AX _ ?_;(try simp only [N]);omega
 (try simp only [B] at h2);refine Ok.join (fun y10:G.Cur × G.Chan=>jA y10.1∧wt y10.2≤2000) (fun y10 SW=>?_) (fun k11 uW=>?_)
 ·(try simp only [N] at SW);refine AX _ ?_;(try simp only [N]);omega
 refine Ok.cond' (fun h3=>?_) (fun h3=>?_)
 ·(try simp only [B] at h3);refine Ok.bind (zgO ?_) (fun r12 aW=>?_)
  ·(try simp only [N]);omega
  (try simp only [N] at aW);refine uW _ ?_;(try simp only [N]);omega
 (try simp only [B] at h3);refine Ok.join (fun y13:G.Cur × G.Chan=>jA y13.1∧wt y13.2≤2000) (fun y13 RW=>?_) (fun k14 ZV=>?_)
 ·(try simp only [N] at RW);refine uW _ ?_;(try simp only [N]);omega
 refine Ok.cond' (fun h4=>?_) (fun h4=>?_)
 ·(try simp only [B] at h4);refine Ok.bind (zgO ?_) (fun r15 tW=>?_)
  ·(try simp only [N]);omega
  (try simp only [N] at tW);refine ZV _ ?_;(try simp only [N]);omega
 (try simp only [B] at h4);refine Ok.join (fun y16:G.Chan × G.Cur=>wt y16.1≤2000∧jA y16.2) (fun y16 XW=>?_) (fun k17 pW=>?_)
 ·(try simp only [N] at XW);refine ZV _ ?_;(try simp only [N]);omega
 refine Ok.cond' (fun h5=>?_) (fun h5=>?_)
 ·(try simp only [B] at h5);refine pW _ ?_;(try simp only [N]);omega
 (try simp only [B] at h5);refine Ok.join (fun y18:G.Cur × G.Chan=>jA y18.1∧wt y18.2≤2000) (fun y18 XX=>?_) (fun k19 HW=>?_)
 ·(try simp only [N] at XX);refine pW _ ?_;(try simp only [N]);omega
 refine Ok.cond' (fun h6=>?_) (fun h6=>?_)
 ·(try simp only [B] at h6);refine Ok.bind (TA (-2) (1000006) ?_ (by simp) (by decide)) (fun r20 wX=>?_)
  ·(try simp only [N]);omega
  (try simp only [N] at wX);refine HW _ ?_;(try simp only [N]);omega
 (try simp only [B] at h6);refine Ok.join (fun y21:G.Cur × G.Chan=>jA y21.1∧wt y21.2≤2000) (fun y21 z0=>?_) (fun k22 KY=>?_)
 ·(try simp only [N] at z0);refine HW _ ?_;(try simp only [N]);omega
 refine Ok.condR (fun h7=>?_) (fun h7=>?_)
 ·(try simp only [B] at h7);refine KY _ ?_;(try simp only [N]);omega
 (try simp only [B] at h7);refine Ok.bind (TA (0) (32) ?_ (by simp) (by decide)) (fun r23 Z0=>?_)
 ·(try simp only [N]);omega
 (try simp only [N] at Z0);refine Ok.bind (qB ?_ ?_) (fun r24 wY=>?_)
 iterate 2 (·(try simp only [N]);omega)
 (try simp only [N] at wY);refine KY _ ?_;(try simp only [N]);omega
end Go.D

/-
 Sizes of the program's data.
-/
import Derived.Test.YtdmiplkjdpcbeaaGreatN10
import Derived.Test.YtdmiplkjdpcbeaaGreatN8g
namespace Go.D
end Go.D
namespace Go.D
end Go.D
namespace Go.D
open Option renaming bind → ob
noncomputable section
def XS.raw (a0:List UInt8):Option ((List G.Note) × Int):=
 ob (RJ.raw a0) fun r1=>
 ob (sP.raw r1 30) fun r2=>
 ob (nC.raw r2.2 8) fun r3=>
 cond (r3.1)
 (ob (BA.raw r3.2 (cA .i64 (r2.1.length:Int) 2)) fun r4=>
 some (r2.1,sA .i64 r4.1 1))
 (ob (BA.raw r3.2 (cA .i64 (r2.1.length:Int) 1)) fun r5=>
 aA (fun (y6:Int × G.Cur)=>
 some (r2.1,y6.1)) fun k7=>
 tA FU (fun (x8:Int × Int × G.Cur) k9=>
 aA (fun (y10:Bool)=>
 cond (y10)
 (ob (BA.raw x8.2.2 (r2.1.length:Int)) fun r12=>
 aA (fun (y13:Bool)=>
 cond (y13)
 (some (r2.1,r12.1))
 (k9 (r12.1,(cA .i64 x8.2.1 1),r12.2))) fun k14=>
 cond (decide (0≤r12.1)&&decide (r12.1<(r2.1.length:Int))) (ob (r2.1[r12.1.toNat]?) fun e15=>
 cond (decide (e15.Kind<11))
 (cond (decide (0≤r12.1)&&decide (r12.1<(r2.1.length:Int))) (ob (r2.1[r12.1.toNat]?) fun e16=>
 cond (e16.Kind !=1)
 (cond (decide (0≤r12.1)&&decide (r12.1<(r2.1.length:Int))) (ob (r2.1[r12.1.toNat]?) fun e17=>
 k14 (e17.Kind !=5)) none)
 (k14 false)) none)
 (k14 false)) none)
 (k7 (x8.1,x8.2.2))) fun k11=>
 cond (decide (x8.2.1<30))
 (k11 (decide ((r2.1.length:Int)>0)))
 (k11 false)) (r5.1,0,r5.2))
def YS.raw (a0:List UInt8):Option (List G.Note):=
 ob (RJ.raw a0) fun r1=>
 ob (sP.raw r1 30) fun r2=>
 some r2.1
def ZO.raw (a0:G.Cur):Option (G.Frame × G.Cur):=
 ob (mB.raw a0 12) fun r1=>
 ob (mB.raw r1.2 12) fun r2=>
 ob (BA.raw r2.2 300) fun r3=>
 ob (mB.raw r3.2 16) fun r4=>
 some ((⟨2,0,r1.1,r2.1,r3.1,r4.1,[],0,0,[],[]⟩:G.Frame),r4.2)
def bP.raw (a0:G.Cur) (a1:Int):Option (G.Timer × G.Cur):=
 ob (gH.raw a1) fun r1=>
 ob (BA.raw a0 6) fun r2=>
 aA (fun (y3:G.Timer)=>
 some (y3,r2.2)) fun k4=>
 tA FU (fun (x5:Int × G.Timer) k6=>
 cond (decide (x5.1>0))
 (ob (LI.raw x5.2 x5.2.Due) fun r7=>
 k6 ((sA .i64 x5.1 1),r7.1))
 (k4 x5.2)) (r2.1,r1)
def jU.raw (a0:G.Cur):Option (G.Client × G.Cur):=
 ob (BA.raw a0 3) fun r1=>
 ob (BA.raw r1.2 32) fun r2=>
 ob (mB.raw r2.2 (cA .i64 1 r2.1)) fun r3=>
 ob (BA.raw r3.2 5) fun r4=>
 let r5:G.Addr:=pB (cA .i64 1 r4.1)
 ob (uH (cA .i64 1 r1.1) r3.1 r5) fun r6=>
 ob (OA.raw r4.2 [0,1,2,2,3,3,3,3]) fun r7=>
 cond (r7.1==0)
 (some (r6,r7.2))
 (ob (OA.raw r7.2 [0,0,5,90]) fun r8=>
 ob (mB.raw r8.2 12) fun r9=>
 ob (vO.raw r6 r8.1 r9.1) fun r10=>
 ob (BA.raw r9.2 3) fun r11=>
 ob (LI.raw r10.1.T (cA .i64 r8.1 r11.1)) fun r12=>
 cond (r7.1==1)
 (some ((⟨r10.1.Id,r10.1.Psk,r10.1.At,r10.1.St,r10.1.Cn,r10.1.Fin,r10.1.C,r12.1,r10.1.R,r10.1.Last⟩:G.Client),r11.2))
 (ob (ZO.raw r11.2) fun r13=>
 ob (vL.raw (⟨r10.1.Id,r10.1.Psk,r10.1.At,r10.1.St,r10.1.Cn,r10.1.Fin,r10.1.C,r12.1,r10.1.R,r10.1.Last⟩:G.Client) r8.1 (⟨r13.1.Kind,r13.1.Id,r10.1.Cn,r13.1.Sn,r13.1.Tick,r13.1.Cookie,r13.1.Proof,r13.1.Epoch,r13.1.Seq,r13.1.Body,r13.1.Tag⟩:G.Frame)) fun r14=>
 cond (r7.1==2)
 (ob (BA.raw r13.2 5) fun r15=>
 aA (fun (y16:G.Client)=>
 aA (fun (y21:G.Client)=>
 some (y21,r15.2)) fun k22=>
 cond (!y16.T.On)
 (ob (gH.raw r8.1) fun r23=>
 k22 (⟨y16.Id,y16.Psk,y16.At,y16.St,y16.Cn,y16.Fin,y16.C,r23,y16.R,y16.Last⟩:G.Client))
 (k22 y16)) fun k17=>
 tA FU (fun (x18:Int × G.Client) k19=>
 cond (decide (x18.1>0))
 (ob (LI.raw x18.2.T x18.2.T.Due) fun r20=>
 k19 ((sA .i64 x18.1 1),(⟨x18.2.Id,x18.2.Psk,x18.2.At,x18.2.St,x18.2.Cn,x18.2.Fin,x18.2.C,r20.1,x18.2.R,x18.2.Last⟩:G.Client)))
 (k17 x18.2)) (r15.1,r14.1))
 (ob (KJ.raw 0) fun r24=>
 ob (WL.raw r14.1.C.Cur.Key 1 r14.1.C.Sn 0 0 8 r24) fun r25=>
 ob (vL.raw r14.1 r8.1 r25.1) fun r26=>
 ob (nC.raw r13.2 2) fun r27=>
 aA (fun (y28:G.Cur × G.Client)=>
 some (y28.2,y28.1)) fun k29=>
 cond (r27.1)
 (ob (OJ.raw r27.2 0) fun r30=>
 aA (fun (y31:G.Cur × G.Client)=>
 k29 (y31.1,y31.2)) fun k32=>
 cond (decide ((r30.1.Next.length:Int)>0))
 (ob (bP.raw r30.2 r8.1) fun r33=>
 aA (fun (y34:G.Client)=>
 k32 (r33.2,y34)) fun k35=>
 cond (!r33.1.On)
 (ob (gH.raw r8.1) fun r36=>
 k35 (⟨r26.1.Id,r26.1.Psk,r26.1.At,r26.1.St,r26.1.Cn,r26.1.Fin,r30.1,r26.1.T,r36,r26.1.Last⟩:G.Client))
 (k35 (⟨r26.1.Id,r26.1.Psk,r26.1.At,r26.1.St,r26.1.Cn,r26.1.Fin,r30.1,r26.1.T,r33.1,r26.1.Last⟩:G.Client)))
 (k32 (r30.2,(⟨r26.1.Id,r26.1.Psk,r26.1.At,r26.1.St,r26.1.Cn,r26.1.Fin,r30.1,r26.1.T,r26.1.R,r26.1.Last⟩:G.Client))))
 (k29 (r27.2,r26.1)))))
def uP.raw (a0:G.Cur):Option (G.Frame × G.Cur):=
 ob (BA.raw a0 8) fun r1=>
 aA (fun (y2:G.Cur × G.Frame)=>
 some (y2.2,y2.1)) fun k3=>
 cond ((cA .i64 1 r1.1)==1)
 (ob (BA.raw r1.2 9) fun r4=>
 ob (mB.raw r4.2 12) fun r5=>
 k3 (r5.2,(⟨cA .i64 1 r1.1,cA .i64 1 r4.1,r5.1,[],0,[],[],0,0,[],[]⟩:G.Frame)))
 (aA (fun (y6:Bool)=>
 aA (fun (y8:G.Cur × G.Frame)=>
 k3 (y8.1,y8.2)) fun k9=>
 cond (y6)
 (ob (mB.raw r1.2 12) fun r10=>
 ob (mB.raw r10.2 12) fun r11=>
 ob (OA.raw r11.2 [0,1,300,1000000]) fun r12=>
 ob (mB.raw r12.2 16) fun r13=>
 aA (fun (y14:G.Cur × G.Frame)=>
 k9 (y14.1,y14.2)) fun k15=>
 cond ((cA .i64 1 r1.1)==3)
 (ob (BA.raw r13.2 9) fun r16=>
 ob (mB.raw r16.2 16) fun r17=>
 k15 (r17.2,(⟨cA .i64 1 r1.1,cA .i64 1 r16.1,r10.1,r11.1,r12.1,r13.1,r17.1,0,0,[],[]⟩:G.Frame)))
 (k15 (r13.2,(⟨cA .i64 1 r1.1,0,r10.1,r11.1,r12.1,r13.1,[],0,0,[],[]⟩:G.Frame))))
 (ob (mB.raw r1.2 12) fun r18=>
 ob (OA.raw r18.2 [0,1,2,4294967295]) fun r19=>
 ob (OA.raw r19.2 [0,1,70000,281474976710655]) fun r20=>
 ob (mB.raw r20.2 16) fun r21=>
 ob (OA.raw r21.2 [0,1,12,40]) fun r22=>
 aA (fun (y23:Bool)=>
 aA (fun (y25:Int)=>
 aA (fun (y27:Int)=>
 ob (mB.raw r22.2 y27) fun r29=>
 k9 (r29.2,(⟨cA .i64 1 r1.1,0,[],r18.1,0,[],[],r19.1,r20.1,r29.1,r21.1⟩:G.Frame))) fun k28=>
 cond (decide ((cA .i64 1 r1.1)≥7))
 (k28 4)
 (k28 y25)) fun k26=>
 cond (y23)
 (k26 12)
 (k26 r22.1)) fun k24=>
 cond ((cA .i64 1 r1.1)==5)
 (k24 true)
 (k24 ((cA .i64 1 r1.1)==6)))) fun k7=>
 cond ((cA .i64 1 r1.1)==2)
 (k7 ((cA .i64 1 r1.1)==2))
 (k7 ((cA .i64 1 r1.1)==3)))
def MU.raw (a0:G.Cur):Option (G.Frame × G.Cur):=
 ob (uP.raw a0) fun r1=>
 ob (BA.raw r1.2 22) fun r2=>
 aA (fun (y3:G.Cur × G.Frame)=>
 some (y3.2,y3.1)) fun k4=>
 cond (r2.1==0)
 (ob (BA.raw r2.2 11) fun r5=>
 k4 (r5.2,(⟨sA .i64 r5.1 1,r1.1.Id,r1.1.Cn,r1.1.Sn,r1.1.Tick,r1.1.Cookie,r1.1.Proof,r1.1.Epoch,r1.1.Seq,r1.1.Body,r1.1.Tag⟩:G.Frame)))
 (aA (fun (y6:G.Cur × G.Frame)=>
 k4 (y6.1,y6.2)) fun k7=>
 cond (r2.1==1)
 (ob (OA.raw r2.2 [0,1,10,(-1)]) fun r8=>
 k7 (r8.2,(⟨r1.1.Kind,r8.1,r1.1.Cn,r1.1.Sn,r1.1.Tick,r1.1.Cookie,r1.1.Proof,r1.1.Epoch,r1.1.Seq,r1.1.Body,r1.1.Tag⟩:G.Frame)))
 (aA (fun (y9:G.Cur × G.Frame)=>
 k7 (y9.1,y9.2)) fun k10=>
 cond (r2.1==2)
 (ob (OA.raw r2.2 [0,11,12,13]) fun r11=>
 ob (mB.raw r11.2 r11.1) fun r12=>
 k10 (r12.2,(⟨r1.1.Kind,r1.1.Id,r12.1,r1.1.Sn,r1.1.Tick,r1.1.Cookie,r1.1.Proof,r1.1.Epoch,r1.1.Seq,r1.1.Body,r1.1.Tag⟩:G.Frame)))
 (aA (fun (y13:G.Cur × G.Frame)=>
 k10 (y13.1,y13.2)) fun k14=>
 cond (r2.1==3)
 (ob (OA.raw r2.2 [0,11,12,13]) fun r15=>
 ob (mB.raw r15.2 r15.1) fun r16=>
 k14 (r16.2,(⟨r1.1.Kind,r1.1.Id,r1.1.Cn,r16.1,r1.1.Tick,r1.1.Cookie,r1.1.Proof,r1.1.Epoch,r1.1.Seq,r1.1.Body,r1.1.Tag⟩:G.Frame)))
 (aA (fun (y17:G.Cur × G.Frame)=>
 k14 (y17.1,y17.2)) fun k18=>
 cond (r2.1==4)
 (ob (OA.raw r2.2 [(-1),0,1000001]) fun r19=>
 k18 (r19.2,(⟨r1.1.Kind,r1.1.Id,r1.1.Cn,r1.1.Sn,r19.1,r1.1.Cookie,r1.1.Proof,r1.1.Epoch,r1.1.Seq,r1.1.Body,r1.1.Tag⟩:G.Frame)))
 (aA (fun (y20:G.Cur × G.Frame)=>
 k18 (y20.1,y20.2)) fun k21=>
 cond (r2.1==5)
 (ob (OA.raw r2.2 [0,15,16]) fun r22=>
 ob (mB.raw r22.2 r22.1) fun r23=>
 k21 (r23.2,(⟨r1.1.Kind,r1.1.Id,r1.1.Cn,r1.1.Sn,r1.1.Tick,r23.1,r1.1.Proof,r1.1.Epoch,r1.1.Seq,r1.1.Body,r1.1.Tag⟩:G.Frame)))
 (aA (fun (y24:G.Cur × G.Frame)=>
 k21 (y24.1,y24.2)) fun k25=>
 cond (r2.1==6)
 (ob (OA.raw r2.2 [0,15,16]) fun r26=>
 ob (mB.raw r26.2 r26.1) fun r27=>
 k25 (r27.2,(⟨r1.1.Kind,r1.1.Id,r1.1.Cn,r1.1.Sn,r1.1.Tick,r1.1.Cookie,r27.1,r1.1.Epoch,r1.1.Seq,r1.1.Body,r1.1.Tag⟩:G.Frame)))
 (aA (fun (y28:G.Cur × G.Frame)=>
 k25 (y28.1,y28.2)) fun k29=>
 cond (r2.1==7)
 (ob (OA.raw r2.2 [(-1),0,4294967296]) fun r30=>
 k29 (r30.2,(⟨r1.1.Kind,r1.1.Id,r1.1.Cn,r1.1.Sn,r1.1.Tick,r1.1.Cookie,r1.1.Proof,r30.1,r1.1.Seq,r1.1.Body,r1.1.Tag⟩:G.Frame)))
 (aA (fun (y31:G.Cur × G.Frame)=>
 k29 (y31.1,y31.2)) fun k32=>
 cond (r2.1==8)
 (ob (OA.raw r2.2 [(-1),0,281474976710656]) fun r33=>
 k32 (r33.2,(⟨r1.1.Kind,r1.1.Id,r1.1.Cn,r1.1.Sn,r1.1.Tick,r1.1.Cookie,r1.1.Proof,r1.1.Epoch,r33.1,r1.1.Body,r1.1.Tag⟩:G.Frame)))
 (aA (fun (y34:G.Cur × G.Frame)=>
 k32 (y34.1,y34.2)) fun k35=>
 cond (r2.1==9)
 (ob (OA.raw r2.2 [0,4,12,41]) fun r36=>
 ob (mB.raw r36.2 r36.1) fun r37=>
 k35 (r37.2,(⟨r1.1.Kind,r1.1.Id,r1.1.Cn,r1.1.Sn,r1.1.Tick,r1.1.Cookie,r1.1.Proof,r1.1.Epoch,r1.1.Seq,r37.1,r1.1.Tag⟩:G.Frame)))
 (aA (fun (y38:G.Cur × G.Frame)=>
 k35 (y38.1,y38.2)) fun k39=>
 cond (r2.1==10)
 (ob (OA.raw r2.2 [0,15,17]) fun r40=>
 ob (mB.raw r40.2 r40.1) fun r41=>
 k39 (r41.2,(⟨r1.1.Kind,r1.1.Id,r1.1.Cn,r1.1.Sn,r1.1.Tick,r1.1.Cookie,r1.1.Proof,r1.1.Epoch,r1.1.Seq,r1.1.Body,r41.1⟩:G.Frame)))
 (k39 (r2.2,r1.1))))))))))))
def aP.raw (a0:G.Cur):Option (G.Timer × G.Cur):=
 ob (OA.raw a0 [0,5,999990,1000000]) fun r1=>
 ob (bP.raw r1.2 r1.1) fun r2=>
 ob (BA.raw r2.2 10) fun r3=>
 aA (fun (y4:G.Cur × G.Timer)=>
 some (y4.2,y4.1)) fun k5=>
 cond (r3.1==0)
 (ob (OA.raw r3.2 [(-1),1000008,1000009]) fun r6=>
 k5 (r6.2,(⟨r2.1.On,r6.1,r2.1.Wait,r2.1.Tries⟩:G.Timer)))
 (aA (fun (y7:G.Cur × G.Timer)=>
 k5 (y7.1,y7.2)) fun k8=>
 cond (r3.1==1)
 (ob (OA.raw r3.2 [0,1,3,8,16]) fun r9=>
 k8 (r9.2,(⟨r2.1.On,r2.1.Due,r9.1,r2.1.Tries⟩:G.Timer)))
 (aA (fun (y10:G.Cur × G.Timer)=>
 k8 (y10.1,y10.2)) fun k11=>
 cond (r3.1==2)
 (ob (OA.raw r3.2 [0,1,5,6]) fun r12=>
 k11 (r12.2,(⟨r2.1.On,r2.1.Due,r2.1.Wait,r12.1⟩:G.Timer)))
 (aA (fun (y13:G.Timer)=>
 k11 (r3.2,y13)) fun k14=>
 cond (r3.1==3)
 (k14 (⟨!r2.1.On,r2.1.Due,r2.1.Wait,r2.1.Tries⟩:G.Timer))
 (k14 r2.1))))
def iU.raw (a0:G.Cur):Option (G.Client × G.Cur):=
 ob (jU.raw a0) fun r1=>
 ob (BA.raw r1.2 26) fun r2=>
 aA (fun (y3:G.Cur × G.Client)=>
 some (y3.2,y3.1)) fun k4=>
 cond (r2.1==0)
 (ob (OA.raw r2.2 [0,10,4]) fun r5=>
 k4 (r5.2,(⟨r5.1,r1.1.Psk,r1.1.At,r1.1.St,r1.1.Cn,r1.1.Fin,r1.1.C,r1.1.T,r1.1.R,r1.1.Last⟩:G.Client)))
 (aA (fun (y6:G.Cur × G.Client)=>
 k4 (y6.1,y6.2)) fun k7=>
 cond (r2.1==1)
 (ob (OA.raw r2.2 [0,33,1]) fun r8=>
 ob (mB.raw r8.2 r8.1) fun r9=>
 k7 (r9.2,(⟨r1.1.Id,r9.1,r1.1.At,r1.1.St,r1.1.Cn,r1.1.Fin,r1.1.C,r1.1.T,r1.1.R,r1.1.Last⟩:G.Client)))
 (aA (fun (y10:G.Cur × G.Client)=>
 k7 (y10.1,y10.2)) fun k11=>
 cond (r2.1==2)
 (ob (jH.raw r2.2) fun r12=>
 k11 (r12.2,(⟨r1.1.Id,r1.1.Psk,r12.1,r1.1.St,r1.1.Cn,r1.1.Fin,r1.1.C,r1.1.T,r1.1.R,r1.1.Last⟩:G.Client)))
 (aA (fun (y13:G.Cur × G.Client)=>
 k11 (y13.1,y13.2)) fun k14=>
 cond (r2.1==3)
 (ob (BA.raw r2.2 6) fun r15=>
 k14 (r15.2,(⟨r1.1.Id,r1.1.Psk,r1.1.At,sA .i64 r15.1 1,r1.1.Cn,r1.1.Fin,r1.1.C,r1.1.T,r1.1.R,r1.1.Last⟩:G.Client)))
 (aA (fun (y16:G.Cur × G.Client)=>
 k14 (y16.1,y16.2)) fun k17=>
 cond (r2.1==4)
 (ob (OA.raw r2.2 [0,11,12]) fun r18=>
 ob (mB.raw r18.2 r18.1) fun r19=>
 k17 (r19.2,(⟨r1.1.Id,r1.1.Psk,r1.1.At,r1.1.St,r19.1,r1.1.Fin,r1.1.C,r1.1.T,r1.1.R,r1.1.Last⟩:G.Client)))
 (aA (fun (y20:G.Cur × G.Client)=>
 k17 (y20.1,y20.2)) fun k21=>
 cond (r2.1==5)
 (ob (MU.raw r2.2) fun r22=>
 k21 (r22.2,(⟨r1.1.Id,r1.1.Psk,r1.1.At,r1.1.St,r1.1.Cn,r22.1,r1.1.C,r1.1.T,r1.1.R,r1.1.Last⟩:G.Client)))
 (aA (fun (y23:G.Cur × G.Client)=>
 k21 (y23.1,y23.2)) fun k24=>
 cond (r2.1==6)
 (ob (cP.raw r2.2) fun r25=>
 k24 (r25.2,(⟨r1.1.Id,r1.1.Psk,r1.1.At,r1.1.St,r1.1.Cn,r1.1.Fin,r25.1,r1.1.T,r1.1.R,r1.1.Last⟩:G.Client)))
 (aA (fun (y26:G.Cur × G.Client)=>
 k24 (y26.1,y26.2)) fun k27=>
 cond (r2.1==7)
 (ob (aP.raw r2.2) fun r28=>
 k27 (r28.2,(⟨r1.1.Id,r1.1.Psk,r1.1.At,r1.1.St,r1.1.Cn,r1.1.Fin,r1.1.C,r28.1,r1.1.R,r1.1.Last⟩:G.Client)))
 (aA (fun (y29:G.Cur × G.Client)=>
 k27 (y29.1,y29.2)) fun k30=>
 cond (r2.1==8)
 (ob (aP.raw r2.2) fun r31=>
 k30 (r31.2,(⟨r1.1.Id,r1.1.Psk,r1.1.At,r1.1.St,r1.1.Cn,r1.1.Fin,r1.1.C,r1.1.T,r31.1,r1.1.Last⟩:G.Client)))
 (aA (fun (y32:G.Cur × G.Client)=>
 k30 (y32.1,y32.2)) fun k33=>
 cond (r2.1==9)
 (ob (OA.raw r2.2 [(-1),1,1000001]) fun r34=>
 k33 (r34.2,(⟨r1.1.Id,r1.1.Psk,r1.1.At,r1.1.St,r1.1.Cn,r1.1.Fin,r1.1.C,r1.1.T,r1.1.R,r34.1⟩:G.Client)))
 (aA (fun (y35:G.Client)=>
 k33 (r2.2,y35)) fun k36=>
 cond (r2.1==10)
 (k36 (⟨r1.1.Id,r1.1.Psk,r1.1.At,r1.1.St,r1.1.Cn,(⟨0,0,[],[],0,[],[],0,0,[],[]⟩:G.Frame),r1.1.C,r1.1.T,r1.1.R,r1.1.Last⟩:G.Client))
 (k36 r1.1)))))))))))
def wU.raw (a0:G.Cur):Option ((List (List UInt8)) × G.Cur):=
 ob (BA.raw a0 3) fun r1=>
 aA (fun (y2:(List (List UInt8)) × G.Cur)=>
 some (y2.1,y2.2)) fun k3=>
 tA FU (fun (x4:(List (List UInt8)) × Int × G.Cur) k5=>
 cond (decide (x4.2.1>0))
 (ob (BA.raw x4.2.2 32) fun r6=>
 ob (mB.raw r6.2 (cA .i64 1 r6.1)) fun r7=>
 cond (decide (x4.1.length+[r7.1].length≤bA)) (k5 ((x4.1++[r7.1]),(sA .i64 x4.2.1 1),r7.2)) none)
 (k3 (x4.1,x4.2.2))) ([],(cA .i64 1 r1.1),r1.2)
def dP.raw (a0:G.Cur):Option (G.Paths × G.Cur):=
 ob (BA.raw a0 5) fun r1=>
 let r2:G.Addr:=pB r1.1
 ob (JO.raw r2) fun r3=>
 ob (BA.raw r1.2 6) fun r4=>
 ob (BA.raw r4.2 5) fun r5=>
 aA (fun (y6:G.Cur × G.Paths)=>
 some (y6.2,y6.1)) fun k7=>
 tA FU (fun (x8:Int × Int × G.Cur × G.Paths) k9=>
 cond (decide (x8.2.1>0))
 (ob (BA.raw x8.2.2.1 7) fun r10=>
 let r11:G.Addr:=pB r10.1
 ob (mB.raw r10.2 12) fun r12=>
 ob (GO.raw x8.2.2.2 x8.1 r11 r12.1) fun r13=>
 ob (BA.raw r12.2 3) fun r14=>
 k9 ((cA .i64 x8.1 r14.1),(sA .i64 x8.2.1 1),r14.2,r13.1))
 (k7 (x8.2.2.1,x8.2.2.2))) (r4.1,r5.1,r5.2,r3)
def SJ.raw (a0:G.Cur):Option (G.Sess × G.Cur):=
 ob (mB.raw a0 16) fun r1=>
 ob (BA.raw r1.2 2) fun r2=>
 ob (ZO.raw r2.2) fun r3=>
 ob (zO.raw r1.1 (cA .i64 1 r2.1) r3.1) fun r4=>
 ob (mB.raw r3.2 16) fun r5=>
 ob (OA.raw r5.2 [0,5,90]) fun r6=>
 ob (BA.raw r6.2 5) fun r7=>
 let r8:G.Addr:=pB (cA .i64 1 r7.1)
 ob (OO.raw r5.1 r6.1 r8 r4.1) fun r9=>
 ob (nC.raw r7.2 2) fun r10=>
 aA (fun (y11:G.Cur × G.Sess)=>
 ob (nC.raw y11.1 2) fun r14=>
 aA (fun (y15:G.Cur × G.Sess)=>
 some (y15.2,y15.1)) fun k16=>
 cond (r14.1)
 (ob (dP.raw r14.2) fun r17=>
 k16 (r17.2,(⟨y11.2.Id,y11.2.Cn,y11.2.Sn,y11.2.C,r17.1,y11.2.Tick,y11.2.Last,y11.2.Dead⟩:G.Sess)))
 (k16 (r14.2,y11.2))) fun k12=>
 cond (r10.1)
 (ob (OJ.raw r10.2 1) fun r13=>
 k12 (r13.2,(⟨r9.Id,r9.Cn,r13.1.Sn,r13.1,r9.P,r9.Tick,r9.Last,r9.Dead⟩:G.Sess)))
 (k12 (r10.2,r9))
def jP.raw (a0:G.Cur):Option (G.Tab × G.Cur):=
 ob (BA.raw a0 6) fun r1=>
 let r2:G.Tab:=YD (cA .i64 1 r1.1)
 ob (BA.raw r1.2 6) fun r3=>
 aA (fun (y4:G.Cur × G.Tab)=>
 some (y4.2,y4.1)) fun k5=>
 tA FU (fun (x6:Int × G.Cur × G.Tab) k7=>
 cond (decide (x6.1>0))
 (ob (SJ.raw x6.2.1) fun r8=>
 ob (oL.raw x6.2.2 r8.1) fun r9=>
 aA (fun (y10:Bool × G.Cur)=>
 aA (fun (y13:G.Cur × G.Tab)=>
 k7 ((sA .i64 x6.1 1),y13.1,y13.2)) fun k14=>
 cond (y10.1)
 (ob (BA.raw y10.2 (r9.1.L.length:Int)) fun r15=>
 cond (decide (0≤r15.1)&&decide (r15.1<(r9.1.L.length:Int))) (ob (r9.1.L[r15.1.toNat]?) fun e16=>
 ob (RH.raw e16) fun r17=>
 cond (decide (0≤r15.1)&&decide (r15.1<(r9.1.L.length:Int))) (ob (r9.1.L[r15.1.toNat]?) fun e18=>
 k14 (r15.2,(⟨r9.1.Cap,List.set r9.1.L r15.1.toNat r17⟩:G.Tab))) none) none)
 (k14 (y10.2,r9.1))) fun k11=>
 cond (decide ((r9.1.L.length:Int)>0))
 (ob (nC.raw r8.2 3) fun r12=>
 k11 (r12.1,r12.2))
 (k11 (false,r8.2)))
 (k5 (x6.2.1,x6.2.2))) (r3.1,r3.2,r2)
def fP.raw (a0:G.Cur) (a1:Int):Option ((List G.Credit) × G.Cur):=
 ob (BA.raw a0 (cA .i64 a1 1)) fun r1=>
 aA (fun (y2:(List G.Credit) × G.Cur)=>
 some (y2.1,y2.2)) fun k3=>
 tA FU (fun (x4:(List G.Credit) × Int × G.Cur) k5=>
 cond (decide (x4.2.1>0))
 (ob (BA.raw x4.2.2 10) fun r6=>
 let r7:G.Addr:=pB r6.1
 ob (OA.raw r6.2 [0,1,34,60,999999,1000000]) fun r8=>
 ob (AO.raw x4.1 r7 r8.1) fun r9=>
 ob (OA.raw r8.2 [0,3,45,102,1000]) fun r10=>
 ob (PO.raw r9 r7 r10.1) fun r11=>
 k5 (r11.1,(sA .i64 x4.2.1 1),r10.2))
 (k3 (x4.1,x4.2.2))) ([],r1.1,r1.2)
def uU.raw (a0:G.Cur):Option (G.Server × G.Cur):=
 ob (wU.raw a0) fun r1=>
 ob (mB.raw r1.2 8) fun r2=>
 ob (BA.raw r2.2 4) fun r3=>
 ob (mL r1.1 r2.1 (cA .i64 1 r3.1)) fun r4=>
 ob (jP.raw r3.2) fun r5=>
 aA (fun (y6:G.Server)=>
 ob (fP.raw r5.2 6) fun r15=>
 ob (BA.raw r15.2 30) fun r16=>
 some ((⟨y6.Psks,y6.J,(⟨y6.D.Seed,cA .i64 1 r16.1⟩:G.Dice),y6.T,r15.1⟩:G.Server),r16.2)) fun k7=>
 tA FU (fun (x8:Int × G.Server) k9=>
 cond (decide (x8.1<(r5.1.L.length:Int)))
 (cond (decide (0≤x8.1)&&decide (x8.1<(r5.1.L.length:Int))) (ob (r5.1.L[x8.1.toNat]?) fun e10=>
 aA (fun (y11:G.Server)=>
 k9 ((cA .i64 x8.1 1),y11)) fun k12=>
 cond (decide (e10.Id≤(x8.2.Psks.length:Int)))
 (cond (decide (0≤x8.1)&&decide (x8.1<(r5.1.L.length:Int))) (ob (r5.1.L[x8.1.toNat]?) fun e13=>
 ob (oL.raw x8.2.T e13) fun r14=>
 k12 (⟨x8.2.Psks,x8.2.J,x8.2.D,r14.1,x8.2.Cr⟩:G.Server)) none)
 (k12 x8.2)) none)
 (k7 x8.2)) (0,r4)
def nU.raw (a0:G.Cur) (a1:List (List UInt8)) (a2:List (List UInt8)):Option ((List (List UInt8)) × G.Cur):=
 ob (nC.raw a0 2) fun r1=>
 cond (r1.1)
 (some (a1,r1.2))
 (some (a2,r1.2))
def YT.raw (a0:G.Cur):Option (G.Jar × G.Cur):=
 ob (mB.raw a0 12) fun r1=>
 let r2:G.Jar:=nF r1.1
 ob (nC.raw r1.2 10) fun r3=>
 aA (fun (y4:G.Cur × G.Jar)=>
 some (y4.2,y4.1)) fun k5=>
 cond (r3.1)
 (ob (OA.raw r3.2 [0,31,32]) fun r6=>
 ob (mB.raw r6.2 r6.1) fun r7=>
 k5 (r7.2,(⟨r7.1⟩:G.Jar)))
 (k5 (r3.2,r2))
def aU.raw (a0:G.Cur):Option (G.Paths × G.Cur):=
 ob (dP.raw a0) fun r1=>
 aA (fun (y2:Bool × G.Cur)=>
 cond (y2.1)
 (some (r1.1,y2.2))
 (ob (BA.raw y2.2 (r1.1.Cands.length:Int)) fun r5=>
 ob (BA.raw r5.2 6) fun r6=>
 aA (fun (y7:G.Cur × G.Paths)=>
 some (y7.2,y7.1)) fun k8=>
 cond (r6.1==0)
 (ob (jH.raw r6.2) fun r9=>
 k8 (r9.2,(⟨r9.1,r1.1.Cands⟩:G.Paths)))
 (aA (fun (y10:G.Cur × G.Paths)=>
 k8 (y10.1,y10.2)) fun k11=>
 cond (r6.1==1)
 (ob (jH.raw r6.2) fun r12=>
 cond (decide (0≤r5.1)&&decide (r5.1<(r1.1.Cands.length:Int))) (ob (r1.1.Cands[r5.1.toNat]?) fun e13=>
 let l14:List G.Cand:=List.set r1.1.Cands r5.1.toNat (⟨r12.1,e13.Draw,e13.Until⟩:G.Cand)
 k11 (r12.2,(⟨r1.1.At,l14⟩:G.Paths))) none)
 (aA (fun (y15:G.Cur × G.Paths)=>
 k11 (y15.1,y15.2)) fun k16=>
 cond (r6.1==2)
 (ob (mB.raw r6.2 11) fun r17=>
 cond (decide (0≤r5.1)&&decide (r5.1<(r1.1.Cands.length:Int))) (ob (r1.1.Cands[r5.1.toNat]?) fun e18=>
 let l19:List G.Cand:=List.set r1.1.Cands r5.1.toNat (⟨e18.A,r17.1,e18.Until⟩:G.Cand)
 k16 (r17.2,(⟨r1.1.At,l19⟩:G.Paths))) none)
 (aA (fun (y20:G.Cur × G.Paths)=>
 k16 (y20.1,y20.2)) fun k21=>
 cond (r6.1==3)
 (ob (OA.raw r6.2 [(-1),1000006,1000007]) fun r22=>
 cond (decide (0≤r5.1)&&decide (r5.1<(r1.1.Cands.length:Int))) (ob (r1.1.Cands[r5.1.toNat]?) fun e23=>
 let l24:List G.Cand:=List.set r1.1.Cands r5.1.toNat (⟨e23.A,e23.Draw,r22.1⟩:G.Cand)
 k21 (r22.2,(⟨r1.1.At,l24⟩:G.Paths))) none)
 (aA (fun (y25:G.Paths)=>
 k21 (r6.2,y25)) fun k26=>
 cond (r6.1==4)
 (cond (decide (0≤r5.1)&&decide (r5.1<(r1.1.Cands.length:Int))) (ob (r1.1.Cands[r5.1.toNat]?) fun e27=>
 k26 (⟨e27.A,r1.1.Cands⟩:G.Paths)) none)
 (k26 r1.1))))))) fun k3=>
 cond ((r1.1.Cands.length:Int)==0)
 (k3 (true,r1.2))
 (ob (nC.raw r1.2 2) fun r4=>
 k3 (r4.1,r4.2))
def pU.raw (a0:G.Cur):Option (G.Sess × G.Cur):=
 ob (SJ.raw a0) fun r1=>
 ob (BA.raw r1.2 22) fun r2=>
 aA (fun (y3:G.Cur × G.Sess × G.Sess)=>
 some (y3.2.1,y3.1)) fun k4=>
 cond (r2.1==0)
 (ob (OA.raw r2.2 [0,10]) fun r5=>
 k4 (r5.2,(⟨r5.1,r1.1.Cn,r1.1.Sn,r1.1.C,r1.1.P,r1.1.Tick,r1.1.Last,r1.1.Dead⟩:G.Sess),(⟨0,[],[],(⟨0,[],(⟨0,[],0,(⟨0,[]⟩:G.Win)⟩:G.Ep),(⟨0,[],0,(⟨0,[]⟩:G.Win)⟩:G.Ep),false,0,[]⟩:G.Chan),(⟨(⟨0,0⟩:G.Addr),[]⟩:G.Paths),0,0,false⟩:G.Sess)))
 (aA (fun (y6:G.Cur × G.Sess × G.Sess)=>
 k4 (y6.1,y6.2.1,y6.2.2)) fun k7=>
 cond (r2.1==1)
 (ob (mB.raw r2.2 11) fun r8=>
 k7 (r8.2,(⟨r1.1.Id,r8.1,r1.1.Sn,r1.1.C,r1.1.P,r1.1.Tick,r1.1.Last,r1.1.Dead⟩:G.Sess),(⟨0,[],[],(⟨0,[],(⟨0,[],0,(⟨0,[]⟩:G.Win)⟩:G.Ep),(⟨0,[],0,(⟨0,[]⟩:G.Win)⟩:G.Ep),false,0,[]⟩:G.Chan),(⟨(⟨0,0⟩:G.Addr),[]⟩:G.Paths),0,0,false⟩:G.Sess)))
 (aA (fun (y9:G.Cur × G.Sess × G.Sess)=>
 k7 (y9.1,y9.2.1,y9.2.2)) fun k10=>
 cond (r2.1==2)
 (ob (OA.raw r2.2 [11,12]) fun r11=>
 ob (mB.raw r11.2 r11.1) fun r12=>
 k10 (r12.2,(⟨r1.1.Id,r1.1.Cn,r12.1,r1.1.C,r1.1.P,r1.1.Tick,r1.1.Last,r1.1.Dead⟩:G.Sess),(⟨0,[],[],(⟨0,[],(⟨0,[],0,(⟨0,[]⟩:G.Win)⟩:G.Ep),(⟨0,[],0,(⟨0,[]⟩:G.Win)⟩:G.Ep),false,0,[]⟩:G.Chan),(⟨(⟨0,0⟩:G.Addr),[]⟩:G.Paths),0,0,false⟩:G.Sess)))
 (aA (fun (y13:G.Cur × G.Sess × G.Sess)=>
 k10 (y13.1,y13.2.1,y13.2.2)) fun k14=>
 cond (r2.1==3)
 (ob (cP.raw r2.2) fun r15=>
 k14 (r15.2,(⟨r1.1.Id,r1.1.Cn,r1.1.Sn,r15.1,r1.1.P,r1.1.Tick,r1.1.Last,r1.1.Dead⟩:G.Sess),(⟨0,[],[],(⟨0,[],(⟨0,[],0,(⟨0,[]⟩:G.Win)⟩:G.Ep),(⟨0,[],0,(⟨0,[]⟩:G.Win)⟩:G.Ep),false,0,[]⟩:G.Chan),(⟨(⟨0,0⟩:G.Addr),[]⟩:G.Paths),0,0,false⟩:G.Sess)))
 (aA (fun (y16:G.Cur × G.Sess × G.Sess)=>
 k14 (y16.1,y16.2.1,y16.2.2)) fun k17=>
 cond (r2.1==4)
 (ob (aU.raw r2.2) fun r18=>
 k17 (r18.2,(⟨r1.1.Id,r1.1.Cn,r1.1.Sn,r1.1.C,r18.1,r1.1.Tick,r1.1.Last,r1.1.Dead⟩:G.Sess),(⟨0,[],[],(⟨0,[],(⟨0,[],0,(⟨0,[]⟩:G.Win)⟩:G.Ep),(⟨0,[],0,(⟨0,[]⟩:G.Win)⟩:G.Ep),false,0,[]⟩:G.Chan),(⟨(⟨0,0⟩:G.Addr),[]⟩:G.Paths),0,0,false⟩:G.Sess)))
 (aA (fun (y19:G.Cur × G.Sess × G.Sess)=>
 k17 (y19.1,y19.2.1,y19.2.2)) fun k20=>
 cond (r2.1==5)
 (ob (OA.raw r2.2 [(-1),1000001]) fun r21=>
 k20 (r21.2,(⟨r1.1.Id,r1.1.Cn,r1.1.Sn,r1.1.C,r1.1.P,r21.1,r1.1.Last,r1.1.Dead⟩:G.Sess),(⟨0,[],[],(⟨0,[],(⟨0,[],0,(⟨0,[]⟩:G.Win)⟩:G.Ep),(⟨0,[],0,(⟨0,[]⟩:G.Win)⟩:G.Ep),false,0,[]⟩:G.Chan),(⟨(⟨0,0⟩:G.Addr),[]⟩:G.Paths),0,0,false⟩:G.Sess)))
 (aA (fun (y22:G.Cur × G.Sess × G.Sess)=>
 k20 (y22.1,y22.2.1,y22.2.2)) fun k23=>
 cond (r2.1==6)
 (ob (OA.raw r2.2 [(-1),1000001]) fun r24=>
 k23 (r24.2,(⟨r1.1.Id,r1.1.Cn,r1.1.Sn,r1.1.C,r1.1.P,r1.1.Tick,r24.1,r1.1.Dead⟩:G.Sess),(⟨0,[],[],(⟨0,[],(⟨0,[],0,(⟨0,[]⟩:G.Win)⟩:G.Ep),(⟨0,[],0,(⟨0,[]⟩:G.Win)⟩:G.Ep),false,0,[]⟩:G.Chan),(⟨(⟨0,0⟩:G.Addr),[]⟩:G.Paths),0,0,false⟩:G.Sess)))
 (aA (fun (y25:G.Sess × G.Sess)=>
 k23 (r2.2,y25.1,y25.2)) fun k26=>
 cond (r2.1==7)
 (k26 ((⟨r1.1.Id,r1.1.Cn,r1.1.Sn,r1.1.C,r1.1.P,r1.1.Tick,r1.1.Last,true⟩:G.Sess),(⟨0,[],[],(⟨0,[],(⟨0,[],0,(⟨0,[]⟩:G.Win)⟩:G.Ep),(⟨0,[],0,(⟨0,[]⟩:G.Win)⟩:G.Ep),false,0,[]⟩:G.Chan),(⟨(⟨0,0⟩:G.Addr),[]⟩:G.Paths),0,0,false⟩:G.Sess)))
 (aA (fun (y27:Bool)=>
 cond (y27)
 (ob (RH.raw r1.1) fun r29=>
 some (r29,r2.2))
 (k26 (r1.1,(⟨0,[],[],(⟨0,[],(⟨0,[],0,(⟨0,[]⟩:G.Win)⟩:G.Ep),(⟨0,[],0,(⟨0,[]⟩:G.Win)⟩:G.Ep),false,0,[]⟩:G.Chan),(⟨(⟨0,0⟩:G.Addr),[]⟩:G.Paths),0,0,false⟩:G.Sess)))) fun k28=>
 cond (r2.1==8)
 (k28 (r2.1==8))
 (k28 (r2.1==9))))))))))
def sU.raw (a0:G.Cur):Option (G.Tab × G.Cur):=
 ob (jP.raw a0) fun r1=>
 ob (BA.raw r1.2 12) fun r2=>
 aA (fun (y3:G.Cur × G.Tab)=>
 some (y3.2,y3.1)) fun k4=>
 cond (r2.1==0)
 (ob (OA.raw r2.2 [0,1,7]) fun r5=>
 k4 (r5.2,(⟨r5.1,r1.1.L⟩:G.Tab)))
 (aA (fun (y6:G.Cur × G.Tab)=>
 k4 (y6.1,y6.2)) fun k7=>
 cond (r2.1==1)
 (ob (pU.raw r2.2) fun r8=>
 cond (decide (r1.1.L.length+[r8.1].length≤bA)) (k7 (r8.2,(⟨r1.1.Cap,r1.1.L++[r8.1]⟩:G.Tab))) none)
 (aA (fun (y9:G.Tab × G.Cur)=>
 k7 (y9.2,y9.1)) fun k10=>
 cond (r2.1==2)
 (aA (fun (y11:G.Tab)=>
 k10 (y11,r2.2)) fun k12=>
 cond (decide ((r1.1.L.length:Int)>1))
 (cond (decide (0≤(0:Int))&&decide ((0:Int)<(r1.1.L.length:Int))) (ob (r1.1.L[0]?) fun e13=>
 cond (decide (0≤(1:Int))&&decide ((1:Int)<(r1.1.L.length:Int))) (ob (r1.1.L[1]?) fun e14=>
 let l15:List G.Sess:=List.set r1.1.L 1 (⟨e14.Id,e14.Cn,e13.Sn,e14.C,e14.P,e14.Tick,e14.Last,e14.Dead⟩:G.Sess)
 k12 (⟨r1.1.Cap,l15⟩:G.Tab)) none) none)
 (k12 r1.1))
 (aA (fun (y16:G.Cur × G.Tab)=>
 k10 (y16.2,y16.1)) fun k17=>
 cond (r2.1==3)
 (ob (SJ.raw r2.2) fun r18=>
 ob (RH.raw r18.1) fun r19=>
 ob (OA.raw r18.2 [9,12,13]) fun r20=>
 aA (fun (y21:G.Cur × G.Sess × G.Tab)=>
 k17 (y21.1,y21.2.2)) fun k22=>
 tA FU (fun (x23:Int × G.Cur × G.Sess × G.Tab) k24=>
 cond (decide (x23.1>(x23.2.2.2.L.length:Int)))
 (ob (mB.raw x23.2.1 12) fun r25=>
 let x26:List G.Sess:=[(⟨x23.2.2.1.Id,x23.2.2.1.Cn,r25.1,x23.2.2.1.C,x23.2.2.1.P,x23.2.2.1.Tick,x23.2.2.1.Last,x23.2.2.1.Dead⟩:G.Sess)]
 cond (decide (x23.2.2.2.L.length+x26.length≤bA)) (k24 ((sA .i64 x23.1 1),r25.2,(⟨x23.2.2.1.Id,x23.2.2.1.Cn,r25.1,x23.2.2.1.C,x23.2.2.1.P,x23.2.2.1.Tick,x23.2.2.1.Last,x23.2.2.1.Dead⟩:G.Sess),(⟨x23.2.2.2.Cap,x23.2.2.2.L++x26⟩:G.Tab))) none)
 (k22 (x23.2.1,x23.2.2.1,x23.2.2.2))) (r20.1,r20.2,r19,r1.1))
 (k17 (r2.2,r1.1)))))
def cU.raw (a0:G.Cur):Option ((List G.Credit) × G.Cur):=
 ob (fP.raw a0 14) fun r1=>
 cond ((r1.1.length:Int)==0)
 (some (r1.1,r1.2))
 (ob (BA.raw r1.2 (r1.1.length:Int)) fun r2=>
 ob (BA.raw r2.2 10) fun r3=>
 aA (fun (y4:(List G.Credit) × G.Cur)=>
 some (y4.1,y4.2)) fun k5=>
 cond (r3.1==0)
 (ob (jH.raw r3.2) fun r6=>
 cond (decide (0≤r2.1)&&decide (r2.1<(r1.1.length:Int))) (ob (r1.1[r2.1.toNat]?) fun e7=>
 let l8:List G.Credit:=List.set r1.1 r2.1.toNat (⟨r6.1,e7.Got,e7.Sent⟩:G.Credit)
 k5 (l8,r6.2)) none)
 (aA (fun (y9:(List G.Credit) × G.Cur)=>
 k5 (y9.1,y9.2)) fun k10=>
 cond (r3.1==1)
 (ob (OA.raw r3.2 [(-1),0,1000001]) fun r11=>
 cond (decide (0≤r2.1)&&decide (r2.1<(r1.1.length:Int))) (ob (r1.1[r2.1.toNat]?) fun e12=>
 let l13:List G.Credit:=List.set r1.1 r2.1.toNat (⟨e12.A,r11.1,e12.Sent⟩:G.Credit)
 k10 (l13,r11.2)) none)
 (aA (fun (y14:(List G.Credit) × G.Cur)=>
 k10 (y14.1,y14.2)) fun k15=>
 cond (r3.1==2)
 (cond (decide (0≤r2.1)&&decide (r2.1<(r1.1.length:Int))) (ob (r1.1[r2.1.toNat]?) fun e16=>
 ob (OA.raw r3.2 [(-1),0,cA .i64 (LB .i64 3 e16.Got) 1]) fun r17=>
 cond (decide (0≤r2.1)&&decide (r2.1<(r1.1.length:Int))) (ob (r1.1[r2.1.toNat]?) fun e18=>
 let l19:List G.Credit:=List.set r1.1 r2.1.toNat (⟨e18.A,e18.Got,r17.1⟩:G.Credit)
 k15 (l19,r17.2)) none) none)
 (aA (fun (y20:(List G.Credit))=>
 k15 (y20,r3.2)) fun k21=>
 cond (r3.1==3)
 (cond (decide (0≤r2.1)&&decide (r2.1<(r1.1.length:Int))) (ob (r1.1[r2.1.toNat]?) fun e22=>
 cond (decide (r1.1.length+[e22].length≤bA)) (k21 (r1.1++[e22])) none) none)
 (k21 r1.1)))))
def tU.raw (a0:G.Cur):Option (G.Server × G.Cur):=
 ob (uU.raw a0) fun r1=>
 ob (BA.raw r1.2 16) fun r2=>
 aA (fun (y3:G.Cur × G.Server)=>
 some (y3.2,y3.1)) fun k4=>
 cond (r2.1==0)
 (ob (nU.raw r2.2 [[],[UInt8.ofNat (1:Int).toNat]] r1.1.Psks) fun r5=>
 k4 (r5.2,(⟨r5.1,r1.1.J,r1.1.D,r1.1.T,r1.1.Cr⟩:G.Server)))
 (aA (fun (y6:G.Cur × G.Server)=>
 k4 (y6.1,y6.2)) fun k7=>
 cond (r2.1==1)
 (ob (YT.raw r2.2) fun r8=>
 k7 (r8.2,(⟨r1.1.Psks,r8.1,r1.1.D,r1.1.T,r1.1.Cr⟩:G.Server)))
 (aA (fun (y9:G.Cur × G.Server)=>
 k7 (y9.1,y9.2)) fun k10=>
 cond (r2.1==2)
 (ob (OA.raw r2.2 [(-1),9999,10000,10001]) fun r11=>
 k10 (r11.2,(⟨r1.1.Psks,r1.1.J,(⟨r1.1.D.Seed,r11.1⟩:G.Dice),r1.1.T,r1.1.Cr⟩:G.Server)))
 (aA (fun (y12:G.Cur × G.Server)=>
 k10 (y12.1,y12.2)) fun k13=>
 cond (r2.1==3)
 (ob (sU.raw r2.2) fun r14=>
 k13 (r14.2,(⟨r1.1.Psks,r1.1.J,r1.1.D,r14.1,r1.1.Cr⟩:G.Server)))
 (aA (fun (y15:G.Cur × G.Server)=>
 k13 (y15.1,y15.2)) fun k16=>
 cond (r2.1==4)
 (ob (cU.raw r2.2) fun r17=>
 k16 (r17.2,(⟨r1.1.Psks,r1.1.J,r1.1.D,r1.1.T,r17.1⟩:G.Server)))
 (aA (fun (y18:G.Server × G.Cur)=>
 k16 (y18.2,y18.1)) fun k19=>
 cond (r2.1==5)
 (cond (decide (r1.1.Psks.length+([[]]:List (List UInt8)).length≤bA)) (k19 ((⟨r1.1.Psks++[[]],r1.1.J,r1.1.D,r1.1.T,r1.1.Cr⟩:G.Server),r2.2)) none)
 (aA (fun (y20:G.Cur × G.Server)=>
 k19 (y20.2,y20.1)) fun k21=>
 cond (r2.1==6)
 (ob (SJ.raw r2.2) fun r22=>
 ob (RH.raw r22.1) fun r23=>
 cond (decide (r1.1.T.L.length+[r23].length≤bA)) (k21 (r22.2,(⟨r1.1.Psks,r1.1.J,r1.1.D,(⟨r1.1.T.Cap,r1.1.T.L++[r23]⟩:G.Tab),r1.1.Cr⟩:G.Server))) none)
 (k21 (r2.2,r1.1))))))))
def XT.raw (a0:G.Cur):Option (G.Dice × G.Cur):=
 ob (BA.raw a0 32) fun r1=>
 ob (mB.raw r1.2 (cA .i64 1 r1.1)) fun r2=>
 ob (BA.raw r2.2 40) fun r3=>
 some ((⟨r2.1,r3.1⟩:G.Dice),r3.2)
def WT.raw (a0:G.Cur):Option (G.Dice × G.Cur):=
 ob (XT.raw a0) fun r1=>
 ob (BA.raw r1.2 5) fun r2=>
 aA (fun (y3:G.Cur × G.Dice)=>
 some (y3.2,y3.1)) fun k4=>
 cond (r2.1==0)
 (ob (OA.raw r2.2 [(-1),9999,10000,10001]) fun r5=>
 k4 (r5.2,(⟨r1.1.Seed,r5.1⟩:G.Dice)))
 (aA (fun (y6:G.Cur × G.Dice)=>
 k4 (y6.1,y6.2)) fun k7=>
 cond (r2.1==1)
 (ob (OA.raw r2.2 [0,33,1]) fun r8=>
 ob (mB.raw r8.2 r8.1) fun r9=>
 k7 (r9.2,(⟨r9.1,r1.1.N⟩:G.Dice)))
 (k7 (r2.2,r1.1)))
def yU.raw (a0:G.Cur):Option (G.Wire × G.Cur):=
 ob (nC.raw a0 3) fun r1=>
 cond (r1.1)
 (ob (BA.raw r1.2 3) fun r2=>
 let r3:G.Addr:=pB r2.1
 ob (BA.raw r2.2 3) fun r4=>
 let r5:G.Addr:=pB r4.1
 ob (OA.raw r4.2 [0,5,45,200]) fun r6=>
 ob (mB.raw r6.2 r6.1) fun r7=>
 some ((⟨r3,r5,r7.1⟩:G.Wire),r7.2))
 (ob (BA.raw r1.2 3) fun r8=>
 let r9:G.Addr:=pB r8.1
 ob (BA.raw r8.2 3) fun r10=>
 let r11:G.Addr:=pB r10.1
 ob (uP.raw r10.2) fun r12=>
 ob (dM.raw r9 r11 r12.1) fun r13=>
 some (r13,r12.2))
def xU.raw (a0:G.Cur):Option (G.Wire × G.Cur):=
 ob (yU.raw a0) fun r1=>
 ob (BA.raw r1.2 8) fun r2=>
 aA (fun (y3:G.Cur × G.Wire)=>
 some (y3.2,y3.1)) fun k4=>
 cond (r2.1==0)
 (ob (jH.raw r2.2) fun r5=>
 k4 (r5.2,(⟨r5.1,r1.1.To,r1.1.B⟩:G.Wire)))
 (aA (fun (y6:G.Cur × G.Wire)=>
 k4 (y6.1,y6.2)) fun k7=>
 cond (r2.1==1)
 (ob (jH.raw r2.2) fun r8=>
 k7 (r8.2,(⟨r1.1.From,r8.1,r1.1.B⟩:G.Wire)))
 (aA (fun (y9:G.Cur × G.Wire)=>
 k7 (y9.1,y9.2)) fun k10=>
 cond (r2.1==2)
 (ob (mB.raw r2.2 201) fun r11=>
 k10 (r11.2,(⟨r1.1.From,r1.1.To,r11.1⟩:G.Wire)))
 (k10 (r2.2,r1.1))))
def DU.raw (a0:G.Cur) (a1:Int):Option (G.World × G.Cur):=
 ob (rP.raw a0 a1) fun r1=>
 ob (BA.raw r1.2 30) fun r2=>
 aA (fun (y3:G.Cur × G.World)=>
 some (y3.2,y3.1)) fun k4=>
 cond (r2.1==0)
 (ob (OA.raw r2.2 [(-1),1000000,1000001,999999]) fun r5=>
 k4 (r5.2,(⟨r5.1,r1.1.Clients,r1.1.S,r1.1.D,r1.1.Seen,r1.1.Known,r1.1.Notes⟩:G.World)))
 (aA (fun (y6:G.Cur × G.World)=>
 k4 (y6.1,y6.2)) fun k7=>
 cond (r2.1==1)
 (ob (BA.raw r2.2 2) fun r8=>
 ob (iU.raw r8.2) fun r9=>
 cond (decide (0≤r8.1)&&decide (r8.1<(r1.1.Clients.length:Int))) (ob (r1.1.Clients[r8.1.toNat]?) fun e10=>
 k7 (r9.2,(⟨r1.1.Now,List.set r1.1.Clients r8.1.toNat r9.1,r1.1.S,r1.1.D,r1.1.Seen,r1.1.Known,r1.1.Notes⟩:G.World))) none)
 (aA (fun (y11:G.Cur × G.World)=>
 k7 (y11.1,y11.2)) fun k12=>
 cond (r2.1==2)
 (ob (BA.raw r2.2 2) fun r13=>
 cond (decide (0≤(0:Int))&&decide ((0:Int)≤r13.1)&&decide (r13.1≤(r1.1.Clients.length:Int))) (k12 (r13.2,(⟨r1.1.Now,List.take ((r13.1 - 0).toNat) r1.1.Clients,r1.1.S,r1.1.D,r1.1.Seen,r1.1.Known,r1.1.Notes⟩:G.World))) none)
 (aA (fun (y14:G.Cur × G.World)=>
 k12 (y14.1,y14.2)) fun k15=>
 cond (r2.1==3)
 (ob (tU.raw r2.2) fun r16=>
 k15 (r16.2,(⟨r1.1.Now,r1.1.Clients,r16.1,r1.1.D,r1.1.Seen,r1.1.Known,r1.1.Notes⟩:G.World)))
 (aA (fun (y17:G.Cur × G.World)=>
 k15 (y17.1,y17.2)) fun k18=>
 cond (r2.1==4)
 (ob (WT.raw r2.2) fun r19=>
 k18 (r19.2,(⟨r1.1.Now,r1.1.Clients,r1.1.S,r19.1,r1.1.Seen,r1.1.Known,r1.1.Notes⟩:G.World)))
 (aA (fun (y20:G.Cur × G.World)=>
 k18 (y20.1,y20.2)) fun k21=>
 cond (r2.1==5)
 (ob (xU.raw r2.2) fun r22=>
 cond (decide (r1.1.Seen.length+[r22.1].length≤bA)) (k21 (r22.2,(⟨r1.1.Now,r1.1.Clients,r1.1.S,r1.1.D,r1.1.Seen++[r22.1],r1.1.Known,r1.1.Notes⟩:G.World))) none)
 (aA (fun (y23:G.Cur × G.World)=>
 k21 (y23.1,y23.2)) fun k24=>
 cond (r2.1==6)
 (ob (OA.raw r2.2 [31,32]) fun r25=>
 ob (mB.raw r25.2 r25.1) fun r26=>
 cond (decide (r1.1.Known.length+[r26.1].length≤bA)) (k24 (r26.2,(⟨r1.1.Now,r1.1.Clients,r1.1.S,r1.1.D,r1.1.Seen,r1.1.Known++[r26.1],r1.1.Notes⟩:G.World))) none)
 (aA (fun (y27:G.Cur × G.World)=>
 k24 (y27.1,y27.2)) fun k28=>
 cond (r2.1==7)
 (ob (gP.raw r2.2) fun r29=>
 cond (decide (r1.1.Notes.length+[r29.1].length≤bA)) (k28 (r29.2,(⟨r1.1.Now,r1.1.Clients,r1.1.S,r1.1.D,r1.1.Seen,r1.1.Known,r1.1.Notes++[r29.1]⟩:G.World))) none)
 (aA (fun (y30:G.World)=>
 k28 (r2.2,y30)) fun k31=>
 cond (r2.1==8)
 (cond (decide (0≤(0:Int))&&decide ((0:Int)<(r1.1.Clients.length:Int))) (ob (r1.1.Clients[0]?) fun e32=>
 let l33:List G.Client:=List.set r1.1.Clients 0 (⟨2,e32.Psk,e32.At,e32.St,e32.Cn,e32.Fin,e32.C,e32.T,e32.R,e32.Last⟩:G.Client)
 k31 (⟨r1.1.Now,l33,r1.1.S,r1.1.D,r1.1.Seen,r1.1.Known,r1.1.Notes⟩:G.World)) none)
 (aA (fun (y34:G.World)=>
 k31 y34) fun k35=>
 cond (r2.1==9)
 (cond (decide (0≤(0:Int))&&decide ((0:Int)<(r1.1.Clients.length:Int))) (ob (r1.1.Clients[0]?) fun e36=>
 let l37:List G.Client:=List.set r1.1.Clients 0 (⟨e36.Id,[UInt8.ofNat (1:Int).toNat],e36.At,e36.St,e36.Cn,e36.Fin,e36.C,e36.T,e36.R,e36.Last⟩:G.Client)
 k35 (⟨r1.1.Now,l37,r1.1.S,r1.1.D,r1.1.Seen,r1.1.Known,r1.1.Notes⟩:G.World)) none)
 (k35 r1.1))))))))))
def WS.raw (a0:List UInt8):Option (G.World × Int):=
 ob (RJ.raw a0) fun r1=>
 ob (DU.raw r1 30) fun r2=>
 aA (fun (y3:Bool × G.Cur)=>
 aA (fun (y6:G.Cur × G.World)=>
 ob (OA.raw y6.1 [1,2,1,2,1,2,0,3]) fun r16=>
 some (y6.2,r16.1)) fun k7=>
 cond (y3.1)
 (ob (OJ.raw y3.2 0) fun r8=>
 cond (decide (0≤(0:Int))&&decide ((0:Int)<(r2.1.Clients.length:Int))) (ob (r2.1.Clients[0]?) fun e9=>
 let l10:List G.Client:=List.set r2.1.Clients 0 (⟨e9.Id,e9.Psk,e9.At,e9.St,e9.Cn,e9.Fin,r8.1,e9.T,e9.R,e9.Last⟩:G.Client)
 aA (fun (y11:G.World)=>
 k7 (r8.2,y11)) fun k12=>
 cond (decide ((r2.1.S.T.L.length:Int)>0))
 (ob (pA r2.1.S.T.L 0) fun e13=>
 cond (decide (0≤(0:Int))&&decide ((0:Int)<(l10.length:Int))) (ob (l10[0]?) fun e14=>
 let l15:List G.Client:=List.set l10 0 (⟨e14.Id,e14.Psk,e14.At,e14.St,e14.Cn,e14.Fin,(⟨e14.C.Role,e13.Sn,e14.C.Cur,e14.C.Old,e14.C.HasOld,e14.C.Until,e14.C.Next⟩:G.Chan),e14.T,e14.R,e14.Last⟩:G.Client)
 k12 (⟨r2.1.Now,l15,r2.1.S,r2.1.D,r2.1.Seen,r2.1.Known,r2.1.Notes⟩:G.World)) none)
 (k12 (⟨r2.1.Now,l10,r2.1.S,r2.1.D,r2.1.Seen,r2.1.Known,r2.1.Notes⟩:G.World))) none)
 (k7 (y3.2,r2.1))) fun k4=>
 cond ((r2.1.Clients.length:Int)==2)
 (ob (nC.raw r2.2 5) fun r5=>
 k4 (r5.1,r5.2))
 (k4 (false,r2.2))
def RN.raw (a0:List UInt8):Option Bool:=
 cond ((QP a0))
 (some true)
 (ob (XS.raw a0) fun r1=>
 ob (YS.raw a0) fun r2=>
 ob (fG r2) fun r3=>
 ob (WS.raw a0) fun r4=>
 ob (cS.raw a0 2) fun r5=>
 cond ((cA .i64 (r2.length:Int) 1)==0) none (let x6:Int:=GA .i64 r5 (cA .i64 (r2.length:Int) 1)
 aA (fun (y7:Bool)=>
 some y7) fun k8=>
 ob (mF r1.1 r1.2) fun r9=>
 ob (mF r1.1 r1.2) fun r10=>
 cond (r9==r10)
 (ob (fG r2) fun r11=>
 cond (r3==r11)
 (cond (!r3)
 (ob (xH r4.1 r4.2) fun r12=>
 ob (xH r4.1 r4.2) fun r13=>
 cond (r12==r13)
 (ob (fG []) fun r14=>
 cond (r14)
 (ob (mF r1.1 (r1.1.length:Int)) fun r15=>
 k8 (!r15))
 (k8 false))
 (k8 false))
 (cond (decide (0≤(0:Int))&&decide ((0:Int)≤x6)&&decide (x6≤(r2.length:Int))) (ob (fG (List.take ((x6 - 0).toNat) (List.drop 0 r2))) fun r16=>
 cond (r16)
 (ob (xH r4.1 r4.2) fun r17=>
 ob (xH r4.1 r4.2) fun r18=>
 cond (r17==r18)
 (ob (fG []) fun r19=>
 cond (r19)
 (ob (mF r1.1 (r1.1.length:Int)) fun r20=>
 k8 (!r20))
 (k8 false))
 (k8 false))
 (k8 false)) none))
 (k8 false))
 (k8 false)))
end
end Go.D
namespace Go.D
end Go.D
namespace Go.D
theorem zrh (i:Int):0≤(pB i).Host∧(pB i).Host≤4294967295∧0≤(pB i).Port∧(pB i).Port≤65535:=by
 unfold pB
 split
 ·simp only;omega
 ·simp only;omega
theorem zsO {p:List (List UInt8)} {s:List UInt8} {m:Int} (h:wt p+wt s+1000≤bA):Ok (mL p s m) fun r=>wt r≤wt p+wt s+32:=tD h (by
 unfold GJ
 cases cD (QB p s m)
 ·rw [cond_false];exact Nat.zero_le _
 ·rw [cond_true];exact ES p s m)
theorem zqH {c:G.Cur} {l:List Int} (h:jA c) (hl:l≠[]):Ok (OA.raw c l) fun r=>jA r.2:=(zbf h hl).mono fun r hr=>hr.2
end Go.D
namespace Go.D
theorem zgy {a0:G.Cur} (ha:jA a0):Ok (ZO.raw a0) fun r=>wt r.1≤60∧jA r.2:=by
 (try simp only [N] at ha);have hL:=qA
 unfold ZO.raw
 refine Ok.bind (qB ?_ ?_) (fun r1 MV=>?_)
 iterate 2 (·(try simp only [N]);omega)
 (try simp only [N] at MV);refine Ok.bind (qB ?_ ?_) (fun r2 VV=>?_)
 iterate 2 (·(try simp only [N]);omega)
 (try simp only [N] at VV);refine Ok.bind (EA ?_) (fun r3 YV=>?_)
 ·(try simp only [N]);omega
 (try simp only [N] at YV);refine Ok.bind (qB ?_ ?_) (fun r4 SV=>?_)
 iterate 2 (·(try simp only [N]);omega)
 (try simp only [N] at SV);refine Ok.some' ?_;(try simp only [N]);omega
theorem zgA {a0:G.Cur} {a1:Int} (ha:jA a0):Ok (bP.raw a0 a1) fun r=>jA r.2:=by
 (try simp only [N] at ha);have hL:=qA
 unfold bP.raw
 refine Ok.bind (MJ) (fun r1 MV=>?_);refine Ok.bind (EA ?_) (fun r2 VV=>?_)
 ·(try simp only [N]);omega
 (try simp only [N] at VV);refine Ok.join (fun y3:G.Timer=>True) (fun y3 cX=>?_) (fun k4 bW=>?_)
 ·refine Ok.some' ?_;(try simp only [N]);omega
 refine Ok.loopR (fun x5:Int × G.Timer=>0≤x5.1∧x5.1≤6) (fun x5=>x5.1.toNat) ?_ ?_ (fun x5 hx5 k6 kX=>?_)
 iterate 2 (·(try simp only);omega)
 (try simp only [N] at hx5);refine Ok.condR (fun h1=>?_) (fun h1=>?_)
 ·exact bW _ trivial
 (try simp only [B] at h1);refine Ok.bind (SO) (fun r7 KW=>?_);refine kX _ ?_ ?_
 iterate 2 (·(try have:=PA (a:=x5.1) (b:=1) (by omega) (by omega));(try simp only);omega)
set_option maxHeartbeats 4000000 in
theorem zua {a0:G.Cur} (ha:jA a0):Ok (jU.raw a0) fun r=>wt r.1≤20000∧jA r.2:=by
 (try simp only [N] at ha);have hL:=qA
 unfold jU.raw
 refine Ok.bind (EA ?_) (fun r1 MV=>?_)
 ·(try simp only [N]);omega
 (try simp only [N] at MV);refine Ok.bind (EA ?_) (fun r2 VV=>?_)
 ·(try simp only [N]);omega
 (try simp only [N] at VV);refine Ok.bind (qB ?_ ?_) (fun r3 YV=>?_)
 iterate 2 (·(try have:=zA (a:=1) (b:=r2.1) (by omega) (by omega));(try simp only [N]);omega)
 (try simp only [N] at YV);have N7:=zA (a:=1) (b:=r2.1) (by omega) (by omega);(try simp only [N] at N7);refine Ok.bind (EA ?_) (fun r4 SV=>?_)
 ·(try simp only [N]);omega
 (try simp only [N] at SV);have hnr:=zrh (cA .i64 1 r4.1);(try simp only [N] at hnr);refine Ok.bind (zec ?_ ?_ ?_ ?_) (fun r6 lW=>?_)
 iterate 4 (·(try have:=zA (a:=1) (b:=r4.1) (by omega) (by omega));(try have:=zA (a:=1) (b:=r1.1) (by omega) (by omega));(try simp only [N]);omega)
 (try simp only [N] at lW);refine Ok.bind (TA (0) (3) ?_ (by simp) (by decide)) (fun r7 KW=>?_)
 ·(try simp only [N]);omega
 (try simp only [N] at KW);refine Ok.cond' (fun h1=>?_) (fun h1=>?_)
 ·(try simp only [B] at h1);refine Ok.some' ?_;(try simp only [N]);omega
 (try simp only [B] at h1);refine Ok.bind (TA (0) (90) ?_ (by simp) (by decide)) (fun r8 xW=>?_)
 ·(try simp only [N]);omega
 (try simp only [N] at xW);refine Ok.bind (qB ?_ ?_) (fun r9 gX=>?_)
 iterate 2 (·(try simp only [N]);omega)
 (try simp only [N] at gX);refine Ok.bind (zge ?_ ?_) (fun r10 BW=>?_)
 iterate 2 (·(try simp only [N]);omega)
 (try simp only [N] at BW);refine Ok.bind (EA ?_) (fun r11 vW=>?_)
 ·(try simp only [N]);omega
 (try simp only [N] at vW);refine Ok.bind (SO) (fun r12 aW=>?_);refine Ok.cond' (fun h2=>?_) (fun h2=>?_)
 ·(try simp only [B] at h2);refine Ok.some' ?_;(try simp only [N]);omega
 (try simp only [B] at h2);refine Ok.bind (zgy ?_) (fun r13 IW=>?_)
 ·(try simp only [N]);omega
 (try simp only [N] at IW);refine Ok.bind (zbQ ?_ ?_) (fun r14 OW=>?_)
 iterate 2 (·(try simp only [N]);omega)
 (try simp only [N] at OW);refine Ok.cond' (fun h3=>?_) (fun h3=>?_)
 ·(try simp only [B] at h3);refine Ok.bind (EA ?_) (fun r15 tW=>?_)
  ·(try simp only [N]);omega
  (try simp only [N] at tW);refine Ok.join (fun y16:G.Client=>wt y16≤10000) (fun y16 XW=>?_) (fun k17 pW=>?_)
  ·(try simp only [N] at XW);refine Ok.join (fun y21:G.Client=>wt y21≤10000) (fun y21 z0=>?_) (fun k22 KY=>?_)
   ·(try simp only [N] at z0);refine Ok.some' ?_;(try simp only [N]);omega
   refine Ok.condR (fun h4=>?_) (fun h4=>?_)
   ·(try simp only [B] at h4);refine KY _ ?_;(try simp only [N]);omega
   (try simp only [B] at h4);refine Ok.bind (MJ) (fun r23 Z0=>?_);refine KY _ ?_;(try simp only [N]);omega
  refine Ok.loopR (fun x18:Int × G.Client=>0≤x18.1∧x18.1≤5∧wt x18.2≤10000) (fun x18=>x18.1.toNat) ?_ ?_ (fun x18 t7 k19 HW=>?_)
  iterate 2 (·(try simp only [N]);omega)
  (try simp only [N] at t7);refine Ok.condR (fun h5=>?_) (fun h5=>?_)
  ·(try simp only [B] at h5);refine pW _ ?_;(try simp only [N]);omega
  (try simp only [B] at h5);refine Ok.bind (SO) (fun r20 wX=>?_);refine HW _ ?_ ?_
  iterate 2 (·(try have:=PA (a:=x18.1) (b:=1) (by omega) (by omega));(try simp only [N]);omega)
 (try simp only [B] at h3);refine Ok.bind (wT) (fun r24 wY=>?_);(try simp only [N] at wY);refine Ok.bind (zbZ ?_ ?_ ?_) (fun r25 QW=>?_)
 iterate 3 (·(try simp only [N]);omega)
 obtain ⟨QW,hr25i⟩:=QW;(try simp only [N] at QW);refine Ok.bind (zbQ ?_ ?_) (fun r26 xY=>?_)
 iterate 2 (·(try simp only [N]);omega)
 (try simp only [N] at xY);refine Ok.bind (zC ?_) (fun r27 Q6=>?_)
 ·(try simp only [N]);omega
 (try simp only [N] at Q6);refine Ok.join (fun y28:G.Cur × G.Client=>jA y28.1∧wt y28.2≤20000) (fun y28 R3=>?_) (fun k29 oZ=>?_)
 ·(try simp only [N] at R3);refine Ok.some' ?_;(try simp only [N]);omega
 refine Ok.condR (fun h6=>?_) (fun h6=>?_)
 ·(try simp only [B] at h6);refine oZ _ ?_;(try simp only [N]);omega
 (try simp only [B] at h6);refine Ok.bind (ZT ?_) (fun r30 WZ=>?_)
 ·(try simp only [N]);omega
 (try simp only [N] at WZ);refine Ok.join (fun y31:G.Cur × G.Client=>jA y31.1∧wt y31.2≤20000) (fun y31 T3=>?_) (fun k32 qZ=>?_)
 ·(try simp only [N] at T3);refine oZ _ ?_;(try simp only [N]);omega
 refine Ok.condR (fun h7=>?_) (fun h7=>?_)
 ·(try simp only [B] at h7);refine qZ _ ?_;(try simp only [N]);omega
 (try simp only [B] at h7);refine Ok.bind (zgA ?_) (fun r33 J3=>?_)
 ·(try simp only [N]);omega
 (try simp only [N] at J3);refine Ok.join (fun y34:G.Client=>wt y34≤10000) (fun y34 B0=>?_) (fun k35 pY=>?_)
 ·(try simp only [N] at B0);refine qZ _ ?_;(try simp only [N]);omega
 refine Ok.condR (fun h8=>?_) (fun h8=>?_)
 ·(try simp only [B] at h8);refine pY _ ?_;(try simp only [N]);omega
 (try simp only [B] at h8);refine Ok.bind (MJ) (fun r36 yZ=>?_);refine pY _ ?_;(try simp only [N]);omega
theorem zgN {a0:G.Cur} (ha:jA a0):Ok (uP.raw a0) fun r=>wt r.1≤200∧jA r.2:=by
 (try simp only [N] at ha);have hL:=qA
 unfold uP.raw
 refine Ok.bind (EA ?_) (fun r1 MV=>?_)
 ·(try simp only [N]);omega
 (try simp only [N] at MV);refine Ok.join (fun y2:G.Cur × G.Frame=>jA y2.1∧wt y2.2≤200) (fun y2 WV=>?_) (fun k3 PV=>?_)
 ·(try simp only [N] at WV);refine Ok.some' ?_;(try simp only [N]);omega
 refine Ok.cond' (fun h1=>?_) (fun h1=>?_)
 ·(try simp only [B] at h1);(try have:=zA (a:=1) (b:=r1.1) (by omega) (by omega));refine Ok.bind (EA ?_) (fun r4 SV=>?_)
  ·(try simp only [N]);omega
  (try simp only [N] at SV);refine Ok.bind (qB ?_ ?_) (fun r5 TV=>?_)
  iterate 2 (·(try simp only [N]);omega)
  (try simp only [N] at TV);refine PV _ ?_;(try have:=zA (a:=1) (b:=r4.1) (by omega) (by omega));(try have:=zA (a:=1) (b:=r1.1) (by omega) (by omega));(try simp only [N]);omega
 (try simp only [B] at h1);(try have:=zA (a:=1) (b:=r1.1) (by omega) (by omega));refine Ok.joinR (fun y6:Bool=>True) (fun k7 fW=>?_) (fun y6 WW=>?_)
 ·refine Ok.cond' (fun h2=>?_) (fun h2=>?_)
  ·exact fW _ trivial
  exact fW _ trivial
 refine Ok.join (fun y8:G.Cur × G.Frame=>jA y8.1∧wt y8.2≤200) (fun y8 s4=>?_) (fun k9 LX=>?_)
 ·(try simp only [N] at s4);refine PV _ ?_;(try simp only [N]);omega
 refine Ok.cond' (fun h3=>?_) (fun h3=>?_)
 ·refine Ok.bind (qB ?_ ?_) (fun r10 BW=>?_)
  iterate 2 (·(try simp only [N]);omega)
  (try simp only [N] at BW);refine Ok.bind (qB ?_ ?_) (fun r11 vW=>?_)
  iterate 2 (·(try simp only [N]);omega)
  (try simp only [N] at vW);refine Ok.bind (TA (0) (1000000) ?_ (by simp) (by decide)) (fun r12 aW=>?_)
  ·(try simp only [N]);omega
  (try simp only [N] at aW);refine Ok.bind (qB ?_ ?_) (fun r13 IW=>?_)
  iterate 2 (·(try simp only [N]);omega)
  (try simp only [N] at IW);refine Ok.join (fun y14:G.Cur × G.Frame=>jA y14.1∧wt y14.2≤200) (fun y14 NY=>?_) (fun k15 nX=>?_)
  ·(try simp only [N] at NY);refine LX _ ?_;(try simp only [N]);omega
  refine Ok.condR (fun h4=>?_) (fun h4=>?_)
  ·(try simp only [B] at h4);(try have:=zA (a:=1) (b:=r1.1) (by omega) (by omega));refine nX _ ?_;(try have:=zA (a:=1) (b:=r1.1) (by omega) (by omega));(try simp only [N]);omega
  (try simp only [B] at h4);(try have:=zA (a:=1) (b:=r1.1) (by omega) (by omega));refine Ok.bind (EA ?_) (fun r16 qX=>?_)
  ·(try simp only [N]);omega
  (try simp only [N] at qX);refine Ok.bind (qB ?_ ?_) (fun r17 rX=>?_)
  iterate 2 (·(try simp only [N]);omega)
  (try simp only [N] at rX);refine nX _ ?_;(try have:=zA (a:=1) (b:=r16.1) (by omega) (by omega));(try have:=zA (a:=1) (b:=r1.1) (by omega) (by omega));(try simp only [N]);omega
 refine Ok.bind (qB ?_ ?_) (fun r18 sX=>?_)
 iterate 2 (·(try simp only [N]);omega)
 (try simp only [N] at sX);refine Ok.bind (TA (0) (4294967295) ?_ (by simp) (by decide)) (fun r19 fX=>?_)
 ·(try simp only [N]);omega
 (try simp only [N] at fX);refine Ok.bind (TA (0) (281474976710655) ?_ (by simp) (by decide)) (fun r20 wX=>?_)
 ·(try simp only [N]);omega
 (try simp only [N] at wX);refine Ok.bind (qB ?_ ?_) (fun r21 xZ=>?_)
 iterate 2 (·(try simp only [N]);omega)
 (try simp only [N] at xZ);refine Ok.bind (TA (0) (40) ?_ (by simp) (by decide)) (fun r22 PW=>?_)
 ·(try simp only [N]);omega
 (try simp only [N] at PW);refine Ok.joinR (fun y23:Bool=>True) (fun k24 zW=>?_) (fun y23 xX=>?_)
 ·refine Ok.cond' (fun h5=>?_) (fun h5=>?_)
  ·exact zW _ trivial
  exact zW _ trivial
 refine Ok.joinR (fun y25:Int=>0≤y25∧y25≤40) (fun k26 nZ=>?_) (fun y25 Q3=>?_)
 ·refine Ok.cond' (fun h6=>?_) (fun h6=>?_)
  ·refine nZ _ ?_;(try simp only [N]);omega
  refine nZ _ ?_;(try simp only [N]);omega
 (try simp only [N] at Q3);refine Ok.joinR (fun y27:Int=>0≤y27∧y27≤40) (fun k28 pX=>?_) (fun y27 ZY=>?_)
 ·refine Ok.cond' (fun h7=>?_) (fun h7=>?_)
  ·(try simp only [B] at h7);(try have:=zA (a:=1) (b:=r1.1) (by omega) (by omega));refine pX _ ?_;(try simp only [N]);omega
  (try simp only [B] at h7);(try have:=zA (a:=1) (b:=r1.1) (by omega) (by omega));refine pX _ ?_;(try simp only [N]);omega
 (try simp only [N] at ZY);refine Ok.bind (qB ?_ ?_) (fun r29 yY=>?_)
 iterate 2 (·(try simp only [N]);omega)
 (try simp only [N] at yY);refine LX _ ?_;(try have:=zA (a:=1) (b:=r1.1) (by omega) (by omega));(try simp only [N]);omega
theorem zuB {a0:G.Cur} (ha:jA a0):Ok (MU.raw a0) fun r=>wt r.1≤500∧jA r.2:=by
 (try simp only [N] at ha);have hL:=qA
 unfold MU.raw
 refine Ok.bind (zgN ?_) (fun r1 MV=>?_)
 ·(try simp only [N]);omega
 (try simp only [N] at MV);refine Ok.bind (EA ?_) (fun r2 VV=>?_)
 ·(try simp only [N]);omega
 (try simp only [N] at VV);refine Ok.join (fun y3:G.Cur × G.Frame=>jA y3.1∧wt y3.2≤500) (fun y3 cX=>?_) (fun k4 bW=>?_)
 ·(try simp only [N] at cX);refine Ok.some' ?_;(try simp only [N]);omega
 refine Ok.cond' (fun h1=>?_) (fun h1=>?_)
 ·(try simp only [B] at h1);refine Ok.bind (EA ?_) (fun r5 TV=>?_)
  ·(try simp only [N]);omega
  (try simp only [N] at TV);refine bW _ ?_;(try have:=PA (a:=r5.1) (b:=1) (by omega) (by omega));(try simp only [N]);omega
 (try simp only [B] at h1);refine Ok.join (fun y6:G.Cur × G.Frame=>jA y6.1∧wt y6.2≤500) (fun y6 WW=>?_) (fun k7 fW=>?_)
 ·(try simp only [N] at WW);refine bW _ ?_;(try simp only [N]);omega
 refine Ok.cond' (fun h2=>?_) (fun h2=>?_)
 ·(try simp only [B] at h2);refine Ok.bind (TA (-1) (10) ?_ (by simp) (by decide)) (fun r8 xW=>?_)
  ·(try simp only [N]);omega
  (try simp only [N] at xW);refine fW _ ?_;(try simp only [N]);omega
 (try simp only [B] at h2);refine Ok.join (fun y9:G.Cur × G.Frame=>jA y9.1∧wt y9.2≤500) (fun y9 dY=>?_) (fun k10 XV=>?_)
 ·(try simp only [N] at dY);refine fW _ ?_;(try simp only [N]);omega
 refine Ok.cond' (fun h3=>?_) (fun h3=>?_)
 ·(try simp only [B] at h3);refine Ok.bind (TA (0) (13) ?_ (by simp) (by decide)) (fun r11 vW=>?_)
  ·(try simp only [N]);omega
  (try simp only [N] at vW);refine Ok.bind (qB ?_ ?_) (fun r12 aW=>?_)
  iterate 2 (·(try simp only [N]);omega)
  (try simp only [N] at aW);refine XV _ ?_;(try simp only [N]);omega
 (try simp only [B] at h3);refine Ok.join (fun y13:G.Cur × G.Frame=>jA y13.1∧wt y13.2≤500) (fun y13 RW=>?_) (fun k14 ZV=>?_)
 ·(try simp only [N] at RW);refine XV _ ?_;(try simp only [N]);omega
 refine Ok.cond' (fun h4=>?_) (fun h4=>?_)
 ·(try simp only [B] at h4);refine Ok.bind (TA (0) (13) ?_ (by simp) (by decide)) (fun r15 tW=>?_)
  ·(try simp only [N]);omega
  (try simp only [N] at tW);refine Ok.bind (qB ?_ ?_) (fun r16 qX=>?_)
  iterate 2 (·(try simp only [N]);omega)
  (try simp only [N] at qX);refine ZV _ ?_;(try simp only [N]);omega
 (try simp only [B] at h4);refine Ok.join (fun y17:G.Cur × G.Frame=>jA y17.1∧wt y17.2≤500) (fun y17 T4=>?_) (fun k18 mZ=>?_)
 ·(try simp only [N] at T4);refine ZV _ ?_;(try simp only [N]);omega
 refine Ok.cond' (fun h5=>?_) (fun h5=>?_)
 ·(try simp only [B] at h5);refine Ok.bind (TA (-1) (1000001) ?_ (by simp) (by decide)) (fun r19 fX=>?_)
  ·(try simp only [N]);omega
  (try simp only [N] at fX);refine mZ _ ?_;(try simp only [N]);omega
 (try simp only [B] at h5);refine Ok.join (fun y20:G.Cur × G.Frame=>jA y20.1∧wt y20.2≤500) (fun y20 bX=>?_) (fun k21 sW=>?_)
 ·(try simp only [N] at bX);refine mZ _ ?_;(try simp only [N]);omega
 refine Ok.cond' (fun h6=>?_) (fun h6=>?_)
 ·(try simp only [B] at h6);refine Ok.bind (TA (0) (16) ?_ (by simp) (by decide)) (fun r22 PW=>?_)
  ·(try simp only [N]);omega
  (try simp only [N] at PW);refine Ok.bind (qB ?_ ?_) (fun r23 Z0=>?_)
  iterate 2 (·(try simp only [N]);omega)
  (try simp only [N] at Z0);refine sW _ ?_;(try simp only [N]);omega
 (try simp only [B] at h6);refine Ok.join (fun y24:G.Cur × G.Frame=>jA y24.1∧wt y24.2≤500) (fun y24 hy24=>?_) (fun k25 o9=>?_)
 ·(try simp only [N] at hy24);refine sW _ ?_;(try simp only [N]);omega
 refine Ok.cond' (fun h7=>?_) (fun h7=>?_)
 ·(try simp only [B] at h7);refine Ok.bind (TA (0) (16) ?_ (by simp) (by decide)) (fun r26 xY=>?_)
  ·(try simp only [N]);omega
  (try simp only [N] at xY);refine Ok.bind (qB ?_ ?_) (fun r27 Q6=>?_)
  iterate 2 (·(try simp only [N]);omega)
  (try simp only [N] at Q6);refine o9 _ ?_;(try simp only [N]);omega
 (try simp only [B] at h7);refine Ok.join (fun y28:G.Cur × G.Frame=>jA y28.1∧wt y28.2≤500) (fun y28 R3=>?_) (fun k29 oZ=>?_)
 ·(try simp only [N] at R3);refine o9 _ ?_;(try simp only [N]);omega
 refine Ok.cond' (fun h8=>?_) (fun h8=>?_)
 ·(try simp only [B] at h8);refine Ok.bind (TA (-1) (4294967296) ?_ (by simp) (by decide)) (fun r30 WZ=>?_)
  ·(try simp only [N]);omega
  (try simp only [N] at WZ);refine oZ _ ?_;(try simp only [N]);omega
 (try simp only [B] at h8);refine Ok.join (fun y31:G.Cur × G.Frame=>jA y31.1∧wt y31.2≤500) (fun y31 T3=>?_) (fun k32 qZ=>?_)
 ·(try simp only [N] at T3);refine oZ _ ?_;(try simp only [N]);omega
 refine Ok.cond' (fun h9=>?_) (fun h9=>?_)
 ·(try simp only [B] at h9);refine Ok.bind (TA (-1) (281474976710656) ?_ (by simp) (by decide)) (fun r33 J3=>?_)
  ·(try simp only [N]);omega
  (try simp only [N] at J3);refine qZ _ ?_;(try simp only [N]);omega
 (try simp only [B] at h9);refine Ok.join (fun y34:G.Cur × G.Frame=>jA y34.1∧wt y34.2≤500) (fun y34 B0=>?_) (fun k35 pY=>?_)
 ·(try simp only [N] at B0);refine qZ _ ?_;(try simp only [N]);omega
 refine Ok.cond' (fun oW=>?_) (fun oW=>?_)
 ·(try simp only [B] at oW);refine Ok.bind (TA (0) (41) ?_ (by simp) (by decide)) (fun r36 yZ=>?_)
  ·(try simp only [N]);omega
  (try simp only [N] at yZ);refine Ok.bind (qB ?_ ?_) (fun r37 ZZ=>?_)
  iterate 2 (·(try simp only [N]);omega)
  (try simp only [N] at ZZ);refine pY _ ?_;(try simp only [N]);omega
 (try simp only [B] at oW);refine Ok.join (fun y38:G.Cur × G.Frame=>jA y38.1∧wt y38.2≤500) (fun y38 V3=>?_) (fun k39 rZ=>?_)
 ·(try simp only [N] at V3);refine pY _ ?_;(try simp only [N]);omega
 refine Ok.condR (fun gW=>?_) (fun gW=>?_)
 ·(try simp only [B] at gW);refine rZ _ ?_;(try simp only [N]);omega
 (try simp only [B] at gW);refine Ok.bind (TA (0) (17) ?_ (by simp) (by decide)) (fun r40 K3=>?_)
 ·(try simp only [N]);omega
 (try simp only [N] at K3);refine Ok.bind (qB ?_ ?_) (fun r41 j0=>?_)
 iterate 2 (·(try simp only [N]);omega)
 (try simp only [N] at j0);refine rZ _ ?_;(try simp only [N]);omega
theorem zgz {a0:G.Cur} (ha:jA a0):Ok (aP.raw a0) fun r=>jA r.2:=by
 (try simp only [N] at ha);have hL:=qA
 unfold aP.raw
 refine Ok.bind (TA (0) (1000000) ?_ (by simp) (by decide)) (fun r1 MV=>?_)
 ·(try simp only [N]);omega
 (try simp only [N] at MV);refine Ok.bind (zgA ?_) (fun r2 VV=>?_)
 ·(try simp only [N]);omega
 (try simp only [N] at VV);refine Ok.bind (EA ?_) (fun r3 YV=>?_)
 ·(try simp only [N]);omega
 (try simp only [N] at YV);refine Ok.join (fun y4:G.Cur × G.Timer=>jA y4.1) (fun y4 aY=>?_) (fun k5 EW=>?_)
 ·(try simp only [N] at aY);refine Ok.some' ?_;(try simp only [N]);omega
 refine Ok.cond' (fun h1=>?_) (fun h1=>?_)
 ·(try simp only [B] at h1);refine Ok.bind (TA (-1) (1000009) ?_ (by simp) (by decide)) (fun r6 lW=>?_)
  ·(try simp only [N]);omega
  (try simp only [N] at lW);refine EW _ ?_;(try simp only [N]);omega
 (try simp only [B] at h1);refine Ok.join (fun y7:G.Cur × G.Timer=>jA y7.1) (fun y7 BZ=>?_) (fun k8 AX=>?_)
 ·(try simp only [N] at BZ);refine EW _ ?_;(try simp only [N]);omega
 refine Ok.cond' (fun h2=>?_) (fun h2=>?_)
 ·(try simp only [B] at h2);refine Ok.bind (TA (0) (16) ?_ (by simp) (by decide)) (fun r9 gX=>?_)
  ·(try simp only [N]);omega
  (try simp only [N] at gX);refine AX _ ?_;(try simp only [N]);omega
 (try simp only [B] at h2);refine Ok.join (fun y10:G.Cur × G.Timer=>jA y10.1) (fun y10 SW=>?_) (fun k11 uW=>?_)
 ·(try simp only [N] at SW);refine AX _ ?_;(try simp only [N]);omega
 refine Ok.cond' (fun h3=>?_) (fun h3=>?_)
 ·(try simp only [B] at h3);refine Ok.bind (TA (0) (6) ?_ (by simp) (by decide)) (fun r12 aW=>?_)
  ·(try simp only [N]);omega
  (try simp only [N] at aW);refine uW _ ?_;(try simp only [N]);omega
 (try simp only [B] at h3);refine Ok.join (fun y13:G.Timer=>True) (fun y13 RW=>?_) (fun k14 ZV=>?_)
 ·refine uW _ ?_;(try simp only [N]);omega
 refine Ok.condR (fun h4=>?_) (fun h4=>?_)
 ·exact ZV _ trivial
 exact ZV _ trivial
theorem zt8 {a0:G.Cur} (ha:jA a0):Ok (iU.raw a0) fun r=>wt r.1≤30000∧jA r.2:=by
 (try simp only [N] at ha);have hL:=qA
 unfold iU.raw
 refine Ok.bind (zua ?_) (fun r1 MV=>?_)
 ·(try simp only [N]);omega
 (try simp only [N] at MV);refine Ok.bind (EA ?_) (fun r2 VV=>?_)
 ·(try simp only [N]);omega
 (try simp only [N] at VV);refine Ok.join (fun y3:G.Cur × G.Client=>jA y3.1∧wt y3.2≤30000) (fun y3 cX=>?_) (fun k4 bW=>?_)
 ·(try simp only [N] at cX);refine Ok.some' ?_;(try simp only [N]);omega
 refine Ok.cond' (fun h1=>?_) (fun h1=>?_)
 ·(try simp only [B] at h1);refine Ok.bind (TA (0) (10) ?_ (by simp) (by decide)) (fun r5 TV=>?_)
  ·(try simp only [N]);omega
  (try simp only [N] at TV);refine bW _ ?_;(try simp only [N]);omega
 (try simp only [B] at h1);refine Ok.join (fun y6:G.Cur × G.Client=>jA y6.1∧wt y6.2≤30000) (fun y6 WW=>?_) (fun k7 fW=>?_)
 ·(try simp only [N] at WW);refine bW _ ?_;(try simp only [N]);omega
 refine Ok.cond' (fun h2=>?_) (fun h2=>?_)
 ·(try simp only [B] at h2);refine Ok.bind (TA (0) (33) ?_ (by simp) (by decide)) (fun r8 xW=>?_)
  ·(try simp only [N]);omega
  (try simp only [N] at xW);refine Ok.bind (qB ?_ ?_) (fun r9 gX=>?_)
  iterate 2 (·(try simp only [N]);omega)
  (try simp only [N] at gX);refine fW _ ?_;(try simp only [N]);omega
 (try simp only [B] at h2);refine Ok.join (fun y10:G.Cur × G.Client=>jA y10.1∧wt y10.2≤30000) (fun y10 SW=>?_) (fun k11 uW=>?_)
 ·(try simp only [N] at SW);refine fW _ ?_;(try simp only [N]);omega
 refine Ok.cond' (fun h3=>?_) (fun h3=>?_)
 ·(try simp only [B] at h3);refine Ok.bind (UJ ?_) (fun r12 aW=>?_)
  ·(try simp only [N]);omega
  (try simp only [N] at aW);refine uW _ ?_;(try simp only [N]);omega
 (try simp only [B] at h3);refine Ok.join (fun y13:G.Cur × G.Client=>jA y13.1∧wt y13.2≤30000) (fun y13 RW=>?_) (fun k14 ZV=>?_)
 ·(try simp only [N] at RW);refine uW _ ?_;(try simp only [N]);omega
 refine Ok.cond' (fun h4=>?_) (fun h4=>?_)
 ·(try simp only [B] at h4);refine Ok.bind (EA ?_) (fun r15 tW=>?_)
  ·(try simp only [N]);omega
  (try simp only [N] at tW);refine ZV _ ?_;(try have:=PA (a:=r15.1) (b:=1) (by omega) (by omega));(try simp only [N]);omega
 (try simp only [B] at h4);refine Ok.join (fun y16:G.Cur × G.Client=>jA y16.1∧wt y16.2≤30000) (fun y16 XW=>?_) (fun k17 pW=>?_)
 ·(try simp only [N] at XW);refine ZV _ ?_;(try simp only [N]);omega
 refine Ok.cond' (fun h5=>?_) (fun h5=>?_)
 ·(try simp only [B] at h5);refine Ok.bind (TA (0) (12) ?_ (by simp) (by decide)) (fun r18 sX=>?_)
  ·(try simp only [N]);omega
  (try simp only [N] at sX);refine Ok.bind (qB ?_ ?_) (fun r19 fX=>?_)
  iterate 2 (·(try simp only [N]);omega)
  (try simp only [N] at fX);refine pW _ ?_;(try simp only [N]);omega
 (try simp only [B] at h5);refine Ok.join (fun y20:G.Cur × G.Client=>jA y20.1∧wt y20.2≤30000) (fun y20 bX=>?_) (fun k21 sW=>?_)
 ·(try simp only [N] at bX);refine pW _ ?_;(try simp only [N]);omega
 refine Ok.cond' (fun h6=>?_) (fun h6=>?_)
 ·(try simp only [B] at h6);refine Ok.bind (zuB ?_) (fun r22 PW=>?_)
  ·(try simp only [N]);omega
  (try simp only [N] at PW);refine sW _ ?_;(try simp only [N]);omega
 (try simp only [B] at h6);refine Ok.join (fun y23:G.Cur × G.Client=>jA y23.1∧wt y23.2≤30000) (fun y23 xX=>?_) (fun k24 zW=>?_)
 ·(try simp only [N] at xX);refine sW _ ?_;(try simp only [N]);omega
 refine Ok.cond' (fun h7=>?_) (fun h7=>?_)
 ·(try simp only [B] at h7);refine Ok.bind (zgB ?_) (fun r25 QW=>?_)
  ·(try simp only [N]);omega
  (try simp only [N] at QW);refine zW _ ?_;(try simp only [N]);omega
 (try simp only [B] at h7);refine Ok.join (fun y26:G.Cur × G.Client=>jA y26.1∧wt y26.2≤30000) (fun y26 DY=>?_) (fun k27 oX=>?_)
 ·(try simp only [N] at DY);refine zW _ ?_;(try simp only [N]);omega
 refine Ok.cond' (fun h8=>?_) (fun h8=>?_)
 ·(try simp only [B] at h8);refine Ok.bind (zgz ?_) (fun r28 VZ=>?_)
  ·(try simp only [N]);omega
  (try simp only [N] at VZ);refine oX _ ?_;(try simp only [N]);omega
 (try simp only [B] at h8);refine Ok.join (fun y29:G.Cur × G.Client=>jA y29.1∧wt y29.2≤30000) (fun y29 S3=>?_) (fun k30 pZ=>?_)
 ·(try simp only [N] at S3);refine oX _ ?_;(try simp only [N]);omega
 refine Ok.cond' (fun h9=>?_) (fun h9=>?_)
 ·(try simp only [B] at h9);refine Ok.bind (zgz ?_) (fun r31 XZ=>?_)
  ·(try simp only [N]);omega
  (try simp only [N] at XZ);refine pZ _ ?_;(try simp only [N]);omega
 (try simp only [B] at h9);refine Ok.join (fun y32:G.Cur × G.Client=>jA y32.1∧wt y32.2≤30000) (fun y32 C1=>?_) (fun k33 oY=>?_)
 ·(try simp only [N] at C1);refine pZ _ ?_;(try simp only [N]);omega
 refine Ok.cond' (fun oW=>?_) (fun oW=>?_)
 ·(try simp only [B] at oW);refine Ok.bind (TA (-1) (1000001) ?_ (by simp) (by decide)) (fun r34 YZ=>?_)
  ·(try simp only [N]);omega
  (try simp only [N] at YZ);refine oY _ ?_;(try simp only [N]);omega
 (try simp only [B] at oW);refine Ok.join (fun y35:G.Client=>wt y35≤30000) (fun y35 U3=>?_) (fun k36 LY=>?_)
 ·(try simp only [N] at U3);refine oY _ ?_;(try simp only [N]);omega
 refine Ok.condR (fun gW=>?_) (fun gW=>?_)
 ·(try simp only [B] at gW);refine LY _ ?_;(try simp only [N]);omega
 (try simp only [B] at gW);refine LY _ ?_;(try simp only [N]);omega
theorem zum {a0:G.Cur} (ha:jA a0):Ok (wU.raw a0) fun r=>wt r.1≤200∧jA r.2:=by
 (try simp only [N] at ha);have hL:=qA
 unfold wU.raw
 refine Ok.bind (EA ?_) (fun r1 MV=>?_)
 ·(try simp only [N]);omega
 (try simp only [N] at MV);refine Ok.join (fun y2:(List (List UInt8)) × G.Cur=>wt y2.1≤200∧jA y2.2) (fun y2 WV=>?_) (fun k3 PV=>?_)
 ·(try simp only [N] at WV);refine Ok.some' ?_;(try simp only [N]);omega
 refine Ok.loopR (fun x4:(List (List UInt8)) × Int × G.Cur=>0≤x4.2.1∧x4.2.1≤3∧wt x4.1+33 *x4.2.1≤99∧jA x4.2.2) (fun x4=>x4.2.1.toNat) ?_ ?_ (fun x4 B1 k5 EW=>?_)
 iterate 2 (·(try have:=zA (a:=1) (b:=r1.1) (by omega) (by omega));(try simp only [N]);omega)
 (try simp only [N] at B1);have hxw:=CB x4.1;(try simp only [N] at hxw);refine Ok.condR (fun h1=>?_) (fun h1=>?_)
 ·(try simp only [B] at h1);refine PV _ ?_;(try simp only [N]);omega
 (try simp only [B] at h1);refine Ok.bind (EA ?_) (fun r6 lW=>?_)
 ·(try simp only [N]);omega
 (try simp only [N] at lW);refine Ok.bind (qB ?_ ?_) (fun r7 KW=>?_)
 iterate 2 (·(try have:=zA (a:=1) (b:=r6.1) (by omega) (by omega));(try simp only [N]);omega)
 (try simp only [N] at KW);have hi7:=zA (a:=1) (b:=r6.1) (by omega) (by omega);(try simp only [N] at hi7);refine Ok.guard ?_ ?_
 ·(try simp only [N]);omega
 refine EW _ ?_ ?_
 iterate 2 (·(try have:=PA (a:=x4.2.1) (b:=1) (by omega) (by omega));(try simp only [N]);omega)
theorem zgC {a0:G.Cur} (ha:jA a0):Ok (dP.raw a0) fun r=>wt r.1≤8500∧jA r.2:=by
 (try simp only [N] at ha);have hL:=qA
 unfold dP.raw
 refine Ok.bind (EA ?_) (fun r1 MV=>?_)
 ·(try simp only [N]);omega
 (try simp only [N] at MV);refine Ok.bind (zgp) (fun r3 YV=>?_);(try simp only [N] at YV);refine Ok.bind (EA ?_) (fun r4 SV=>?_)
 ·(try simp only [N]);omega
 (try simp only [N] at SV);refine Ok.bind (EA ?_) (fun r5 TV=>?_)
 ·(try simp only [N]);omega
 (try simp only [N] at TV);refine Ok.join (fun y6:G.Cur × G.Paths=>jA y6.1∧wt y6.2≤8500) (fun y6 WW=>?_) (fun k7 fW=>?_)
 ·(try simp only [N] at WW);refine Ok.some' ?_;(try simp only [N]);omega
 refine Ok.loopR (fun x8:Int × Int × G.Cur × G.Paths=>0≤x8.2.1∧x8.2.1≤5∧jA x8.2.2.1∧wt x8.2.2.2+1700 *x8.2.1≤8500) (fun x8=>x8.2.1.toNat) ?_ ?_ (fun x8 P3 k9 LX=>?_)
 iterate 2 (·(try simp only [N]);omega)
 (try simp only [N] at P3);refine Ok.condR (fun h1=>?_) (fun h1=>?_)
 ·(try simp only [B] at h1);refine fW _ ?_;(try simp only [N]);omega
 (try simp only [B] at h1);refine Ok.bind (EA ?_) (fun r10 BW=>?_)
 ·(try simp only [N]);omega
 (try simp only [N] at BW);refine Ok.bind (qB ?_ ?_) (fun r12 aW=>?_)
 iterate 2 (·(try simp only [N]);omega)
 (try simp only [N] at aW);refine Ok.bind (zgn ?_ ?_) (fun r13 IW=>?_)
 iterate 2 (·(try simp only [N]);omega)
 (try simp only [N] at IW);refine Ok.bind (EA ?_) (fun r14 OW=>?_)
 ·(try simp only [N]);omega
 (try simp only [N] at OW);refine LX _ ?_ ?_
 iterate 2 (·(try have:=PA (a:=x8.2.1) (b:=1) (by omega) (by omega));(try have:=zA (a:=x8.1) (b:=r14.1) (by omega) (by omega));(try simp only [N]);omega)
theorem qU {a0:G.Cur} (ha:jA a0):Ok (SJ.raw a0) fun r=>wt r.1≤12000∧jA r.2:=by
 (try simp only [N] at ha);have hL:=qA
 unfold SJ.raw
 refine Ok.bind (qB ?_ ?_) (fun r1 MV=>?_)
 iterate 2 (·(try simp only [N]);omega)
 (try simp only [N] at MV);refine Ok.bind (EA ?_) (fun r2 VV=>?_)
 ·(try simp only [N]);omega
 (try simp only [N] at VV);refine Ok.bind (zgy ?_) (fun r3 YV=>?_)
 ·(try simp only [N]);omega
 (try simp only [N] at YV);refine Ok.bind (zgh ?_) (fun r4 SV=>?_)
 ·(try have:=zA (a:=1) (b:=r2.1) (by omega) (by omega));(try simp only [N]);omega
 (try simp only [N] at SV);refine Ok.bind (qB ?_ ?_) (fun r5 TV=>?_)
 iterate 2 (·(try simp only [N]);omega)
 (try simp only [N] at TV);refine Ok.bind (TA (0) (90) ?_ (by simp) (by decide)) (fun r6 lW=>?_)
 ·(try simp only [N]);omega
 (try simp only [N] at lW);refine Ok.bind (EA ?_) (fun r7 KW=>?_)
 ·(try simp only [N]);omega
 (try simp only [N] at KW);refine Ok.bind (zgs ?_) (fun r9 gX=>?_)
 ·(try have:=zA (a:=1) (b:=r7.1) (by omega) (by omega));(try simp only [N]);omega
 (try simp only [N] at gX);refine Ok.bind (zC ?_) (fun r10 BW=>?_)
 ·(try simp only [N]);omega
 (try simp only [N] at BW);refine Ok.joinR (fun y11:G.Cur × G.Sess=>jA y11.1∧wt y11.2≤3000) (fun k12 wW=>?_) (fun y11 iX=>?_)
 ·refine Ok.condR (fun h1=>?_) (fun h1=>?_)
  ·(try simp only [B] at h1);refine wW _ ?_;(try simp only [N]);omega
  (try simp only [B] at h1);refine Ok.bind (ZT ?_) (fun r13 IW=>?_)
  ·(try simp only [N]);omega
  (try simp only [N] at IW);refine wW _ ?_;(try simp only [N]);omega
 (try simp only [N] at iX);refine Ok.bind (zC ?_) (fun r14 OW=>?_)
 ·(try simp only [N]);omega
 (try simp only [N] at OW);refine Ok.join (fun y15:G.Cur × G.Sess=>jA y15.1∧wt y15.2≤12000) (fun y15 YY=>?_) (fun k16 KX=>?_)
 ·(try simp only [N] at YY);refine Ok.some' ?_;(try simp only [N]);omega
 refine Ok.condR (fun h2=>?_) (fun h2=>?_)
 ·(try simp only [B] at h2);refine KX _ ?_;(try simp only [N]);omega
 (try simp only [B] at h2);refine Ok.bind (zgC ?_) (fun r17 rX=>?_)
 ·(try simp only [N]);omega
 (try simp only [N] at rX);refine KX _ ?_;(try simp only [N]);omega
theorem zgG {a0:G.Cur} (ha:jA a0):Ok (jP.raw a0) fun r=>wt r.1≤80000∧r.1.L.length≤6∧jA r.2:=by
 (try simp only [N] at ha);have hL:=qA
 unfold jP.raw
 refine Ok.bind (EA ?_) (fun r1 MV=>?_)
 ·(try simp only [N]);omega
 (try simp only [N] at MV);have ht:=zb8 (cA .i64 1 r1.1);(try simp only [N] at ht);have O3:=CB (YD (cA .i64 1 r1.1)).L;(try simp only [N] at O3);refine Ok.bind (EA ?_) (fun r3 YV=>?_)
 ·(try simp only [N]);omega
 (try simp only [N] at YV);refine Ok.join (fun y4:G.Cur × G.Tab=>jA y4.1∧wt y4.2≤80000∧y4.2.L.length≤6) (fun y4 aY=>?_) (fun k5 EW=>?_)
 ·(try simp only [N] at aY);refine Ok.some' ?_;(try simp only [N]);omega
 refine Ok.loopR (fun x6:Int × G.Cur × G.Tab=>0≤x6.1∧x6.1≤6∧jA x6.2.1∧wt x6.2.2+12001 *x6.1≤80000∧x6.2.2.L.length+x6.1≤6) (fun x6=>x6.1.toNat) ?_ ?_ (fun x6 S4 k7 fW=>?_)
 iterate 2 (·(try have:=zA (a:=1) (b:=r1.1) (by omega) (by omega));(try simp only [N]);omega)
 (try simp only [N] at S4);refine Ok.condR (fun h1=>?_) (fun h1=>?_)
 ·(try simp only [B] at h1);refine EW _ ?_;(try simp only [N]);omega
 (try simp only [B] at h1);refine Ok.bind (qU ?_) (fun r8 xW=>?_)
 ·(try simp only [N]);omega
 (try simp only [N] at xW);refine Ok.bind (zbO ?_ ?_) (fun r9 gX=>?_)
 iterate 2 (·(try simp only [N]);omega)
 (try simp only [N] at gX);refine Ok.joinR (fun y10:Bool × G.Cur=>jA y10.2∧(y10.1=false∨0<r9.1.L.length)) (fun k11 uW=>?_) (fun y10 SW=>?_)
 ·refine Ok.condR (fun h2=>?_) (fun h2=>?_)
  ·(try simp only [B] at h2);refine uW _ ?_;(try simp only [N,eq_self,true_or]);omega
  (try simp only [B] at h2);refine Ok.bind (zC ?_) (fun r12 aW=>?_)
  ·(try simp only [N]);omega
  (try simp only [N] at aW);refine uW _ ?_;(try simp only [N]);omega
 (try simp only [N] at SW);refine Ok.join (fun y13:G.Cur × G.Tab=>jA y13.1∧wt y13.2≤wt r9.1∧y13.2.L.length≤r9.1.L.length) (fun y13 RW=>?_) (fun k14 ZV=>?_)
 ·(try simp only [N] at RW);refine fW _ ?_ ?_
  iterate 2 (·(try have:=PA (a:=x6.1) (b:=1) (by omega) (by omega));(try simp only [N]);omega)
 refine Ok.condR (fun h3=>?_) (fun h3=>?_)
 ·refine ZV _ ?_;(try simp only [N]);omega
 have Y0:=SW.2.resolve_left (by rw [h3];decide);refine Ok.bind (EA ?_) (fun r15 tW=>?_)
 ·(try simp only [N]);omega
 (try simp only [N] at tW);refine Ok.chk ?_ ?_
 ·(try simp only [B]);omega
 refine Ok.bind (Ok.get ?_) (fun e16 SY=>?_)
 ·(try simp only [N,eq_self,true_or]);omega
 have lY:=wA SY;(try simp only [N] at lY);refine Ok.bind (qL ?_) (fun r17 rX=>?_)
 ·(try simp only [N]);omega
 (try simp only [N] at rX);have P4:=MM (x:=r17) SY;(try simp only [N] at P4);refine Ok.chk ?_ ?_
 ·(try simp only [B]);omega
 refine Ok.bind (Ok.get ?_) (fun e18 FY=>?_)
 ·(try simp only [N,eq_self,true_or]);omega
 have JX:=wA FY;(try simp only [N] at JX);obtain rfl:e16=e18:=Option.some.inj (SY.symm.trans FY);refine ZV _ ?_;(try simp only [N]);omega
theorem zgD {a0:G.Cur} {a1:Int} (ha:jA a0) (hb:0≤a1∧a1≤100):Ok (fP.raw a0 a1) fun r=>wt r.1≤102∧jA r.2:=by
 (try simp only [N] at ha);(try simp only [N] at hb);have hL:=qA;have hi:=zA (a:=a1) (b:=1) (by omega) (by omega);(try simp only [N] at hi)
 unfold fP.raw
 refine Ok.bind (EA ?_) (fun r1 MV=>?_)
 ·(try have:=zA (a:=a1) (b:=1) (by omega) (by omega));(try simp only [N]);omega
 (try simp only [N] at MV);refine Ok.join (fun y2:(List G.Credit) × G.Cur=>wt y2.1≤102∧jA y2.2) (fun y2 WV=>?_) (fun k3 PV=>?_)
 ·(try simp only [N] at WV);refine Ok.some' ?_;(try simp only [N]);omega
 refine Ok.loopR (fun x4:(List G.Credit) × Int × G.Cur=>0≤x4.2.1∧x4.2.1≤101∧wt x4.1+x4.2.1≤102∧jA x4.2.2) (fun x4=>x4.2.1.toNat) ?_ ?_ (fun x4 B1 k5 EW=>?_)
 iterate 2 (·(try simp only [N]);omega)
 (try simp only [N] at B1);refine Ok.condR (fun h1=>?_) (fun h1=>?_)
 ·(try simp only [B] at h1);refine PV _ ?_;(try simp only [N]);omega
 (try simp only [B] at h1);refine Ok.bind (EA ?_) (fun r6 lW=>?_)
 ·(try simp only [N]);omega
 (try simp only [N] at lW);refine Ok.bind (TA (0) (1000000) ?_ (by simp) (by decide)) (fun r8 xW=>?_)
 ·(try simp only [N]);omega
 (try simp only [N] at xW);refine Ok.bind (zgi ?_) (fun r9 gX=>?_)
 ·(try simp only [N]);omega
 (try simp only [N] at gX);refine Ok.bind (TA (0) (1000) ?_ (by simp) (by decide)) (fun r10 BW=>?_)
 ·(try simp only [N]);omega
 (try simp only [N] at BW);refine Ok.bind (zgt ?_) (fun r11 vW=>?_)
 ·(try simp only [N]);omega
 (try simp only [N] at vW);refine EW _ ?_ ?_
 iterate 2 (·(try have:=PA (a:=x4.2.1) (b:=1) (by omega) (by omega));(try simp only [N]);omega)
theorem zuk {a0:G.Cur} (ha:jA a0):Ok (uU.raw a0) fun r=>wt r.1≤700000∧jA r.2:=by
 (try simp only [N] at ha);have hL:=qA
 unfold uU.raw
 refine Ok.bind (zum ?_) (fun r1 MV=>?_)
 ·(try simp only [N]);omega
 (try simp only [N] at MV);refine Ok.bind (qB ?_ ?_) (fun r2 VV=>?_)
 iterate 2 (·(try simp only [N]);omega)
 (try simp only [N] at VV);refine Ok.bind (EA ?_) (fun r3 YV=>?_)
 ·(try simp only [N]);omega
 (try simp only [N] at YV);refine Ok.bind (zsO ?_) (fun r4 SV=>?_)
 ·(try have:=zA (a:=1) (b:=r3.1) (by omega) (by omega));(try simp only [N]);omega
 (try simp only [N] at SV);refine Ok.bind (zgG ?_) (fun r5 TV=>?_)
 ·(try simp only [N]);omega
 (try simp only [N] at TV);refine Ok.join (fun y6:G.Server=>wt y6≤600000) (fun y6 WW=>?_) (fun k7 fW=>?_)
 ·(try simp only [N] at WW);refine Ok.bind (zgD ?_ ?_) (fun r15 tW=>?_)
  iterate 2 (·(try simp only [N]);omega)
  (try simp only [N] at tW);refine Ok.bind (EA ?_) (fun r16 qX=>?_)
  ·(try simp only [N]);omega
  (try simp only [N] at qX);refine Ok.some' ?_;(try have:=zA (a:=1) (b:=r16.1) (by omega) (by omega));(try simp only [N]);omega
 refine Ok.loopR (fun x8:Int × G.Server=>0≤x8.1∧x8.1≤(r5.1.L.length:Int)∧wt x8.2≤1300+80001 *x8.1) (fun x8=>((r5.1.L.length:Int) - x8.1).toNat) ?_ ?_ (fun x8 P3 k9 LX=>?_)
 iterate 2 (·(try simp only [N]);omega)
 (try simp only [N] at P3);refine Ok.condR (fun h1=>?_) (fun h1=>?_)
 ·(try simp only [B] at h1);refine fW _ ?_;(try simp only [N]);omega
 (try simp only [B] at h1);refine Ok.chk ?_ ?_
 ·(try simp only [B]);omega
 refine Ok.bind (Ok.get ?_) (fun e10 BX=>?_)
 ·(try simp only [N]);omega
 have NW:=wA BX;(try simp only [N] at NW);refine Ok.join (fun y11:G.Server=>wt y11≤1300+80001 *x8.1+80001) (fun y11 iX=>?_) (fun k12 wW=>?_)
 ·(try simp only [N] at iX);refine LX _ ?_ ?_
  iterate 2 (·(try have:=zA (a:=x8.1) (b:=1) (by omega) (by omega));(try simp only [N]);omega)
 refine Ok.condR (fun h2=>?_) (fun h2=>?_)
 ·(try simp only [B] at h2);refine wW _ ?_;(try simp only [N]);omega
 (try simp only [B] at h2);refine Ok.chk ?_ ?_
 ·(try simp only [B]);omega
 refine Ok.bind (Ok.get ?_) (fun e13 IZ=>?_)
 ·(try simp only [N]);omega
 have iY:=wA IZ;(try simp only [N] at iY);refine Ok.bind (zbO ?_ ?_) (fun r14 OW=>?_)
 iterate 2 (·(try simp only [N]);omega)
 (try simp only [N] at OW);refine wW _ ?_;(try simp only [N]);omega
theorem zud {a0:G.Cur} {a1:List (List UInt8)} {a2:List (List UInt8)} (ha:jA a0):Ok (nU.raw a0 a1 a2) fun r=>wt r.1≤wt a1+wt a2∧jA r.2:=by
 (try simp only [N] at ha);have hL:=qA
 unfold nU.raw
 refine Ok.bind (zC ?_) (fun r1 MV=>?_)
 ·(try simp only [N]);omega
 (try simp only [N] at MV);refine Ok.cond' (fun h1=>?_) (fun h1=>?_)
 ·(try simp only [B] at h1);refine Ok.some' ?_;(try simp only [N]);omega
 (try simp only [B] at h1);refine Ok.some' ?_;(try simp only [N]);omega
theorem ztX {a0:G.Cur} (ha:jA a0):Ok (YT.raw a0) fun r=>wt r.1≤40∧jA r.2:=by
 (try simp only [N] at ha);have hL:=qA
 unfold YT.raw
 refine Ok.bind (qB ?_ ?_) (fun r1 MV=>?_)
 iterate 2 (·(try simp only [N]);omega)
 (try simp only [N] at MV);have hj:=QN r1.1;(try simp only [N] at hj);refine Ok.bind (zC ?_) (fun r3 YV=>?_)
 ·(try simp only [N]);omega
 (try simp only [N] at YV);refine Ok.join (fun y4:G.Cur × G.Jar=>jA y4.1∧wt y4.2≤40) (fun y4 aY=>?_) (fun k5 EW=>?_)
 ·(try simp only [N] at aY);refine Ok.some' ?_;(try simp only [N]);omega
 refine Ok.condR (fun h1=>?_) (fun h1=>?_)
 ·(try simp only [B] at h1);refine EW _ ?_;(try simp only [N]);omega
 (try simp only [B] at h1);refine Ok.bind (TA (0) (32) ?_ (by simp) (by decide)) (fun r6 lW=>?_)
 ·(try simp only [N]);omega
 (try simp only [N] at lW);refine Ok.bind (qB ?_ ?_) (fun r7 KW=>?_)
 iterate 2 (·(try simp only [N]);omega)
 (try simp only [N] at KW);refine EW _ ?_;(try simp only [N]);omega
theorem zt0 {a0:G.Cur} (ha:jA a0):Ok (aU.raw a0) fun r=>wt r.1≤30000∧jA r.2:=by
 (try simp only [N] at ha);have hL:=qA
 unfold aU.raw
 refine Ok.bind (zgC ?_) (fun r1 MV=>?_)
 ·(try simp only [N]);omega
 (try simp only [N] at MV);refine Ok.joinR (fun y2:Bool × G.Cur=>jA y2.2∧(y2.1=true∨0<r1.1.Cands.length)) (fun k3 PV=>?_) (fun y2 WV=>?_)
 ·refine Ok.cond' (fun h1=>?_) (fun h1=>?_)
  ·(try simp only [B] at h1);refine PV _ ?_;(try simp only [N,eq_self,true_or]);omega
  (try simp only [B] at h1);refine Ok.bind (zC ?_) (fun r4 SV=>?_)
  ·(try simp only [N]);omega
  (try simp only [N] at SV);refine PV _ ?_;(try simp only [N]);omega
 (try simp only [N] at WV);refine Ok.cond' (fun h2=>?_) (fun h2=>?_)
 ·refine Ok.some' ?_;(try simp only [N]);omega
 have Y0:=WV.2.resolve_left (by rw [h2];decide);refine Ok.bind (EA ?_) (fun r5 TV=>?_)
 ·(try simp only [N]);omega
 (try simp only [N] at TV);refine Ok.bind (EA ?_) (fun r6 lW=>?_)
 ·(try simp only [N]);omega
 (try simp only [N] at lW);refine Ok.join (fun y7:G.Cur × G.Paths=>jA y7.1∧wt y7.2≤30000) (fun y7 BZ=>?_) (fun k8 AX=>?_)
 ·(try simp only [N] at BZ);refine Ok.some' ?_;(try simp only [N]);omega
 refine Ok.cond' (fun h3=>?_) (fun h3=>?_)
 ·(try simp only [B] at h3);refine Ok.bind (UJ ?_) (fun r9 gX=>?_)
  ·(try simp only [N]);omega
  (try simp only [N] at gX);refine AX _ ?_;(try simp only [N]);omega
 (try simp only [B] at h3);refine Ok.join (fun y10:G.Cur × G.Paths=>jA y10.1∧wt y10.2≤30000) (fun y10 SW=>?_) (fun k11 uW=>?_)
 ·(try simp only [N] at SW);refine AX _ ?_;(try simp only [N]);omega
 refine Ok.cond' (fun h4=>?_) (fun h4=>?_)
 ·(try simp only [B] at h4);refine Ok.bind (UJ ?_) (fun r12 aW=>?_)
  ·(try simp only [N]);omega
  (try simp only [N] at aW);refine Ok.chk ?_ ?_
  ·(try simp only [B]);omega
  refine Ok.bind (Ok.get ?_) (fun e13 IZ=>?_)
  ·(try simp only [N,eq_self,true_or]);omega
  have iY:=wA IZ;(try simp only [N] at iY);refine uW _ ?_;have:=EB r1.1.Cands r5.1.toNat (⟨r12.1,e13.Draw,e13.Until⟩:G.Cand);(try simp only [N] at this);(try simp only [N]);omega
 (try simp only [B] at h4);refine Ok.join (fun y15:G.Cur × G.Paths=>jA y15.1∧wt y15.2≤30000) (fun y15 YY=>?_) (fun k16 KX=>?_)
 ·(try simp only [N] at YY);refine uW _ ?_;(try simp only [N]);omega
 refine Ok.cond' (fun h5=>?_) (fun h5=>?_)
 ·(try simp only [B] at h5);refine Ok.bind (qB ?_ ?_) (fun r17 rX=>?_)
  iterate 2 (·(try simp only [N]);omega)
  (try simp only [N] at rX);refine Ok.chk ?_ ?_
  ·(try simp only [B]);omega
  refine Ok.bind (Ok.get ?_) (fun e18 FY=>?_)
  ·(try simp only [N,eq_self,true_or]);omega
  have JX:=wA FY;(try simp only [N] at JX);refine KX _ ?_;have:=EB r1.1.Cands r5.1.toNat (⟨e18.A,r17.1,e18.Until⟩:G.Cand);(try simp only [N] at this);(try simp only [N]);omega
 (try simp only [B] at h5);refine Ok.join (fun y20:G.Cur × G.Paths=>jA y20.1∧wt y20.2≤30000) (fun y20 bX=>?_) (fun k21 sW=>?_)
 ·(try simp only [N] at bX);refine KX _ ?_;(try simp only [N]);omega
 refine Ok.condR (fun h6=>?_) (fun h6=>?_)
 ·(try simp only [B] at h6);refine Ok.join (fun y25:G.Paths=>wt y25≤30000) (fun y25 Q3=>?_) (fun k26 nZ=>?_)
  ·(try simp only [N] at Q3);refine sW _ ?_;(try simp only [N]);omega
  refine Ok.condR (fun h7=>?_) (fun h7=>?_)
  ·(try simp only [B] at h7);refine nZ _ ?_;(try simp only [N]);omega
  (try simp only [B] at h7);refine Ok.chk ?_ ?_
  ·(try simp only [B]);omega
  refine Ok.bind (Ok.get ?_) (fun e27 T5=>?_)
  ·(try simp only [N,eq_self,true_or]);omega
  have W1:=wA T5;(try simp only [N] at W1);refine nZ _ ?_;(try simp only [N]);omega
 (try simp only [B] at h6);refine Ok.bind (TA (-1) (1000007) ?_ (by simp) (by decide)) (fun r22 PW=>?_)
 ·(try simp only [N]);omega
 (try simp only [N] at PW);refine Ok.chk ?_ ?_
 ·(try simp only [B]);omega
 refine Ok.bind (Ok.get ?_) (fun e23 S5=>?_)
 ·(try simp only [N,eq_self,true_or]);omega
 have V1:=wA S5;(try simp only [N] at V1);refine sW _ ?_;have:=EB r1.1.Cands r5.1.toNat (⟨e23.A,e23.Draw,r22.1⟩:G.Cand);(try simp only [N] at this);(try simp only [N]);omega
theorem zue {a0:G.Cur} (ha:jA a0):Ok (pU.raw a0) fun r=>wt r.1≤100000∧jA r.2:=by
 (try simp only [N] at ha);have hL:=qA
 unfold pU.raw
 refine Ok.bind (qU ?_) (fun r1 MV=>?_)
 ·(try simp only [N]);omega
 (try simp only [N] at MV);refine Ok.bind (EA ?_) (fun r2 VV=>?_)
 ·(try simp only [N]);omega
 (try simp only [N] at VV);refine Ok.join (fun y3:G.Cur × G.Sess × G.Sess=>jA y3.1∧wt y3.2.1≤100000) (fun y3 cX=>?_) (fun k4 bW=>?_)
 ·(try simp only [N] at cX);refine Ok.some' ?_;(try simp only [N]);omega
 refine Ok.cond' (fun h1=>?_) (fun h1=>?_)
 ·(try simp only [B] at h1);refine Ok.bind (TA (0) (10) ?_ (by simp) (by decide)) (fun r5 TV=>?_)
  ·(try simp only [N]);omega
  (try simp only [N] at TV);refine bW _ ?_;(try simp only [N]);omega
 (try simp only [B] at h1);refine Ok.join (fun y6:G.Cur × G.Sess × G.Sess=>jA y6.1∧wt y6.2.1≤100000) (fun y6 WW=>?_) (fun k7 fW=>?_)
 ·(try simp only [N] at WW);refine bW _ ?_;(try simp only [N]);omega
 refine Ok.cond' (fun h2=>?_) (fun h2=>?_)
 ·(try simp only [B] at h2);refine Ok.bind (qB ?_ ?_) (fun r8 xW=>?_)
  iterate 2 (·(try simp only [N]);omega)
  (try simp only [N] at xW);refine fW _ ?_;(try simp only [N]);omega
 (try simp only [B] at h2);refine Ok.join (fun y9:G.Cur × G.Sess × G.Sess=>jA y9.1∧wt y9.2.1≤100000) (fun y9 dY=>?_) (fun k10 XV=>?_)
 ·(try simp only [N] at dY);refine fW _ ?_;(try simp only [N]);omega
 refine Ok.cond' (fun h3=>?_) (fun h3=>?_)
 ·(try simp only [B] at h3);refine Ok.bind (TA (11) (12) ?_ (by simp) (by decide)) (fun r11 vW=>?_)
  ·(try simp only [N]);omega
  (try simp only [N] at vW);refine Ok.bind (qB ?_ ?_) (fun r12 aW=>?_)
  iterate 2 (·(try simp only [N]);omega)
  (try simp only [N] at aW);refine XV _ ?_;(try simp only [N]);omega
 (try simp only [B] at h3);refine Ok.join (fun y13:G.Cur × G.Sess × G.Sess=>jA y13.1∧wt y13.2.1≤100000) (fun y13 RW=>?_) (fun k14 ZV=>?_)
 ·(try simp only [N] at RW);refine XV _ ?_;(try simp only [N]);omega
 refine Ok.cond' (fun h4=>?_) (fun h4=>?_)
 ·(try simp only [B] at h4);refine Ok.bind (zgB ?_) (fun r15 tW=>?_)
  ·(try simp only [N]);omega
  (try simp only [N] at tW);refine ZV _ ?_;(try simp only [N]);omega
 (try simp only [B] at h4);refine Ok.join (fun y16:G.Cur × G.Sess × G.Sess=>jA y16.1∧wt y16.2.1≤100000) (fun y16 XW=>?_) (fun k17 pW=>?_)
 ·(try simp only [N] at XW);refine ZV _ ?_;(try simp only [N]);omega
 refine Ok.cond' (fun h5=>?_) (fun h5=>?_)
 ·(try simp only [B] at h5);refine Ok.bind (zt0 ?_) (fun r18 sX=>?_)
  ·(try simp only [N]);omega
  (try simp only [N] at sX);refine pW _ ?_;(try simp only [N]);omega
 (try simp only [B] at h5);refine Ok.join (fun y19:G.Cur × G.Sess × G.Sess=>jA y19.1∧wt y19.2.1≤100000) (fun y19 z7=>?_) (fun k20 X2=>?_)
 ·(try simp only [N] at z7);refine pW _ ?_;(try simp only [N]);omega
 refine Ok.cond' (fun h6=>?_) (fun h6=>?_)
 ·(try simp only [B] at h6);refine Ok.bind (TA (-1) (1000001) ?_ (by simp) (by decide)) (fun r21 xZ=>?_)
  ·(try simp only [N]);omega
  (try simp only [N] at xZ);refine X2 _ ?_;(try simp only [N]);omega
 (try simp only [B] at h6);refine Ok.join (fun y22:G.Cur × G.Sess × G.Sess=>jA y22.1∧wt y22.2.1≤100000) (fun y22 A0=>?_) (fun k23 nY=>?_)
 ·(try simp only [N] at A0);refine X2 _ ?_;(try simp only [N]);omega
 refine Ok.cond' (fun h7=>?_) (fun h7=>?_)
 ·(try simp only [B] at h7);refine Ok.bind (TA (-1) (1000001) ?_ (by simp) (by decide)) (fun r24 wY=>?_)
  ·(try simp only [N]);omega
  (try simp only [N] at wY);refine nY _ ?_;(try simp only [N]);omega
 (try simp only [B] at h7);refine Ok.join (fun y25:G.Sess × G.Sess=>wt y25.1≤100000) (fun y25 Q3=>?_) (fun k26 nZ=>?_)
 ·(try simp only [N] at Q3);refine nY _ ?_;(try simp only [N]);omega
 refine Ok.cond' (fun h8=>?_) (fun h8=>?_)
 ·(try simp only [B] at h8);refine nZ _ ?_;(try simp only [N]);omega
 (try simp only [B] at h8);refine Ok.joinR (fun y27:Bool=>True) (fun k28 pX=>?_) (fun y27 ZY=>?_)
 ·refine Ok.cond' (fun h9=>?_) (fun h9=>?_)
  ·exact pX _ trivial
  exact pX _ trivial
 refine Ok.cond' (fun oW=>?_) (fun oW=>?_)
 ·refine Ok.bind (qL ?_) (fun r29 yY=>?_)
  ·(try simp only [N]);omega
  (try simp only [N] at yY);refine Ok.some' ?_;(try simp only [N]);omega
 refine nZ _ ?_;(try simp only [N]);omega
theorem zug {a0:G.Cur} (ha:jA a0):Ok (sU.raw a0) fun r=>wt r.1≤1000000∧jA r.2:=by
 (try simp only [N] at ha);have hL:=qA
 unfold sU.raw
 refine Ok.bind (zgG ?_) (fun r1 MV=>?_)
 ·(try simp only [N]);omega
 (try simp only [N] at MV);have hlw:=CB r1.1.L;(try simp only [N] at hlw);refine Ok.bind (EA ?_) (fun r2 VV=>?_)
 ·(try simp only [N]);omega
 (try simp only [N] at VV);refine Ok.join (fun y3:G.Cur × G.Tab=>jA y3.1∧wt y3.2≤1000000) (fun y3 cX=>?_) (fun k4 bW=>?_)
 ·(try simp only [N] at cX);refine Ok.some' ?_;(try simp only [N]);omega
 refine Ok.cond' (fun h1=>?_) (fun h1=>?_)
 ·(try simp only [B] at h1);refine Ok.bind (TA (0) (7) ?_ (by simp) (by decide)) (fun r5 TV=>?_)
  ·(try simp only [N]);omega
  (try simp only [N] at TV);refine bW _ ?_;(try simp only [N]);omega
 (try simp only [B] at h1);refine Ok.join (fun y6:G.Cur × G.Tab=>jA y6.1∧wt y6.2≤1000000) (fun y6 WW=>?_) (fun k7 fW=>?_)
 ·(try simp only [N] at WW);refine bW _ ?_;(try simp only [N]);omega
 refine Ok.cond' (fun h2=>?_) (fun h2=>?_)
 ·(try simp only [B] at h2);refine Ok.bind (zue ?_) (fun r8 xW=>?_)
  ·(try simp only [N]);omega
  (try simp only [N] at xW);refine Ok.guard ?_ ?_
  ·(try simp only [N]);omega
  refine fW _ ?_;(try simp only [N]);omega
 (try simp only [B] at h2);refine Ok.join (fun y9:G.Tab × G.Cur=>wt y9.1≤1000000∧jA y9.2) (fun y9 dY=>?_) (fun k10 XV=>?_)
 ·(try simp only [N] at dY);refine fW _ ?_;(try simp only [N]);omega
 refine Ok.cond' (fun h3=>?_) (fun h3=>?_)
 ·(try simp only [B] at h3);refine Ok.join (fun y11:G.Tab=>wt y11≤1000000) (fun y11 iX=>?_) (fun k12 wW=>?_)
  ·(try simp only [N] at iX);refine XV _ ?_;(try simp only [N]);omega
  refine Ok.condR (fun h4=>?_) (fun h4=>?_)
  ·(try simp only [B] at h4);refine wW _ ?_;(try simp only [N]);omega
  (try simp only [B] at h4);refine Ok.chk ?_ ?_
  ·(try simp only [B]);omega
  refine Ok.bind (Ok.get ?_) (fun e13 IZ=>?_)
  ·(try simp only [N]);omega
  have iY:=wA IZ;(try simp only [N] at iY);refine Ok.chk ?_ ?_
  ·(try simp only [B]);omega
  refine Ok.bind (Ok.get ?_) (fun e14 JZ=>?_)
  ·(try simp only [N]);omega
  have jY:=wA JZ;(try simp only [N] at jY);refine wW _ ?_;have:=EB r1.1.L 1 (⟨e14.Id,e14.Cn,e13.Sn,e14.C,e14.P,e14.Tick,e14.Last,e14.Dead⟩:G.Sess);(try simp only [N] at this);(try simp only [N]);omega
 (try simp only [B] at h3);refine Ok.join (fun y16:G.Cur × G.Tab=>jA y16.1∧wt y16.2≤1000000) (fun y16 XW=>?_) (fun k17 pW=>?_)
 ·(try simp only [N] at XW);refine XV _ ?_;(try simp only [N]);omega
 refine Ok.condR (fun h5=>?_) (fun h5=>?_)
 ·(try simp only [B] at h5);refine pW _ ?_;(try simp only [N]);omega
 (try simp only [B] at h5);refine Ok.bind (qU ?_) (fun r18 sX=>?_)
 ·(try simp only [N]);omega
 (try simp only [N] at sX);refine Ok.bind (qL ?_) (fun r19 fX=>?_)
 ·(try simp only [N]);omega
 (try simp only [N] at fX);refine Ok.bind (TA (9) (13) ?_ (by simp) (by decide)) (fun r20 wX=>?_)
 ·(try simp only [N]);omega
 (try simp only [N] at wX);refine Ok.join (fun y21:G.Cur × G.Sess × G.Tab=>jA y21.1∧wt y21.2.2≤1000000) (fun y21 z0=>?_) (fun k22 KY=>?_)
 ·(try simp only [N] at z0);refine pW _ ?_;(try simp only [N]);omega
 refine Ok.loopR (fun x23:Int × G.Cur × G.Sess × G.Tab=>0≤x23.1∧x23.1≤13∧jA x23.2.1∧wt x23.2.2.1+12 *x23.1≤20000∧wt x23.2.2.2+30000 *x23.1≤600000) (fun x23=>x23.1.toNat) ?_ ?_ (fun x23 hx23 k24 zW=>?_)
 iterate 2 (·(try simp only [N]);omega)
 (try simp only [N] at hx23);have hxw:=CB x23.2.2.2.L;(try simp only [N] at hxw);refine Ok.condR (fun h6=>?_) (fun h6=>?_)
 ·(try simp only [B] at h6);refine KY _ ?_;(try simp only [N]);omega
 (try simp only [B] at h6);refine Ok.bind (qB ?_ ?_) (fun r25 QW=>?_)
 iterate 2 (·(try simp only [N]);omega)
 (try simp only [N] at QW);refine Ok.guard ?_ ?_
 ·(try simp only [N]);omega
 refine zW _ ?_ ?_
 iterate 2 (·(try have:=PA (a:=x23.1) (b:=1) (by omega) (by omega));(try simp only [N]);omega)
theorem zt2 {a0:G.Cur} (ha:jA a0):Ok (cU.raw a0) fun r=>wt r.1≤10000∧jA r.2:=by
 (try simp only [N] at ha);have hL:=qA
 unfold cU.raw
 refine Ok.bind (zgD ?_ ?_) (fun r1 MV=>?_)
 iterate 2 (·(try simp only [N]);omega)
 (try simp only [N] at MV);have hlw:=CB r1.1;(try simp only [N] at hlw);refine Ok.cond' (fun h1=>?_) (fun h1=>?_)
 ·(try simp only [B] at h1);refine Ok.some' ?_;(try simp only [N]);omega
 (try simp only [B] at h1);refine Ok.bind (EA ?_) (fun r2 VV=>?_)
 ·(try simp only [N]);omega
 (try simp only [N] at VV);refine Ok.bind (EA ?_) (fun r3 YV=>?_)
 ·(try simp only [N]);omega
 (try simp only [N] at YV);refine Ok.join (fun y4:(List G.Credit) × G.Cur=>wt y4.1≤10000∧jA y4.2) (fun y4 aY=>?_) (fun k5 EW=>?_)
 ·(try simp only [N] at aY);refine Ok.some' ?_;(try simp only [N]);omega
 refine Ok.cond' (fun h2=>?_) (fun h2=>?_)
 ·(try simp only [B] at h2);refine Ok.bind (UJ ?_) (fun r6 lW=>?_)
  ·(try simp only [N]);omega
  (try simp only [N] at lW);refine Ok.chk ?_ ?_
  ·(try simp only [B]);omega
  refine Ok.bind (Ok.get ?_) (fun e7 H0=>?_)
  ·(try simp only [N]);omega
  have TX:=wA H0;(try simp only [N] at TX);refine EW _ ?_;have:=EB r1.1 r2.1.toNat (⟨r6.1,e7.Got,e7.Sent⟩:G.Credit);(try simp only [N] at this);(try simp only [N]);omega
 (try simp only [B] at h2);refine Ok.join (fun y9:(List G.Credit) × G.Cur=>wt y9.1≤10000∧jA y9.2) (fun y9 dY=>?_) (fun k10 XV=>?_)
 ·(try simp only [N] at dY);refine EW _ ?_;(try simp only [N]);omega
 refine Ok.cond' (fun h3=>?_) (fun h3=>?_)
 ·(try simp only [B] at h3);refine Ok.bind (TA (-1) (1000001) ?_ (by simp) (by decide)) (fun r11 vW=>?_)
  ·(try simp only [N]);omega
  (try simp only [N] at vW);refine Ok.chk ?_ ?_
  ·(try simp only [B]);omega
  refine Ok.bind (Ok.get ?_) (fun e12 Q5=>?_)
  ·(try simp only [N]);omega
  have U1:=wA Q5;(try simp only [N] at U1);refine XV _ ?_;have:=EB r1.1 r2.1.toNat (⟨e12.A,r11.1,e12.Sent⟩:G.Credit);(try simp only [N] at this);(try simp only [N]);omega
 (try simp only [B] at h3);refine Ok.join (fun y14:(List G.Credit) × G.Cur=>wt y14.1≤10000∧jA y14.2) (fun y14 NY=>?_) (fun k15 nX=>?_)
 ·(try simp only [N] at NY);refine XV _ ?_;(try simp only [N]);omega
 refine Ok.condR (fun h4=>?_) (fun h4=>?_)
 ·(try simp only [B] at h4);refine Ok.join (fun y20:(List G.Credit)=>wt y20≤10000) (fun y20 bX=>?_) (fun k21 sW=>?_)
  ·(try simp only [N] at bX);refine nX _ ?_;(try simp only [N]);omega
  refine Ok.condR (fun h5=>?_) (fun h5=>?_)
  ·(try simp only [B] at h5);refine sW _ ?_;(try simp only [N]);omega
  (try simp only [B] at h5);refine Ok.chk ?_ ?_
  ·(try simp only [B]);omega
  refine Ok.bind (Ok.get ?_) (fun e22 he22=>?_)
  ·(try simp only [N]);omega
  have p8:=wA he22;(try simp only [N] at p8);refine Ok.guard ?_ ?_
  ·(try simp only [N]);omega
  refine sW _ ?_;(try simp only [N]);omega
 (try simp only [B] at h4);refine Ok.chk ?_ ?_
 ·(try simp only [B]);omega
 refine Ok.bind (Ok.get ?_) (fun e16 SY=>?_)
 ·(try simp only [N]);omega
 have lY:=wA SY;(try simp only [N] at lY);refine Ok.bind (zqH ?_ (by simp)) (fun r17 rX=>?_)
 ·(try simp only [N]);omega
 (try simp only [N] at rX);refine Ok.chk ?_ ?_
 ·(try simp only [B]);omega
 refine Ok.bind (Ok.get ?_) (fun e18 FY=>?_)
 ·(try simp only [N]);omega
 have JX:=wA FY;(try simp only [N] at JX);refine nX _ ?_;have:=EB r1.1 r2.1.toNat (⟨e18.A,e18.Got,r17.1⟩:G.Credit);(try simp only [N] at this);(try simp only [N]);omega
theorem ztW {a0:G.Cur} (ha:jA a0):Ok (XT.raw a0) fun r=>wt r.1≤40∧jA r.2:=by
 (try simp only [N] at ha);have hL:=qA
 unfold XT.raw
 refine Ok.bind (EA ?_) (fun r1 MV=>?_)
 ·(try simp only [N]);omega
 (try simp only [N] at MV);refine Ok.bind (qB ?_ ?_) (fun r2 VV=>?_)
 iterate 2 (·(try have:=zA (a:=1) (b:=r1.1) (by omega) (by omega));(try simp only [N]);omega)
 (try simp only [N] at VV);have lX:=zA (a:=1) (b:=r1.1) (by omega) (by omega);(try simp only [N] at lX);refine Ok.bind (EA ?_) (fun r3 YV=>?_)
 ·(try simp only [N]);omega
 (try simp only [N] at YV);refine Ok.some' ?_;(try simp only [N]);omega
theorem ztV {a0:G.Cur} (ha:jA a0):Ok (WT.raw a0) fun r=>wt r.1≤100∧jA r.2:=by
 (try simp only [N] at ha);have hL:=qA
 unfold WT.raw
 refine Ok.bind (ztW ?_) (fun r1 MV=>?_)
 ·(try simp only [N]);omega
 (try simp only [N] at MV);refine Ok.bind (EA ?_) (fun r2 VV=>?_)
 ·(try simp only [N]);omega
 (try simp only [N] at VV);refine Ok.join (fun y3:G.Cur × G.Dice=>jA y3.1∧wt y3.2≤100) (fun y3 cX=>?_) (fun k4 bW=>?_)
 ·(try simp only [N] at cX);refine Ok.some' ?_;(try simp only [N]);omega
 refine Ok.cond' (fun h1=>?_) (fun h1=>?_)
 ·(try simp only [B] at h1);refine Ok.bind (TA (-1) (10001) ?_ (by simp) (by decide)) (fun r5 TV=>?_)
  ·(try simp only [N]);omega
  (try simp only [N] at TV);refine bW _ ?_;(try simp only [N]);omega
 (try simp only [B] at h1);refine Ok.join (fun y6:G.Cur × G.Dice=>jA y6.1∧wt y6.2≤100) (fun y6 WW=>?_) (fun k7 fW=>?_)
 ·(try simp only [N] at WW);refine bW _ ?_;(try simp only [N]);omega
 refine Ok.condR (fun h2=>?_) (fun h2=>?_)
 ·(try simp only [B] at h2);refine fW _ ?_;(try simp only [N]);omega
 (try simp only [B] at h2);refine Ok.bind (TA (0) (33) ?_ (by simp) (by decide)) (fun r8 xW=>?_)
 ·(try simp only [N]);omega
 (try simp only [N] at xW);refine Ok.bind (qB ?_ ?_) (fun r9 gX=>?_)
 iterate 2 (·(try simp only [N]);omega)
 (try simp only [N] at gX);refine fW _ ?_;(try simp only [N]);omega
theorem zui {a0:G.Cur} (ha:jA a0):Ok (tU.raw a0) fun r=>wt r.1≤3000000∧jA r.2:=by
 (try simp only [N] at ha);have hL:=qA
 unfold tU.raw
 refine Ok.bind (zuk ?_) (fun r1 MV=>?_)
 ·(try simp only [N]);omega
 (try simp only [N] at MV);have RZ:=CB r1.1.Psks;(try simp only [N] at RZ);have O3:=CB r1.1.T.L;(try simp only [N] at O3);refine Ok.bind (EA ?_) (fun r2 VV=>?_)
 ·(try simp only [N]);omega
 (try simp only [N] at VV);refine Ok.join (fun y3:G.Cur × G.Server=>jA y3.1∧wt y3.2≤3000000) (fun y3 cX=>?_) (fun k4 bW=>?_)
 ·(try simp only [N] at cX);refine Ok.some' ?_;(try simp only [N]);omega
 refine Ok.cond' (fun h1=>?_) (fun h1=>?_)
 ·(try simp only [B] at h1);refine Ok.bind (zud ?_) (fun r5 TV=>?_)
  ·(try simp only [N]);omega
  (try simp only [N] at TV);refine bW _ ?_;(try simp only [N]);omega
 (try simp only [B] at h1);refine Ok.join (fun y6:G.Cur × G.Server=>jA y6.1∧wt y6.2≤3000000) (fun y6 WW=>?_) (fun k7 fW=>?_)
 ·(try simp only [N] at WW);refine bW _ ?_;(try simp only [N]);omega
 refine Ok.cond' (fun h2=>?_) (fun h2=>?_)
 ·(try simp only [B] at h2);refine Ok.bind (ztX ?_) (fun r8 xW=>?_)
  ·(try simp only [N]);omega
  (try simp only [N] at xW);refine fW _ ?_;(try simp only [N]);omega
 (try simp only [B] at h2);refine Ok.join (fun y9:G.Cur × G.Server=>jA y9.1∧wt y9.2≤3000000) (fun y9 dY=>?_) (fun k10 XV=>?_)
 ·(try simp only [N] at dY);refine fW _ ?_;(try simp only [N]);omega
 refine Ok.cond' (fun h3=>?_) (fun h3=>?_)
 ·(try simp only [B] at h3);refine Ok.bind (TA (-1) (10001) ?_ (by simp) (by decide)) (fun r11 vW=>?_)
  ·(try simp only [N]);omega
  (try simp only [N] at vW);refine XV _ ?_;(try simp only [N]);omega
 (try simp only [B] at h3);refine Ok.join (fun y12:G.Cur × G.Server=>jA y12.1∧wt y12.2≤3000000) (fun y12 OX=>?_) (fun k13 GW=>?_)
 ·(try simp only [N] at OX);refine XV _ ?_;(try simp only [N]);omega
 refine Ok.cond' (fun h4=>?_) (fun h4=>?_)
 ·(try simp only [B] at h4);refine Ok.bind (zug ?_) (fun r14 OW=>?_)
  ·(try simp only [N]);omega
  (try simp only [N] at OW);refine GW _ ?_;(try simp only [N]);omega
 (try simp only [B] at h4);refine Ok.join (fun y15:G.Cur × G.Server=>jA y15.1∧wt y15.2≤3000000) (fun y15 YY=>?_) (fun k16 KX=>?_)
 ·(try simp only [N] at YY);refine GW _ ?_;(try simp only [N]);omega
 refine Ok.cond' (fun h5=>?_) (fun h5=>?_)
 ·(try simp only [B] at h5);refine Ok.bind (zt2 ?_) (fun r17 rX=>?_)
  ·(try simp only [N]);omega
  (try simp only [N] at rX);refine KX _ ?_;(try simp only [N]);omega
 (try simp only [B] at h5);refine Ok.join (fun y18:G.Server × G.Cur=>wt y18.1≤3000000∧jA y18.2) (fun y18 XX=>?_) (fun k19 HW=>?_)
 ·(try simp only [N] at XX);refine KX _ ?_;(try simp only [N]);omega
 refine Ok.cond' (fun h6=>?_) (fun h6=>?_)
 ·(try simp only [B] at h6);refine Ok.guard ?_ ?_
  ·(try simp only [N]);omega
  refine HW _ ?_;(try simp only [N]);omega
 (try simp only [B] at h6);refine Ok.join (fun y20:G.Cur × G.Server=>jA y20.1∧wt y20.2≤3000000) (fun y20 bX=>?_) (fun k21 sW=>?_)
 ·(try simp only [N] at bX);refine HW _ ?_;(try simp only [N]);omega
 refine Ok.condR (fun h7=>?_) (fun h7=>?_)
 ·(try simp only [B] at h7);refine sW _ ?_;(try simp only [N]);omega
 (try simp only [B] at h7);refine Ok.bind (qU ?_) (fun r22 PW=>?_)
 ·(try simp only [N]);omega
 (try simp only [N] at PW);refine Ok.bind (qL ?_) (fun r23 Z0=>?_)
 ·(try simp only [N]);omega
 (try simp only [N] at Z0);refine Ok.guard ?_ ?_
 ·(try simp only [N]);omega
 refine sW _ ?_;(try simp only [N]);omega
theorem zup {a0:G.Cur} (ha:jA a0):Ok (yU.raw a0) fun r=>wt r.1≤300∧jA r.2:=by
 (try simp only [N] at ha);have hL:=qA
 unfold yU.raw
 refine Ok.bind (zC ?_) (fun r1 MV=>?_)
 ·(try simp only [N]);omega
 (try simp only [N] at MV);refine Ok.condR (fun h1=>?_) (fun h1=>?_)
 ·(try simp only [B] at h1);refine Ok.bind (EA ?_) (fun r8 xW=>?_)
  ·(try simp only [N]);omega
  (try simp only [N] at xW);refine Ok.bind (EA ?_) (fun r10 BW=>?_)
  ·(try simp only [N]);omega
  (try simp only [N] at BW);refine Ok.bind (zgN ?_) (fun r12 aW=>?_)
  ·(try simp only [N]);omega
  (try simp only [N] at aW);refine Ok.bind (zb0 ?_) (fun r13 IW=>?_)
  ·(try simp only [N]);omega
  (try simp only [N] at IW);refine Ok.some' ?_;(try simp only [N]);omega
 (try simp only [B] at h1);refine Ok.bind (EA ?_) (fun r2 VV=>?_)
 ·(try simp only [N]);omega
 (try simp only [N] at VV);refine Ok.bind (EA ?_) (fun r4 SV=>?_)
 ·(try simp only [N]);omega
 (try simp only [N] at SV);refine Ok.bind (TA (0) (200) ?_ (by simp) (by decide)) (fun r6 lW=>?_)
 ·(try simp only [N]);omega
 (try simp only [N] at lW);refine Ok.bind (qB ?_ ?_) (fun r7 KW=>?_)
 iterate 2 (·(try simp only [N]);omega)
 (try simp only [N] at KW);refine Ok.some' ?_;(try simp only [N]);omega
theorem zun {a0:G.Cur} (ha:jA a0):Ok (xU.raw a0) fun r=>wt r.1≤600∧jA r.2:=by
 (try simp only [N] at ha);have hL:=qA
 unfold xU.raw
 refine Ok.bind (zup ?_) (fun r1 MV=>?_)
 ·(try simp only [N]);omega
 (try simp only [N] at MV);refine Ok.bind (EA ?_) (fun r2 VV=>?_)
 ·(try simp only [N]);omega
 (try simp only [N] at VV);refine Ok.join (fun y3:G.Cur × G.Wire=>jA y3.1∧wt y3.2≤600) (fun y3 cX=>?_) (fun k4 bW=>?_)
 ·(try simp only [N] at cX);refine Ok.some' ?_;(try simp only [N]);omega
 refine Ok.cond' (fun h1=>?_) (fun h1=>?_)
 ·(try simp only [B] at h1);refine Ok.bind (UJ ?_) (fun r5 TV=>?_)
  ·(try simp only [N]);omega
  (try simp only [N] at TV);refine bW _ ?_;(try simp only [N]);omega
 (try simp only [B] at h1);refine Ok.join (fun y6:G.Cur × G.Wire=>jA y6.1∧wt y6.2≤600) (fun y6 WW=>?_) (fun k7 fW=>?_)
 ·(try simp only [N] at WW);refine bW _ ?_;(try simp only [N]);omega
 refine Ok.cond' (fun h2=>?_) (fun h2=>?_)
 ·(try simp only [B] at h2);refine Ok.bind (UJ ?_) (fun r8 xW=>?_)
  ·(try simp only [N]);omega
  (try simp only [N] at xW);refine fW _ ?_;(try simp only [N]);omega
 (try simp only [B] at h2);refine Ok.join (fun y9:G.Cur × G.Wire=>jA y9.1∧wt y9.2≤600) (fun y9 dY=>?_) (fun k10 XV=>?_)
 ·(try simp only [N] at dY);refine fW _ ?_;(try simp only [N]);omega
 refine Ok.condR (fun h3=>?_) (fun h3=>?_)
 ·(try simp only [B] at h3);refine XV _ ?_;(try simp only [N]);omega
 (try simp only [B] at h3);refine Ok.bind (qB ?_ ?_) (fun r11 vW=>?_)
 iterate 2 (·(try simp only [N]);omega)
 (try simp only [N] at vW);refine XV _ ?_;(try simp only [N]);omega
end Go.D
namespace Go.D
theorem zuu {a0:G.Cur} {a1:Int} (ha:jA a0) (hb:a1≤40):Ok (DU.raw a0 a1) fun r=>wt r.1≤900000000∧jA r.2:=by
 (try simp only [N] at ha);(try simp only [N] at hb);have hL:=qA
 unfold DU.raw
 refine Ok.bind (zgL ?_ ?_) (fun r1 MV=>?_)
 iterate 2 (·(try simp only [N]);omega)
 (try simp only [N] at MV);have n4:=CB r1.1.Seen;(try simp only [N] at n4);have b5:=CB r1.1.Known;(try simp only [N] at b5);have mW:=CB r1.1.Notes;(try simp only [N] at mW);refine Ok.bind (EA ?_) (fun r2 VV=>?_)
 ·(try simp only [N]);omega
 (try simp only [N] at VV);refine Ok.join (fun y3:G.Cur × G.World=>jA y3.1∧wt y3.2≤900000000) (fun y3 cX=>?_) (fun k4 bW=>?_)
 ·(try simp only [N] at cX);refine Ok.some' ?_;(try simp only [N]);omega
 refine Ok.cond' (fun h1=>?_) (fun h1=>?_)
 ·(try simp only [B] at h1);refine Ok.bind (TA (-1) (1000001) ?_ (by simp) (by decide)) (fun r5 TV=>?_)
  ·(try simp only [N]);omega
  (try simp only [N] at TV);refine bW _ ?_;(try simp only [N]);omega
 (try simp only [B] at h1);refine Ok.join (fun y6:G.Cur × G.World=>jA y6.1∧wt y6.2≤900000000) (fun y6 WW=>?_) (fun k7 fW=>?_)
 ·(try simp only [N] at WW);refine bW _ ?_;(try simp only [N]);omega
 refine Ok.cond' (fun h2=>?_) (fun h2=>?_)
 ·(try simp only [B] at h2);refine Ok.bind (EA ?_) (fun r8 xW=>?_)
  ·(try simp only [N]);omega
  (try simp only [N] at xW);refine Ok.bind (zt8 ?_) (fun r9 gX=>?_)
  ·(try simp only [N]);omega
  (try simp only [N] at gX);refine Ok.chk ?_ ?_
  ·(try simp only [B]);omega
  refine Ok.bind (Ok.get ?_) (fun e10 BX=>?_)
  ·(try simp only [N]);omega
  have NW:=wA BX;(try simp only [N] at NW);refine fW _ ?_;have:=EB r1.1.Clients r8.1.toNat r9.1;(try simp only [N] at this);(try simp only [N]);omega
 (try simp only [B] at h2);refine Ok.join (fun y11:G.Cur × G.World=>jA y11.1∧wt y11.2≤900000000) (fun y11 iX=>?_) (fun k12 wW=>?_)
 ·(try simp only [N] at iX);refine fW _ ?_;(try simp only [N]);omega
 refine Ok.cond' (fun h3=>?_) (fun h3=>?_)
 ·(try simp only [B] at h3);refine Ok.bind (EA ?_) (fun r13 IW=>?_)
  ·(try simp only [N]);omega
  (try simp only [N] at IW);refine Ok.chk ?_ ?_
  ·(try simp only [B]);omega
  refine wW _ ?_;have:=FE r1.1.Clients ((r13.1 - 0).toNat);(try simp only [N] at this);(try simp only [N]);omega
 (try simp only [B] at h3);refine Ok.join (fun y14:G.Cur × G.World=>jA y14.1∧wt y14.2≤900000000) (fun y14 NY=>?_) (fun k15 nX=>?_)
 ·(try simp only [N] at NY);refine wW _ ?_;(try simp only [N]);omega
 refine Ok.cond' (fun h4=>?_) (fun h4=>?_)
 ·(try simp only [B] at h4);refine Ok.bind (zui ?_) (fun r16 qX=>?_)
  ·(try simp only [N]);omega
  (try simp only [N] at qX);refine nX _ ?_;(try simp only [N]);omega
 (try simp only [B] at h4);refine Ok.join (fun y17:G.Cur × G.World=>jA y17.1∧wt y17.2≤900000000) (fun y17 T4=>?_) (fun k18 mZ=>?_)
 ·(try simp only [N] at T4);refine nX _ ?_;(try simp only [N]);omega
 refine Ok.cond' (fun h5=>?_) (fun h5=>?_)
 ·(try simp only [B] at h5);refine Ok.bind (ztV ?_) (fun r19 fX=>?_)
  ·(try simp only [N]);omega
  (try simp only [N] at fX);refine mZ _ ?_;(try simp only [N]);omega
 (try simp only [B] at h5);refine Ok.join (fun y20:G.Cur × G.World=>jA y20.1∧wt y20.2≤900000000) (fun y20 bX=>?_) (fun k21 sW=>?_)
 ·(try simp only [N] at bX);refine mZ _ ?_;(try simp only [N]);omega
 refine Ok.cond' (fun h6=>?_) (fun h6=>?_)
 ·(try simp only [B] at h6);refine Ok.bind (zun ?_) (fun r22 PW=>?_)
  ·(try simp only [N]);omega
  (try simp only [N] at PW);refine Ok.guard ?_ ?_
  ·(try simp only [N]);omega
  refine sW _ ?_;(try simp only [N]);omega
 (try simp only [B] at h6);refine Ok.join (fun y23:G.Cur × G.World=>jA y23.1∧wt y23.2≤900000000) (fun y23 xX=>?_) (fun k24 zW=>?_)
 ·(try simp only [N] at xX);refine sW _ ?_;(try simp only [N]);omega
 refine Ok.cond' (fun h7=>?_) (fun h7=>?_)
 ·(try simp only [B] at h7);refine Ok.bind (TA (31) (32) ?_ (by simp) (by decide)) (fun r25 QW=>?_)
  ·(try simp only [N]);omega
  (try simp only [N] at QW);refine Ok.bind (qB ?_ ?_) (fun r26 xY=>?_)
  iterate 2 (·(try simp only [N]);omega)
  (try simp only [N] at xY);refine Ok.guard ?_ ?_
  ·(try simp only [N]);omega
  refine zW _ ?_;(try simp only [N]);omega
 (try simp only [B] at h7);refine Ok.join (fun y27:G.Cur × G.World=>jA y27.1∧wt y27.2≤900000000) (fun y27 ZY=>?_) (fun k28 pX=>?_)
 ·(try simp only [N] at ZY);refine zW _ ?_;(try simp only [N]);omega
 refine Ok.cond' (fun h8=>?_) (fun h8=>?_)
 ·(try simp only [B] at h8);refine Ok.bind (zgE ?_) (fun r29 yY=>?_)
  ·(try simp only [N]);omega
  (try simp only [N] at yY);refine Ok.guard ?_ ?_
  ·(try simp only [N]);omega
  refine pX _ ?_;(try simp only [N]);omega
 (try simp only [B] at h8);refine Ok.join (fun y30:G.World=>wt y30≤900000000) (fun y30 A7=>?_) (fun k31 Y2=>?_)
 ·(try simp only [N] at A7);refine pX _ ?_;(try simp only [N]);omega
 refine Ok.cond' (fun h9=>?_) (fun h9=>?_)
 ·(try simp only [B] at h9);refine Ok.chk ?_ ?_
  ·(try simp only [B]);omega
  refine Ok.bind (Ok.get ?_) (fun e32 KZ=>?_)
  ·(try simp only [N]);omega
  have iZ:=wA KZ;(try simp only [N] at iZ);refine Y2 _ ?_;have:=EB r1.1.Clients 0 (⟨2,e32.Psk,e32.At,e32.St,e32.Cn,e32.Fin,e32.C,e32.T,e32.R,e32.Last⟩:G.Client);(try simp only [N] at this);(try simp only [N]);omega
 (try simp only [B] at h9);refine Ok.join (fun y34:G.World=>wt y34≤900000000) (fun y34 B0=>?_) (fun k35 pY=>?_)
 ·(try simp only [N] at B0);refine Y2 _ ?_;(try simp only [N]);omega
 refine Ok.condR (fun oW=>?_) (fun oW=>?_)
 ·(try simp only [B] at oW);refine pY _ ?_;(try simp only [N]);omega
 (try simp only [B] at oW);refine Ok.chk ?_ ?_
 ·(try simp only [B]);omega
 refine Ok.bind (Ok.get ?_) (fun e36 W5=>?_)
 ·(try simp only [N]);omega
 have z2:=wA W5;(try simp only [N] at z2);refine pY _ ?_;have:=EB r1.1.Clients 0 (⟨e36.Id,[UInt8.ofNat (1:Int).toNat],e36.At,e36.St,e36.Cn,e36.Fin,e36.C,e36.T,e36.R,e36.Last⟩:G.Client);(try simp only [N] at this);(try simp only [N]);omega
theorem ztb {a0:List UInt8} (ha:a0.length≤1048576):Ok (WS.raw a0) fun r=>wt r.1≤10000000000:=by
 (try simp only [N] at ha);have hL:=qA
 unfold WS.raw
 refine Ok.bind (zb1 ?_) (fun r1 MV=>?_)
 ·(try simp only [N,eq_self,true_or]);omega
 (try simp only [N] at MV);refine Ok.bind (zuu ?_ ?_) (fun r2 VV=>?_)
 iterate 2 (·(try simp only [N]);omega)
 (try simp only [N] at VV);have n4:=CB r2.1.S.T.L;(try simp only [N] at n4);refine Ok.joinR (fun y3:Bool × G.Cur=>jA y3.2∧(y3.1=false∨0<r2.1.Clients.length)) (fun k4 bW=>?_) (fun y3 cX=>?_)
 ·refine Ok.condR (fun h1=>?_) (fun h1=>?_)
  ·(try simp only [B] at h1);refine bW _ ?_;(try simp only [N,eq_self,true_or]);omega
  (try simp only [B] at h1);refine Ok.bind (zC ?_) (fun r5 TV=>?_)
  ·(try simp only [N]);omega
  (try simp only [N] at TV);refine bW _ ?_;(try simp only [N]);omega
 (try simp only [N] at cX);refine Ok.join (fun y6:G.Cur × G.World=>jA y6.1∧wt y6.2≤10000000000) (fun y6 WW=>?_) (fun k7 fW=>?_)
 ·(try simp only [N] at WW);refine Ok.bind (TA (0) (3) ?_ (by simp) (by decide)) (fun r16 qX=>?_)
  ·(try simp only [N]);omega
  (try simp only [N] at qX);refine Ok.some' ?_;(try simp only [N]);omega
 refine Ok.condR (fun h2=>?_) (fun h2=>?_)
 ·refine fW _ ?_;(try simp only [N]);omega
 have Y0:=cX.2.resolve_left (by rw [h2];decide);refine Ok.bind (ZT ?_) (fun r8 xW=>?_)
 ·(try simp only [N]);omega
 (try simp only [N] at xW);refine Ok.chk ?_ ?_
 ·(try simp only [B]);omega
 refine Ok.bind (Ok.get ?_) (fun e9 MZ=>?_)
 ·(try simp only [N,eq_self,true_or]);omega
 have UX:=wA MZ;(try simp only [N] at UX);refine Ok.join (fun y11:G.World=>wt y11≤10000000000) (fun y11 iX=>?_) (fun k12 wW=>?_)
 ·(try simp only [N] at iX);refine fW _ ?_;(try simp only [N]);omega
 refine Ok.condR (fun h3=>?_) (fun h3=>?_)
 ·(try simp only [B] at h3);refine wW _ ?_;have:=EB r2.1.Clients 0 (⟨e9.Id,e9.Psk,e9.At,e9.St,e9.Cn,e9.Fin,r8.1,e9.T,e9.R,e9.Last⟩:G.Client);(try simp only [N] at this);(try simp only [N]);omega
 (try simp only [B] at h3);refine Ok.bind (Ok.idx ?_ ?_) (fun e13 IZ=>?_)
 iterate 2 (·(try simp only [N,eq_self,true_or]);omega)
 have iY:=wA IZ;(try simp only [N] at iY);refine Ok.chk ?_ ?_
 ·have:=EB r2.1.Clients 0 (⟨e9.Id,e9.Psk,e9.At,e9.St,e9.Cn,e9.Fin,r8.1,e9.T,e9.R,e9.Last⟩:G.Client);(try simp only [N] at this);(try simp only [B,N]);omega
 refine Ok.bind (Ok.get ?_) (fun e14 JZ=>?_)
 ·(try simp only [N]);omega
 have jY:=wA JZ;(try simp only [N] at jY);refine wW _ ?_
 have:=EB (List.set r2.1.Clients 0 (⟨e9.Id,e9.Psk,e9.At,e9.St,e9.Cn,e9.Fin,r8.1,e9.T,e9.R,e9.Last⟩:G.Client):List G.Client) 0 (⟨e14.Id,e14.Psk,e14.At,e14.St,e14.Cn,e14.Fin,(⟨e14.C.Role,e13.Sn,e14.C.Cur,e14.C.Old,e14.C.HasOld,e14.C.Until,e14.C.Next⟩:G.Chan),e14.T,e14.R,e14.Last⟩:G.Client);(try simp only [N] at this)
 have:=EB r2.1.Clients 0 (⟨e9.Id,e9.Psk,e9.At,e9.St,e9.Cn,e9.Fin,r8.1,e9.T,e9.R,e9.Last⟩:G.Client);(try simp only [N] at this);(try simp only [N]);omega
theorem ztd {a0:List UInt8} (ha:a0.length≤1048576):Ok (YS.raw a0) fun r=>wt r≤3000000000:=by
 (try simp only [N] at ha);have hL:=qA
 unfold YS.raw
 refine Ok.bind (zb1 ?_) (fun r1 MV=>?_)
 ·(try simp only [N]);omega
 (try simp only [N] at MV);refine Ok.bind (zgM ?_ ?_) (fun r2 VV=>?_)
 iterate 2 (·(try simp only [N]);omega)
 (try simp only [N] at VV);refine Ok.some' ?_;(try simp only [N]);omega
theorem ztc {a0:List UInt8} (ha:a0.length≤1048576):Ok (XS.raw a0) fun r=>wt r.1≤3000000000:=by
 (try simp only [N] at ha);have hL:=qA
 unfold XS.raw
 refine Ok.bind (zb1 ?_) (fun r1 MV=>?_)
 ·(try simp only [N]);omega
 (try simp only [N] at MV);refine Ok.bind (zgM ?_ ?_) (fun r2 VV=>?_)
 iterate 2 (·(try simp only [N]);omega)
 (try simp only [N] at VV);refine Ok.bind (zC ?_) (fun r3 YV=>?_)
 ·(try simp only [N]);omega
 (try simp only [N] at YV);refine Ok.cond' (fun h1=>?_) (fun h1=>?_)
 ·(try simp only [B] at h1);refine Ok.bind (EA ?_) (fun r4 SV=>?_)
  ·(try have:=zA (a:=(r2.1.length:Int)) (b:=2) (by omega) (by omega));(try simp only [N]);omega
  (try simp only [N] at SV);refine Ok.some' ?_;(try have:=PA (a:=r4.1) (b:=1) (by omega) (by omega));(try simp only);omega
 (try simp only [B] at h1);refine Ok.bind (EA ?_) (fun r5 TV=>?_)
 ·(try have:=zA (a:=(r2.1.length:Int)) (b:=1) (by omega) (by omega));(try simp only [N]);omega
 (try simp only [N] at TV);refine Ok.join (fun y6:Int × G.Cur=>True) (fun y6 WW=>?_) (fun k7 fW=>?_)
 ·refine Ok.some' ?_;(try simp only);omega
 refine Ok.loopR (fun x8:Int × Int × G.Cur=>0≤x8.2.1∧x8.2.1≤30∧jA x8.2.2) (fun x8=>(30 - x8.2.1).toNat) ?_ ?_ (fun x8 P3 k9 LX=>?_)
 iterate 2 (·(try simp only [N]);omega)
 (try simp only [N] at P3);refine Ok.joinR (fun y10:Bool=>y10=true→x8.2.1<30∧0<r2.1.length) (fun k11 uW=>?_) (fun y10 SW=>?_)
 ·refine Ok.condR (fun h2=>?_) (fun h2=>?_)
  ·exact uW _ fun h=>nomatch h
  (try simp only [B] at h2);refine uW _ fun q3=>?_;(try simp only [B] at q3);(try simp only [N]);omega
 refine Ok.condR (fun h4=>?_) (fun h4=>?_)
 ·exact fW _ trivial
 replace SW:=SW h4;(try simp only [N] at SW);refine Ok.bind (EA ?_) (fun r12 aW=>?_)
 ·(try simp only [N]);omega
 (try simp only [N] at aW);refine Ok.join (fun y13:Bool=>True) (fun y13 RW=>?_) (fun k14 ZV=>?_)
 ·refine Ok.cond' (fun h5=>?_) (fun h5=>?_)
  ·refine Ok.some' ?_;(try simp only);omega
  refine LX _ ?_ ?_
  iterate 2 (·(try have:=zA (a:=x8.2.1) (b:=1) (by omega) (by omega));(try simp only [N]);omega)
 refine Ok.chk ?_ ?_
 ·(try simp only [B]);omega
 refine Ok.bind (Ok.get ?_) (fun e15 kY=>?_)
 ·(try simp only [N]);omega
 have IX:=wA kY;(try simp only [N] at IX);refine Ok.condR (fun h6=>?_) (fun h6=>?_)
 ·exact ZV _ trivial
 (try simp only [B] at h6);refine Ok.chk ?_ ?_
 ·(try simp only [B]);omega
 refine Ok.bind (Ok.get ?_) (fun e16 SY=>?_)
 ·(try simp only [N]);omega
 have lY:=wA SY;(try simp only [N] at lY);refine Ok.condR (fun h7=>?_) (fun h7=>?_)
 ·exact ZV _ trivial
 (try simp only [B] at h7);refine Ok.chk ?_ ?_
 ·(try simp only [B]);omega
 refine Ok.bind (Ok.get ?_) (fun e17 he17=>?_)
 ·(try simp only [N]);omega
 have m8:=wA he17;(try simp only [N] at m8);exact ZV _ trivial
end Go.D
namespace Go.D
theorem zp5 {l:List G.Note} {i n:Nat} (h:i<n):zH (l.take n) i=zH l i:=by
 unfold zH
 rw [List.getElem?_take,if_pos h,List.take_take,Nat.min_eq_left (Nat.le_of_lt h)]
theorem zqj {l:List G.Note} {n:Nat} (h:qI l=true):qI (l.take n)=true:=by
 unfold qI at h ⊢
 rw [Bool.not_eq_true',ZH] at h ⊢
 intro i hi
 rw [List.length_take] at hi
 rw [zp5 (by omega)]
 exact h i (by omega)
theorem zp7 (l:List G.Note):zI l (l.length:Int)=false:=by
 unfold zI zH
 rw [Int.toNat_natCast,List.getElem?_eq_none (Nat.le_refl _),Option.any_none,Bool.and_false]
theorem RN.ok {x:lA [.sl .byte]} (_:rA [.sl .byte] x):RN.raw x=some (qV (α:=List UInt8) x):=by
 have hL:=qA
 unfold RN.raw
 simp only [qV]
 cases hb:QP x
 case true=>rfl
 rw [cond_false]
 have hb:List.length (α:=UInt8) x≤1048576:=by have:=of_decide_eq_false hb;omega
 obtain ⟨f,h1,w1⟩:=ztc hb
 obtain ⟨m,h2,w2⟩:=ztd hb
 obtain ⟨d,h4,w4⟩:=ztb hb
 obtain ⟨n,h5,w5⟩:=zhv (n:=2) (by omega) hb
 have QV:=CB m
 have e2:cA .i64 (m.length:Int) 1=(m.length:Int)+1:=zA (by omega) (by omega)
 have hq:=sI (a:=n) (n:=(m.length:Int)+1) (by omega) (by omega)
 have ht:=FE m (GA .i64 n ((m.length:Int)+1)).toNat
 have i0:qI []=true:=rfl
 have w0:wt ([]:List G.Note)=0:=rfl
 rw [h1,dB,h2,dB,fG,QA (by omega),h4,dB,h5,dB,e2,show ((m.length:Int)+1==0)=false by simp;omega,cond_false]
 simp only [aA,fG,mF,xH,QA (show wt f.1≤bA by omega),QA (show wt d.1≤bA by omega),QA (show wt m≤bA by omega),QA (show wt ([]:List G.Note)≤bA by omega),beq_self_eq_true,cond_true,i0,zp7,Bool.not_false]
 cases hi:qI m
 ·rfl
 ·rw [Bool.not_true,cond_false,show (decide (0≤(0:Int))&&decide ((0:Int)≤GA .i64 n ((m.length:Int)+1))&&decide (GA .i64 n ((m.length:Int)+1)≤(m.length:Int)))=true by simp;omega,cond_true,
   List.drop_zero,Int.sub_zero,QA (by omega),zqj hi];rfl
end Go.D

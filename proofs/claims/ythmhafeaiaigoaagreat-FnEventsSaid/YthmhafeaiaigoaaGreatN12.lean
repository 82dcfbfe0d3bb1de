/-
 Sizes of the program's data.
-/
import Derived.Test.YthmhafeaiaigoaaGreatN10
set_option linter.all false
namespace Go.D
end Go.D
namespace Go.D
end Go.D
namespace Go.D
open Option renaming bind→ob
noncomputable section
def Kn(a0:Af):=
 ob (Ay a0 12) λr1=>
 ob (Ay r1.2 12) λr2=>
 ob (Ar r2.2 300) λr3=>
 ob (Ay r3.2 16) λr4=>
 some ((⟨2,0,r1.1,r2.1,r3.1,r4.1,[],0,0,[],[]⟩:Aa),r4.2)
def Ko(a0:Af)(a1:Int):=
 ob (Bf a1) λr1=>
 ob (Ar a0 6) λr2=>
 aA (λ(y3:Aw)=>
 some (y3,r2.2)) λk4=>
 uA FU (λ(x5:Int×Aw) k6=>
 cond (decide (x5.1>0))
 (ob (Cs x5.2 x5.2.Due) λr7=>
 k6 ((sA .i64 x5.1 1),r7.1))
 (k4 x5.2)) (r2.1,r1)
def Jm(a0:Af):=
 ob (Ar a0 3) λr1=>
 ob (Ar r1.2 32) λr2=>
 ob (Ay r2.2 (iA .i64 1 r2.1)) λr3=>
 ob (Ar r3.2 5) λr4=>
 let r5:Ai:=zB (iA .i64 1 r4.1)
 ob (QI (iA .i64 1 r1.1) r3.1 r5) λr6=>
 ob (As r4.2 [0,1,2,2,3,3,3,3]) λr7=>
 cond (r7.1==0)
 (some (r6,r7.2))
 (ob (As r7.2 [0,0,5,90]) λr8=>
 ob (Ay r8.2 12) λr9=>
 ob (Fd r6 r8.1 r9.1) λr10=>
 ob (Ar r9.2 3) λr11=>
 ob (Cs r10.1.T (iA .i64 r8.1 r11.1)) λr12=>
 cond (r7.1==1)
 (some ((⟨r10.1.Id,r10.1.Psk,r10.1.At,r10.1.St,r10.1.Cn,r10.1.Fin,r10.1.C,r12.1,r10.1.R,r10.1.Last⟩:Ae),r11.2))
 (ob (Kn r11.2) λr13=>
 ob (En (⟨r10.1.Id,r10.1.Psk,r10.1.At,r10.1.St,r10.1.Cn,r10.1.Fin,r10.1.C,r12.1,r10.1.R,r10.1.Last⟩:Ae) r8.1 (⟨r13.1.Kind,r13.1.Id,r10.1.Cn,r13.1.Sn,r13.1.Tick,r13.1.Cookie,r13.1.Proof,r13.1.Epoch,r13.1.Seq,r13.1.Body,r13.1.Tag⟩:Aa)) λr14=>
 cond (r7.1==2)
 (ob (Ar r13.2 5) λr15=>
 aA (λ(y16:Ae)=>
 aA (λ(y21:Ae)=>
 some (y21,r15.2)) λk22=>
 cond (!y16.T.On)
 (ob (Bf r8.1) λr23=>
 k22 (⟨y16.Id,y16.Psk,y16.At,y16.St,y16.Cn,y16.Fin,y16.C,r23,y16.R,y16.Last⟩:Ae))
 (k22 y16)) λk17=>
 uA FU (λ(x18:Int×Ae) k19=>
 cond (decide (x18.1>0))
 (ob (Cs x18.2.T x18.2.T.Due) λr20=>
 k19 ((sA .i64 x18.1 1),(⟨x18.2.Id,x18.2.Psk,x18.2.At,x18.2.St,x18.2.Cn,x18.2.Fin,x18.2.C,r20.1,x18.2.R,x18.2.Last⟩:Ae)))
 (k17 x18.2)) (r15.1,r14.1))
 (ob (Bk 0) λr24=>
 ob (Eb r14.1.C.Cur.Key 1 r14.1.C.Sn 0 0 8 r24) λr25=>
 ob (En r14.1 r8.1 r25.1) λr26=>
 ob (Bb r13.2 2) λr27=>
 aA (λ(y28:Af×Ae)=>
 some (y28.2,y28.1)) λk29=>
 cond (r27.1)
 (ob (Hu r27.2 0) λr30=>
 aA (λ(y31:Af×Ae)=>
 k29 (y31.1,y31.2)) λk32=>
 cond (decide ((r30.1.Next.length:Int)>0))
 (ob (Ko r30.2 r8.1) λr33=>
 aA (λ(y34:Ae)=>
 k32 (r33.2,y34)) λk35=>
 cond (!r33.1.On)
 (ob (Bf r8.1) λr36=>
 k35 (⟨r26.1.Id,r26.1.Psk,r26.1.At,r26.1.St,r26.1.Cn,r26.1.Fin,r30.1,r26.1.T,r36,r26.1.Last⟩:Ae))
 (k35 (⟨r26.1.Id,r26.1.Psk,r26.1.At,r26.1.St,r26.1.Cn,r26.1.Fin,r30.1,r26.1.T,r33.1,r26.1.Last⟩:Ae)))
 (k32 (r30.2,(⟨r26.1.Id,r26.1.Psk,r26.1.At,r26.1.St,r26.1.Cn,r26.1.Fin,r30.1,r26.1.T,r26.1.R,r26.1.Last⟩:Ae))))
 (k29 (r27.2,r26.1)))))
def Kp(a0:Af):=
 ob (Ar a0 8) λr1=>
 aA (λ(y2:Af×Aa)=>
 some (y2.2,y2.1)) λk3=>
 cond ((iA .i64 1 r1.1)==1)
 (ob (Ar r1.2 9) λr4=>
 ob (Ay r4.2 12) λr5=>
 k3 (r5.2,(⟨iA .i64 1 r1.1,iA .i64 1 r4.1,r5.1,[],0,[],[],0,0,[],[]⟩:Aa)))
 (aA (λ(y6:Bool)=>
 aA (λ(y8:Af×Aa)=>
 k3 (y8.1,y8.2)) λk9=>
 cond (y6)
 (ob (Ay r1.2 12) λr10=>
 ob (Ay r10.2 12) λr11=>
 ob (As r11.2 [0,1,300,1000000]) λr12=>
 ob (Ay r12.2 16) λr13=>
 aA (λ(y14:Af×Aa)=>
 k9 (y14.1,y14.2)) λk15=>
 cond ((iA .i64 1 r1.1)==3)
 (ob (Ar r13.2 9) λr16=>
 ob (Ay r16.2 16) λr17=>
 k15 (r17.2,(⟨iA .i64 1 r1.1,iA .i64 1 r16.1,r10.1,r11.1,r12.1,r13.1,r17.1,0,0,[],[]⟩:Aa)))
 (k15 (r13.2,(⟨iA .i64 1 r1.1,0,r10.1,r11.1,r12.1,r13.1,[],0,0,[],[]⟩:Aa))))
 (ob (Ay r1.2 12) λr18=>
 ob (As r18.2 [0,1,2,4294967295]) λr19=>
 ob (As r19.2 [0,1,70000,281474976710655]) λr20=>
 ob (Ay r20.2 16) λr21=>
 ob (As r21.2 [0,1,12,40]) λr22=>
 aA (λ(y23:Bool)=>
 aA (λ(y25:Int)=>
 aA (λ(y27:Int)=>
 ob (Ay r22.2 y27) λr29=>
 k9 (r29.2,(⟨iA .i64 1 r1.1,0,[],r18.1,0,[],[],r19.1,r20.1,r29.1,r21.1⟩:Aa))) λk28=>
 cond (decide ((iA .i64 1 r1.1)≥7))
 (k28 4)
 (k28 y25)) λk26=>
 cond (y23)
 (k26 12)
 (k26 r22.1)) λk24=>
 cond ((iA .i64 1 r1.1)==5)
 (k24 true)
 (k24 ((iA .i64 1 r1.1)==6)))) λk7=>
 cond ((iA .i64 1 r1.1)==2)
 (k7 ((iA .i64 1 r1.1)==2))
 (k7 ((iA .i64 1 r1.1)==3)))
def Jn(a0:Af):=
 ob (Kp a0) λr1=>
 ob (Ar r1.2 22) λr2=>
 aA (λ(y3:Af×Aa)=>
 some (y3.2,y3.1)) λk4=>
 cond (r2.1==0)
 (ob (Ar r2.2 11) λr5=>
 k4 (r5.2,(⟨sA .i64 r5.1 1,r1.1.Id,r1.1.Cn,r1.1.Sn,r1.1.Tick,r1.1.Cookie,r1.1.Proof,r1.1.Epoch,r1.1.Seq,r1.1.Body,r1.1.Tag⟩:Aa)))
 (aA (λ(y6:Af×Aa)=>
 k4 (y6.1,y6.2)) λk7=>
 cond (r2.1==1)
 (ob (As r2.2 [0,1,10,(-1)]) λr8=>
 k7 (r8.2,(⟨r1.1.Kind,r8.1,r1.1.Cn,r1.1.Sn,r1.1.Tick,r1.1.Cookie,r1.1.Proof,r1.1.Epoch,r1.1.Seq,r1.1.Body,r1.1.Tag⟩:Aa)))
 (aA (λ(y9:Af×Aa)=>
 k7 (y9.1,y9.2)) λk10=>
 cond (r2.1==2)
 (ob (As r2.2 [0,11,12,13]) λr11=>
 ob (Ay r11.2 r11.1) λr12=>
 k10 (r12.2,(⟨r1.1.Kind,r1.1.Id,r12.1,r1.1.Sn,r1.1.Tick,r1.1.Cookie,r1.1.Proof,r1.1.Epoch,r1.1.Seq,r1.1.Body,r1.1.Tag⟩:Aa)))
 (aA (λ(y13:Af×Aa)=>
 k10 (y13.1,y13.2)) λk14=>
 cond (r2.1==3)
 (ob (As r2.2 [0,11,12,13]) λr15=>
 ob (Ay r15.2 r15.1) λr16=>
 k14 (r16.2,(⟨r1.1.Kind,r1.1.Id,r1.1.Cn,r16.1,r1.1.Tick,r1.1.Cookie,r1.1.Proof,r1.1.Epoch,r1.1.Seq,r1.1.Body,r1.1.Tag⟩:Aa)))
 (aA (λ(y17:Af×Aa)=>
 k14 (y17.1,y17.2)) λk18=>
 cond (r2.1==4)
 (ob (As r2.2 [(-1),0,1000001]) λr19=>
 k18 (r19.2,(⟨r1.1.Kind,r1.1.Id,r1.1.Cn,r1.1.Sn,r19.1,r1.1.Cookie,r1.1.Proof,r1.1.Epoch,r1.1.Seq,r1.1.Body,r1.1.Tag⟩:Aa)))
 (aA (λ(y20:Af×Aa)=>
 k18 (y20.1,y20.2)) λk21=>
 cond (r2.1==5)
 (ob (As r2.2 [0,15,16]) λr22=>
 ob (Ay r22.2 r22.1) λr23=>
 k21 (r23.2,(⟨r1.1.Kind,r1.1.Id,r1.1.Cn,r1.1.Sn,r1.1.Tick,r23.1,r1.1.Proof,r1.1.Epoch,r1.1.Seq,r1.1.Body,r1.1.Tag⟩:Aa)))
 (aA (λ(y24:Af×Aa)=>
 k21 (y24.1,y24.2)) λk25=>
 cond (r2.1==6)
 (ob (As r2.2 [0,15,16]) λr26=>
 ob (Ay r26.2 r26.1) λr27=>
 k25 (r27.2,(⟨r1.1.Kind,r1.1.Id,r1.1.Cn,r1.1.Sn,r1.1.Tick,r1.1.Cookie,r27.1,r1.1.Epoch,r1.1.Seq,r1.1.Body,r1.1.Tag⟩:Aa)))
 (aA (λ(y28:Af×Aa)=>
 k25 (y28.1,y28.2)) λk29=>
 cond (r2.1==7)
 (ob (As r2.2 [(-1),0,4294967296]) λr30=>
 k29 (r30.2,(⟨r1.1.Kind,r1.1.Id,r1.1.Cn,r1.1.Sn,r1.1.Tick,r1.1.Cookie,r1.1.Proof,r30.1,r1.1.Seq,r1.1.Body,r1.1.Tag⟩:Aa)))
 (aA (λ(y31:Af×Aa)=>
 k29 (y31.1,y31.2)) λk32=>
 cond (r2.1==8)
 (ob (As r2.2 [(-1),0,281474976710656]) λr33=>
 k32 (r33.2,(⟨r1.1.Kind,r1.1.Id,r1.1.Cn,r1.1.Sn,r1.1.Tick,r1.1.Cookie,r1.1.Proof,r1.1.Epoch,r33.1,r1.1.Body,r1.1.Tag⟩:Aa)))
 (aA (λ(y34:Af×Aa)=>
 k32 (y34.1,y34.2)) λk35=>
 cond (r2.1==9)
 (ob (As r2.2 [0,4,12,41]) λr36=>
 ob (Ay r36.2 r36.1) λr37=>
 k35 (r37.2,(⟨r1.1.Kind,r1.1.Id,r1.1.Cn,r1.1.Sn,r1.1.Tick,r1.1.Cookie,r1.1.Proof,r1.1.Epoch,r1.1.Seq,r37.1,r1.1.Tag⟩:Aa)))
 (aA (λ(y38:Af×Aa)=>
 k35 (y38.1,y38.2)) λk39=>
 cond (r2.1==10)
 (ob (As r2.2 [0,15,17]) λr40=>
 ob (Ay r40.2 r40.1) λr41=>
 k39 (r41.2,(⟨r1.1.Kind,r1.1.Id,r1.1.Cn,r1.1.Sn,r1.1.Tick,r1.1.Cookie,r1.1.Proof,r1.1.Epoch,r1.1.Seq,r1.1.Body,r41.1⟩:Aa)))
 (k39 (r2.2,r1.1))))))))))))
def Kq(a0:Af):=
 ob (As a0 [0,5,999990,1000000]) λr1=>
 ob (Ko r1.2 r1.1) λr2=>
 ob (Ar r2.2 10) λr3=>
 aA (λ(y4:Af×Aw)=>
 some (y4.2,y4.1)) λk5=>
 cond (r3.1==0)
 (ob (As r3.2 [(-1),1000008,1000009]) λr6=>
 k5 (r6.2,(⟨r2.1.On,r6.1,r2.1.Wait,r2.1.Tries⟩:Aw)))
 (aA (λ(y7:Af×Aw)=>
 k5 (y7.1,y7.2)) λk8=>
 cond (r3.1==1)
 (ob (As r3.2 [0,1,3,8,16]) λr9=>
 k8 (r9.2,(⟨r2.1.On,r2.1.Due,r9.1,r2.1.Tries⟩:Aw)))
 (aA (λ(y10:Af×Aw)=>
 k8 (y10.1,y10.2)) λk11=>
 cond (r3.1==2)
 (ob (As r3.2 [0,1,5,6]) λr12=>
 k11 (r12.2,(⟨r2.1.On,r2.1.Due,r2.1.Wait,r12.1⟩:Aw)))
 (aA (λ(y13:Aw)=>
 k11 (r3.2,y13)) λk14=>
 cond (r3.1==3)
 (k14 (⟨!r2.1.On,r2.1.Due,r2.1.Wait,r2.1.Tries⟩:Aw))
 (k14 r2.1))))
def Jo(a0:Af):=
 ob (Jm a0) λr1=>
 ob (Ar r1.2 26) λr2=>
 aA (λ(y3:Af×Ae)=>
 some (y3.2,y3.1)) λk4=>
 cond (r2.1==0)
 (ob (As r2.2 [0,10,4]) λr5=>
 k4 (r5.2,(⟨r5.1,r1.1.Psk,r1.1.At,r1.1.St,r1.1.Cn,r1.1.Fin,r1.1.C,r1.1.T,r1.1.R,r1.1.Last⟩:Ae)))
 (aA (λ(y6:Af×Ae)=>
 k4 (y6.1,y6.2)) λk7=>
 cond (r2.1==1)
 (ob (As r2.2 [0,33,1]) λr8=>
 ob (Ay r8.2 r8.1) λr9=>
 k7 (r9.2,(⟨r1.1.Id,r9.1,r1.1.At,r1.1.St,r1.1.Cn,r1.1.Fin,r1.1.C,r1.1.T,r1.1.R,r1.1.Last⟩:Ae)))
 (aA (λ(y10:Af×Ae)=>
 k7 (y10.1,y10.2)) λk11=>
 cond (r2.1==2)
 (ob (Db r2.2) λr12=>
 k11 (r12.2,(⟨r1.1.Id,r1.1.Psk,r12.1,r1.1.St,r1.1.Cn,r1.1.Fin,r1.1.C,r1.1.T,r1.1.R,r1.1.Last⟩:Ae)))
 (aA (λ(y13:Af×Ae)=>
 k11 (y13.1,y13.2)) λk14=>
 cond (r2.1==3)
 (ob (Ar r2.2 6) λr15=>
 k14 (r15.2,(⟨r1.1.Id,r1.1.Psk,r1.1.At,sA .i64 r15.1 1,r1.1.Cn,r1.1.Fin,r1.1.C,r1.1.T,r1.1.R,r1.1.Last⟩:Ae)))
 (aA (λ(y16:Af×Ae)=>
 k14 (y16.1,y16.2)) λk17=>
 cond (r2.1==4)
 (ob (As r2.2 [0,11,12]) λr18=>
 ob (Ay r18.2 r18.1) λr19=>
 k17 (r19.2,(⟨r1.1.Id,r1.1.Psk,r1.1.At,r1.1.St,r19.1,r1.1.Fin,r1.1.C,r1.1.T,r1.1.R,r1.1.Last⟩:Ae)))
 (aA (λ(y20:Af×Ae)=>
 k17 (y20.1,y20.2)) λk21=>
 cond (r2.1==5)
 (ob (Jn r2.2) λr22=>
 k21 (r22.2,(⟨r1.1.Id,r1.1.Psk,r1.1.At,r1.1.St,r1.1.Cn,r22.1,r1.1.C,r1.1.T,r1.1.R,r1.1.Last⟩:Ae)))
 (aA (λ(y23:Af×Ae)=>
 k21 (y23.1,y23.2)) λk24=>
 cond (r2.1==6)
 (ob (Km r2.2) λr25=>
 k24 (r25.2,(⟨r1.1.Id,r1.1.Psk,r1.1.At,r1.1.St,r1.1.Cn,r1.1.Fin,r25.1,r1.1.T,r1.1.R,r1.1.Last⟩:Ae)))
 (aA (λ(y26:Af×Ae)=>
 k24 (y26.1,y26.2)) λk27=>
 cond (r2.1==7)
 (ob (Kq r2.2) λr28=>
 k27 (r28.2,(⟨r1.1.Id,r1.1.Psk,r1.1.At,r1.1.St,r1.1.Cn,r1.1.Fin,r1.1.C,r28.1,r1.1.R,r1.1.Last⟩:Ae)))
 (aA (λ(y29:Af×Ae)=>
 k27 (y29.1,y29.2)) λk30=>
 cond (r2.1==8)
 (ob (Kq r2.2) λr31=>
 k30 (r31.2,(⟨r1.1.Id,r1.1.Psk,r1.1.At,r1.1.St,r1.1.Cn,r1.1.Fin,r1.1.C,r1.1.T,r31.1,r1.1.Last⟩:Ae)))
 (aA (λ(y32:Af×Ae)=>
 k30 (y32.1,y32.2)) λk33=>
 cond (r2.1==9)
 (ob (As r2.2 [(-1),1,1000001]) λr34=>
 k33 (r34.2,(⟨r1.1.Id,r1.1.Psk,r1.1.At,r1.1.St,r1.1.Cn,r1.1.Fin,r1.1.C,r1.1.T,r1.1.R,r34.1⟩:Ae)))
 (aA (λ(y35:Ae)=>
 k33 (r2.2,y35)) λk36=>
 cond (r2.1==10)
 (k36 (⟨r1.1.Id,r1.1.Psk,r1.1.At,r1.1.St,r1.1.Cn,(⟨0,0,[],[],0,[],[],0,0,[],[]⟩:Aa),r1.1.C,r1.1.T,r1.1.R,r1.1.Last⟩:Ae))
 (k36 r1.1)))))))))))
def Jp(a0:Af):=
 ob (Ar a0 3) λr1=>
 aA (λ(y2:(List (List UInt8))×Af)=>
 some (y2.1,y2.2)) λk3=>
 uA FU (λ(x4:(List (List UInt8))×Int×Af) k5=>
 cond (decide (x4.2.1>0))
 (ob (Ar x4.2.2 32) λr6=>
 ob (Ay r6.2 (iA .i64 1 r6.1)) λr7=>
 cond (decide (x4.1.length+[r7.1].length≤bA)) (k5 ((x4.1++[r7.1]),(sA .i64 x4.2.1 1),r7.2)) none)
 (k3 (x4.1,x4.2.2))) ([],(iA .i64 1 r1.1),r1.2)
def Kr(a0:Af):=
 ob (Ar a0 5) λr1=>
 let r2:Ai:=zB r1.1
 ob (Cf r2) λr3=>
 ob (Ar r1.2 6) λr4=>
 ob (Ar r4.2 5) λr5=>
 aA (λ(y6:Af×Aj)=>
 some (y6.2,y6.1)) λk7=>
 uA FU (λ(x8:Int×Int×Af×Aj) k9=>
 cond (decide (x8.2.1>0))
 (ob (Ar x8.2.2.1 7) λr10=>
 let r11:Ai:=zB r10.1
 ob (Ay r10.2 12) λr12=>
 ob (Ek x8.2.2.2 x8.1 r11 r12.1) λr13=>
 ob (Ar r12.2 3) λr14=>
 k9 ((iA .i64 x8.1 r14.1),(sA .i64 x8.2.1 1),r14.2,r13.1))
 (k7 (x8.2.2.1,x8.2.2.2))) (r4.1,r5.1,r5.2,r3)
def Fw(a0:Af):=
 ob (Ay a0 16) λr1=>
 ob (Ar r1.2 2) λr2=>
 ob (Kn r2.2) λr3=>
 ob (Fr r1.1 (iA .i64 1 r2.1) r3.1) λr4=>
 ob (Ay r3.2 16) λr5=>
 ob (As r5.2 [0,5,90]) λr6=>
 ob (Ar r6.2 5) λr7=>
 let r8:Ai:=zB (iA .i64 1 r7.1)
 ob (Fn r5.1 r6.1 r8 r4.1) λr9=>
 ob (Bb r7.2 2) λr10=>
 aA (λ(y11:Af×Ah)=>
 ob (Bb y11.1 2) λr14=>
 aA (λ(y15:Af×Ah)=>
 some (y15.2,y15.1)) λk16=>
 cond (r14.1)
 (ob (Kr r14.2) λr17=>
 k16 (r17.2,(⟨y11.2.Id,y11.2.Cn,y11.2.Sn,y11.2.C,r17.1,y11.2.Tick,y11.2.Last,y11.2.Dead⟩:Ah)))
 (k16 (r14.2,y11.2))) λk12=>
 cond (r10.1)
 (ob (Hu r10.2 1) λr13=>
 k12 (r13.2,(⟨r9.Id,r9.Cn,r13.1.Sn,r13.1,r9.P,r9.Tick,r9.Last,r9.Dead⟩:Ah)))
 (k12 (r10.2,r9))
def Ks(a0:Af):=
 ob (Ar a0 6) λr1=>
 let r2:Ao:=XD (iA .i64 1 r1.1)
 ob (Ar r1.2 6) λr3=>
 aA (λ(y4:Af×Ao)=>
 some (y4.2,y4.1)) λk5=>
 uA FU (λ(x6:Int×Af×Ao) k7=>
 cond (decide (x6.1>0))
 (ob (Fw x6.2.1) λr8=>
 ob (Bi x6.2.2 r8.1) λr9=>
 aA (λ(y10:Bool×Af)=>
 aA (λ(y13:Af×Ao)=>
 k7 ((sA .i64 x6.1 1),y13.1,y13.2)) λk14=>
 cond (y10.1)
 (ob (Ar y10.2 (r9.1.L.length:Int)) λr15=>
 cond (decide (0≤r15.1)&&decide (r15.1<(r9.1.L.length:Int))) (ob (r9.1.L[r15.1.toNat]?) λe16=>
 ob (Ce e16) λr17=>
 cond (decide (0≤r15.1)&&decide (r15.1<(r9.1.L.length:Int))) (ob (r9.1.L[r15.1.toNat]?) λe18=>
 k14 (r15.2,(⟨r9.1.Cap,List.set r9.1.L r15.1.toNat r17⟩:Ao))) none) none)
 (k14 (y10.2,r9.1))) λk11=>
 cond (decide ((r9.1.L.length:Int)>0))
 (ob (Bb r8.2 3) λr12=>
 k11 (r12.1,r12.2))
 (k11 (false,r8.2)))
 (k5 (x6.2.1,x6.2.2))) (r3.1,r3.2,r2)
def Kt(a0:Af)(a1:Int):=
 ob (Ar a0 (iA .i64 a1 1)) λr1=>
 aA (λ(y2:(List Al)×Af)=>
 some (y2.1,y2.2)) λk3=>
 uA FU (λ(x4:(List Al)×Int×Af) k5=>
 cond (decide (x4.2.1>0))
 (ob (Ar x4.2.2 10) λr6=>
 let r7:Ai:=zB r6.1
 ob (As r6.2 [0,1,34,60,999999,1000000]) λr8=>
 ob (Fh x4.1 r7 r8.1) λr9=>
 ob (As r8.2 [0,3,45,102,1000]) λr10=>
 ob (Dp r9 r7 r10.1) λr11=>
 k5 (r11.1,(sA .i64 x4.2.1 1),r10.2))
 (k3 (x4.1,x4.2.2))) ([],r1.1,r1.2)
def Jq(a0:Af):=
 ob (Jp a0) λr1=>
 ob (Ay r1.2 8) λr2=>
 ob (Ar r2.2 4) λr3=>
 ob (NR r1.1 r2.1 (iA .i64 1 r3.1)) λr4=>
 ob (Ks r3.2) λr5=>
 aA (λ(y6:Ac)=>
 ob (Kt r5.2 6) λr15=>
 ob (Ar r15.2 30) λr16=>
 some ((⟨y6.Psks,y6.J,(⟨y6.D.Seed,iA .i64 1 r16.1⟩:Au),y6.T,r15.1⟩:Ac),r16.2)) λk7=>
 uA FU (λ(x8:Int×Ac) k9=>
 cond (decide (x8.1<(r5.1.L.length:Int)))
 (cond (decide (0≤x8.1)&&decide (x8.1<(r5.1.L.length:Int))) (ob (r5.1.L[x8.1.toNat]?) λe10=>
 aA (λ(y11:Ac)=>
 k9 ((iA .i64 x8.1 1),y11)) λk12=>
 cond (decide (e10.Id≤(x8.2.Psks.length:Int)))
 (cond (decide (0≤x8.1)&&decide (x8.1<(r5.1.L.length:Int))) (ob (r5.1.L[x8.1.toNat]?) λe13=>
 ob (Bi x8.2.T e13) λr14=>
 k12 (⟨x8.2.Psks,x8.2.J,x8.2.D,r14.1,x8.2.Cr⟩:Ac)) none)
 (k12 x8.2)) none)
 (k7 x8.2)) (0,r4)
def Jr(a0:Af)(a1:List (List UInt8))(a2:List (List UInt8)):=
 ob (Bb a0 2) λr1=>
 cond (r1.1)
 (some (a1,r1.2))
 (some (a2,r1.2))
def Js(a0:Af):=
 ob (Ay a0 12) λr1=>
 let r2:Ba:=jF r1.1
 ob (Bb r1.2 10) λr3=>
 aA (λ(y4:Af×Ba)=>
 some (y4.2,y4.1)) λk5=>
 cond (r3.1)
 (ob (As r3.2 [0,31,32]) λr6=>
 ob (Ay r6.2 r6.1) λr7=>
 k5 (r7.2,(⟨r7.1⟩:Ba)))
 (k5 (r3.2,r2))
def Jt(a0:Af):=
 ob (Kr a0) λr1=>
 aA (λ(y2:Bool×Af)=>
 cond (y2.1)
 (some (r1.1,y2.2))
 (ob (Ar y2.2 (r1.1.Cands.length:Int)) λr5=>
 ob (Ar r5.2 6) λr6=>
 aA (λ(y7:Af×Aj)=>
 some (y7.2,y7.1)) λk8=>
 cond (r6.1==0)
 (ob (Db r6.2) λr9=>
 k8 (r9.2,(⟨r9.1,r1.1.Cands⟩:Aj)))
 (aA (λ(y10:Af×Aj)=>
 k8 (y10.1,y10.2)) λk11=>
 cond (r6.1==1)
 (ob (Db r6.2) λr12=>
 cond (decide (0≤r5.1)&&decide (r5.1<(r1.1.Cands.length:Int))) (ob (r1.1.Cands[r5.1.toNat]?) λe13=>
 let l14:List Az:=List.set r1.1.Cands r5.1.toNat (⟨r12.1,e13.Draw,e13.Until⟩:Az)
 k11 (r12.2,(⟨r1.1.At,l14⟩:Aj))) none)
 (aA (λ(y15:Af×Aj)=>
 k11 (y15.1,y15.2)) λk16=>
 cond (r6.1==2)
 (ob (Ay r6.2 11) λr17=>
 cond (decide (0≤r5.1)&&decide (r5.1<(r1.1.Cands.length:Int))) (ob (r1.1.Cands[r5.1.toNat]?) λe18=>
 let l19:List Az:=List.set r1.1.Cands r5.1.toNat (⟨e18.A,r17.1,e18.Until⟩:Az)
 k16 (r17.2,(⟨r1.1.At,l19⟩:Aj))) none)
 (aA (λ(y20:Af×Aj)=>
 k16 (y20.1,y20.2)) λk21=>
 cond (r6.1==3)
 (ob (As r6.2 [(-1),1000006,1000007]) λr22=>
 cond (decide (0≤r5.1)&&decide (r5.1<(r1.1.Cands.length:Int))) (ob (r1.1.Cands[r5.1.toNat]?) λe23=>
 let l24:List Az:=List.set r1.1.Cands r5.1.toNat (⟨e23.A,e23.Draw,r22.1⟩:Az)
 k21 (r22.2,(⟨r1.1.At,l24⟩:Aj))) none)
 (aA (λ(y25:Aj)=>
 k21 (r6.2,y25)) λk26=>
 cond (r6.1==4)
 (cond (decide (0≤r5.1)&&decide (r5.1<(r1.1.Cands.length:Int))) (ob (r1.1.Cands[r5.1.toNat]?) λe27=>
 k26 (⟨e27.A,r1.1.Cands⟩:Aj)) none)
 (k26 r1.1))))))) λk3=>
 cond ((r1.1.Cands.length:Int)==0)
 (k3 (true,r1.2))
 (ob (Bb r1.2 2) λr4=>
 k3 (r4.1,r4.2))
def Ju(a0:Af):=
 ob (Fw a0) λr1=>
 ob (Ar r1.2 22) λr2=>
 aA (λ(y3:Af×Ah×Ah)=>
 some (y3.2.1,y3.1)) λk4=>
 cond (r2.1==0)
 (ob (As r2.2 [0,10]) λr5=>
 k4 (r5.2,(⟨r5.1,r1.1.Cn,r1.1.Sn,r1.1.C,r1.1.P,r1.1.Tick,r1.1.Last,r1.1.Dead⟩:Ah),(⟨0,[],[],(⟨0,[],(⟨0,[],0,(⟨0,[]⟩:Aq)⟩:Ax),(⟨0,[],0,(⟨0,[]⟩:Aq)⟩:Ax),false,0,[]⟩:Ak),(⟨(⟨0,0⟩:Ai),[]⟩:Aj),0,0,false⟩:Ah)))
 (aA (λ(y6:Af×Ah×Ah)=>
 k4 (y6.1,y6.2.1,y6.2.2)) λk7=>
 cond (r2.1==1)
 (ob (Ay r2.2 11) λr8=>
 k7 (r8.2,(⟨r1.1.Id,r8.1,r1.1.Sn,r1.1.C,r1.1.P,r1.1.Tick,r1.1.Last,r1.1.Dead⟩:Ah),(⟨0,[],[],(⟨0,[],(⟨0,[],0,(⟨0,[]⟩:Aq)⟩:Ax),(⟨0,[],0,(⟨0,[]⟩:Aq)⟩:Ax),false,0,[]⟩:Ak),(⟨(⟨0,0⟩:Ai),[]⟩:Aj),0,0,false⟩:Ah)))
 (aA (λ(y9:Af×Ah×Ah)=>
 k7 (y9.1,y9.2.1,y9.2.2)) λk10=>
 cond (r2.1==2)
 (ob (As r2.2 [11,12]) λr11=>
 ob (Ay r11.2 r11.1) λr12=>
 k10 (r12.2,(⟨r1.1.Id,r1.1.Cn,r12.1,r1.1.C,r1.1.P,r1.1.Tick,r1.1.Last,r1.1.Dead⟩:Ah),(⟨0,[],[],(⟨0,[],(⟨0,[],0,(⟨0,[]⟩:Aq)⟩:Ax),(⟨0,[],0,(⟨0,[]⟩:Aq)⟩:Ax),false,0,[]⟩:Ak),(⟨(⟨0,0⟩:Ai),[]⟩:Aj),0,0,false⟩:Ah)))
 (aA (λ(y13:Af×Ah×Ah)=>
 k10 (y13.1,y13.2.1,y13.2.2)) λk14=>
 cond (r2.1==3)
 (ob (Km r2.2) λr15=>
 k14 (r15.2,(⟨r1.1.Id,r1.1.Cn,r1.1.Sn,r15.1,r1.1.P,r1.1.Tick,r1.1.Last,r1.1.Dead⟩:Ah),(⟨0,[],[],(⟨0,[],(⟨0,[],0,(⟨0,[]⟩:Aq)⟩:Ax),(⟨0,[],0,(⟨0,[]⟩:Aq)⟩:Ax),false,0,[]⟩:Ak),(⟨(⟨0,0⟩:Ai),[]⟩:Aj),0,0,false⟩:Ah)))
 (aA (λ(y16:Af×Ah×Ah)=>
 k14 (y16.1,y16.2.1,y16.2.2)) λk17=>
 cond (r2.1==4)
 (ob (Jt r2.2) λr18=>
 k17 (r18.2,(⟨r1.1.Id,r1.1.Cn,r1.1.Sn,r1.1.C,r18.1,r1.1.Tick,r1.1.Last,r1.1.Dead⟩:Ah),(⟨0,[],[],(⟨0,[],(⟨0,[],0,(⟨0,[]⟩:Aq)⟩:Ax),(⟨0,[],0,(⟨0,[]⟩:Aq)⟩:Ax),false,0,[]⟩:Ak),(⟨(⟨0,0⟩:Ai),[]⟩:Aj),0,0,false⟩:Ah)))
 (aA (λ(y19:Af×Ah×Ah)=>
 k17 (y19.1,y19.2.1,y19.2.2)) λk20=>
 cond (r2.1==5)
 (ob (As r2.2 [(-1),1000001]) λr21=>
 k20 (r21.2,(⟨r1.1.Id,r1.1.Cn,r1.1.Sn,r1.1.C,r1.1.P,r21.1,r1.1.Last,r1.1.Dead⟩:Ah),(⟨0,[],[],(⟨0,[],(⟨0,[],0,(⟨0,[]⟩:Aq)⟩:Ax),(⟨0,[],0,(⟨0,[]⟩:Aq)⟩:Ax),false,0,[]⟩:Ak),(⟨(⟨0,0⟩:Ai),[]⟩:Aj),0,0,false⟩:Ah)))
 (aA (λ(y22:Af×Ah×Ah)=>
 k20 (y22.1,y22.2.1,y22.2.2)) λk23=>
 cond (r2.1==6)
 (ob (As r2.2 [(-1),1000001]) λr24=>
 k23 (r24.2,(⟨r1.1.Id,r1.1.Cn,r1.1.Sn,r1.1.C,r1.1.P,r1.1.Tick,r24.1,r1.1.Dead⟩:Ah),(⟨0,[],[],(⟨0,[],(⟨0,[],0,(⟨0,[]⟩:Aq)⟩:Ax),(⟨0,[],0,(⟨0,[]⟩:Aq)⟩:Ax),false,0,[]⟩:Ak),(⟨(⟨0,0⟩:Ai),[]⟩:Aj),0,0,false⟩:Ah)))
 (aA (λ(y25:Ah×Ah)=>
 k23 (r2.2,y25.1,y25.2)) λk26=>
 cond (r2.1==7)
 (k26 ((⟨r1.1.Id,r1.1.Cn,r1.1.Sn,r1.1.C,r1.1.P,r1.1.Tick,r1.1.Last,true⟩:Ah),(⟨0,[],[],(⟨0,[],(⟨0,[],0,(⟨0,[]⟩:Aq)⟩:Ax),(⟨0,[],0,(⟨0,[]⟩:Aq)⟩:Ax),false,0,[]⟩:Ak),(⟨(⟨0,0⟩:Ai),[]⟩:Aj),0,0,false⟩:Ah)))
 (aA (λy27=>
 cond (y27)
 (ob (Ce r1.1) λr29=>
 some (r29,r2.2))
 (k26 (r1.1,(⟨0,[],[],(⟨0,[],(⟨0,[],0,(⟨0,[]⟩:Aq)⟩:Ax),(⟨0,[],0,(⟨0,[]⟩:Aq)⟩:Ax),false,0,[]⟩:Ak),(⟨(⟨0,0⟩:Ai),[]⟩:Aj),0,0,false⟩:Ah)))) λk28=>
 cond (r2.1==8)
 (k28 (r2.1==8))
 (k28 (r2.1==9))))))))))
def Jv(a0:Af):=
 ob (Ks a0) λr1=>
 ob (Ar r1.2 12) λr2=>
 aA (λ(y3:Af×Ao)=>
 some (y3.2,y3.1)) λk4=>
 cond (r2.1==0)
 (ob (As r2.2 [0,1,7]) λr5=>
 k4 (r5.2,(⟨r5.1,r1.1.L⟩:Ao)))
 (aA (λ(y6:Af×Ao)=>
 k4 (y6.1,y6.2)) λk7=>
 cond (r2.1==1)
 (ob (Ju r2.2) λr8=>
 cond (decide (r1.1.L.length+[r8.1].length≤bA)) (k7 (r8.2,(⟨r1.1.Cap,r1.1.L++[r8.1]⟩:Ao))) none)
 (aA (λ(y9:Ao×Af)=>
 k7 (y9.2,y9.1)) λk10=>
 cond (r2.1==2)
 (aA (λ(y11:Ao)=>
 k10 (y11,r2.2)) λk12=>
 cond (decide ((r1.1.L.length:Int)>1))
 (cond (decide (0≤(0:Int))&&decide ((0:Int)<(r1.1.L.length:Int))) (ob (r1.1.L[0]?) λe13=>
 cond (decide (0≤(1:Int))&&decide ((1:Int)<(r1.1.L.length:Int))) (ob (r1.1.L[1]?) λe14=>
 let l15:List Ah:=List.set r1.1.L 1 (⟨e14.Id,e14.Cn,e13.Sn,e14.C,e14.P,e14.Tick,e14.Last,e14.Dead⟩:Ah)
 k12 (⟨r1.1.Cap,l15⟩:Ao)) none) none)
 (k12 r1.1))
 (aA (λ(y16:Af×Ao)=>
 k10 (y16.2,y16.1)) λk17=>
 cond (r2.1==3)
 (ob (Fw r2.2) λr18=>
 ob (Ce r18.1) λr19=>
 ob (As r18.2 [9,12,13]) λr20=>
 aA (λ(y21:Af×Ah×Ao)=>
 k17 (y21.1,y21.2.2)) λk22=>
 uA FU (λ(x23:Int×Af×Ah×Ao) k24=>
 cond (decide (x23.1>(x23.2.2.2.L.length:Int)))
 (ob (Ay x23.2.1 12) λr25=>
 let x26:List Ah:=[(⟨x23.2.2.1.Id,x23.2.2.1.Cn,r25.1,x23.2.2.1.C,x23.2.2.1.P,x23.2.2.1.Tick,x23.2.2.1.Last,x23.2.2.1.Dead⟩:Ah)]
 cond (decide (x23.2.2.2.L.length+x26.length≤bA)) (k24 ((sA .i64 x23.1 1),r25.2,(⟨x23.2.2.1.Id,x23.2.2.1.Cn,r25.1,x23.2.2.1.C,x23.2.2.1.P,x23.2.2.1.Tick,x23.2.2.1.Last,x23.2.2.1.Dead⟩:Ah),(⟨x23.2.2.2.Cap,x23.2.2.2.L++x26⟩:Ao))) none)
 (k22 (x23.2.1,x23.2.2.1,x23.2.2.2))) (r20.1,r20.2,r19,r1.1))
 (k17 (r2.2,r1.1)))))
def Jw(a0:Af):=
 ob (Kt a0 14) λr1=>
 cond ((r1.1.length:Int)==0)
 (some (r1.1,r1.2))
 (ob (Ar r1.2 (r1.1.length:Int)) λr2=>
 ob (Ar r2.2 10) λr3=>
 aA (λ(y4:(List Al)×Af)=>
 some (y4.1,y4.2)) λk5=>
 cond (r3.1==0)
 (ob (Db r3.2) λr6=>
 cond (decide (0≤r2.1)&&decide (r2.1<(r1.1.length:Int))) (ob (r1.1[r2.1.toNat]?) λe7=>
 let l8:List Al:=List.set r1.1 r2.1.toNat (⟨r6.1,e7.Got,e7.Sent⟩:Al)
 k5 (l8,r6.2)) none)
 (aA (λ(y9:(List Al)×Af)=>
 k5 (y9.1,y9.2)) λk10=>
 cond (r3.1==1)
 (ob (As r3.2 [(-1),0,1000001]) λr11=>
 cond (decide (0≤r2.1)&&decide (r2.1<(r1.1.length:Int))) (ob (r1.1[r2.1.toNat]?) λe12=>
 let l13:List Al:=List.set r1.1 r2.1.toNat (⟨e12.A,r11.1,e12.Sent⟩:Al)
 k10 (l13,r11.2)) none)
 (aA (λ(y14:(List Al)×Af)=>
 k10 (y14.1,y14.2)) λk15=>
 cond (r3.1==2)
 (cond (decide (0≤r2.1)&&decide (r2.1<(r1.1.length:Int))) (ob (r1.1[r2.1.toNat]?) λe16=>
 ob (As r3.2 [(-1),0,iA .i64 (ZB .i64 3 e16.Got) 1]) λr17=>
 cond (decide (0≤r2.1)&&decide (r2.1<(r1.1.length:Int))) (ob (r1.1[r2.1.toNat]?) λe18=>
 let l19:List Al:=List.set r1.1 r2.1.toNat (⟨e18.A,e18.Got,r17.1⟩:Al)
 k15 (l19,r17.2)) none) none)
 (aA (λ(y20:(List Al))=>
 k15 (y20,r3.2)) λk21=>
 cond (r3.1==3)
 (cond (decide (0≤r2.1)&&decide (r2.1<(r1.1.length:Int))) (ob (r1.1[r2.1.toNat]?) λe22=>
 cond (decide (r1.1.length+[e22].length≤bA)) (k21 (r1.1++[e22])) none) none)
 (k21 r1.1)))))
def Jx(a0:Af):=
 ob (Jq a0) λr1=>
 ob (Ar r1.2 16) λr2=>
 aA (λ(y3:Af×Ac)=>
 some (y3.2,y3.1)) λk4=>
 cond (r2.1==0)
 (ob (Jr r2.2 [[],[UInt8.ofNat (1:Int).toNat]] r1.1.Psks) λr5=>
 k4 (r5.2,(⟨r5.1,r1.1.J,r1.1.D,r1.1.T,r1.1.Cr⟩:Ac)))
 (aA (λ(y6:Af×Ac)=>
 k4 (y6.1,y6.2)) λk7=>
 cond (r2.1==1)
 (ob (Js r2.2) λr8=>
 k7 (r8.2,(⟨r1.1.Psks,r8.1,r1.1.D,r1.1.T,r1.1.Cr⟩:Ac)))
 (aA (λ(y9:Af×Ac)=>
 k7 (y9.1,y9.2)) λk10=>
 cond (r2.1==2)
 (ob (As r2.2 [(-1),9999,10000,10001]) λr11=>
 k10 (r11.2,(⟨r1.1.Psks,r1.1.J,(⟨r1.1.D.Seed,r11.1⟩:Au),r1.1.T,r1.1.Cr⟩:Ac)))
 (aA (λ(y12:Af×Ac)=>
 k10 (y12.1,y12.2)) λk13=>
 cond (r2.1==3)
 (ob (Jv r2.2) λr14=>
 k13 (r14.2,(⟨r1.1.Psks,r1.1.J,r1.1.D,r14.1,r1.1.Cr⟩:Ac)))
 (aA (λ(y15:Af×Ac)=>
 k13 (y15.1,y15.2)) λk16=>
 cond (r2.1==4)
 (ob (Jw r2.2) λr17=>
 k16 (r17.2,(⟨r1.1.Psks,r1.1.J,r1.1.D,r1.1.T,r17.1⟩:Ac)))
 (aA (λ(y18:Ac×Af)=>
 k16 (y18.2,y18.1)) λk19=>
 cond (r2.1==5)
 (cond (decide (r1.1.Psks.length+([[]]:List (List UInt8)).length≤bA)) (k19 ((⟨r1.1.Psks++[[]],r1.1.J,r1.1.D,r1.1.T,r1.1.Cr⟩:Ac),r2.2)) none)
 (aA (λ(y20:Af×Ac)=>
 k19 (y20.2,y20.1)) λk21=>
 cond (r2.1==6)
 (ob (Fw r2.2) λr22=>
 ob (Ce r22.1) λr23=>
 cond (decide (r1.1.T.L.length+[r23].length≤bA)) (k21 (r22.2,(⟨r1.1.Psks,r1.1.J,r1.1.D,(⟨r1.1.T.Cap,r1.1.T.L++[r23]⟩:Ao),r1.1.Cr⟩:Ac))) none)
 (k21 (r2.2,r1.1))))))))
def Jy(a0:Af):=
 ob (Ar a0 32) λr1=>
 ob (Ay r1.2 (iA .i64 1 r1.1)) λr2=>
 ob (Ar r2.2 40) λr3=>
 some ((⟨r2.1,r3.1⟩:Au),r3.2)
def Jz(a0:Af):=
 ob (Jy a0) λr1=>
 ob (Ar r1.2 5) λr2=>
 aA (λ(y3:Af×Au)=>
 some (y3.2,y3.1)) λk4=>
 cond (r2.1==0)
 (ob (As r2.2 [(-1),9999,10000,10001]) λr5=>
 k4 (r5.2,(⟨r1.1.Seed,r5.1⟩:Au)))
 (aA (λ(y6:Af×Au)=>
 k4 (y6.1,y6.2)) λk7=>
 cond (r2.1==1)
 (ob (As r2.2 [0,33,1]) λr8=>
 ob (Ay r8.2 r8.1) λr9=>
 k7 (r9.2,(⟨r9.1,r1.1.N⟩:Au)))
 (k7 (r2.2,r1.1)))
def Ka(a0:Af):=
 ob (Bb a0 3) λr1=>
 cond (r1.1)
 (ob (Ar r1.2 3) λr2=>
 let r3:Ai:=zB r2.1
 ob (Ar r2.2 3) λr4=>
 let r5:Ai:=zB r4.1
 ob (As r4.2 [0,5,45,200]) λr6=>
 ob (Ay r6.2 r6.1) λr7=>
 some ((⟨r3,r5,r7.1⟩:Ap),r7.2))
 (ob (Ar r1.2 3) λr8=>
 let r9:Ai:=zB r8.1
 ob (Ar r8.2 3) λr10=>
 let r11:Ai:=zB r10.1
 ob (Kp r10.2) λr12=>
 ob (Ec r9 r11 r12.1) λr13=>
 some (r13,r12.2))
def Kb(a0:Af):=
 ob (Ka a0) λr1=>
 ob (Ar r1.2 8) λr2=>
 aA (λ(y3:Af×Ap)=>
 some (y3.2,y3.1)) λk4=>
 cond (r2.1==0)
 (ob (Db r2.2) λr5=>
 k4 (r5.2,(⟨r5.1,r1.1.To,r1.1.B⟩:Ap)))
 (aA (λ(y6:Af×Ap)=>
 k4 (y6.1,y6.2)) λk7=>
 cond (r2.1==1)
 (ob (Db r2.2) λr8=>
 k7 (r8.2,(⟨r1.1.From,r8.1,r1.1.B⟩:Ap)))
 (aA (λ(y9:Af×Ap)=>
 k7 (y9.1,y9.2)) λk10=>
 cond (r2.1==2)
 (ob (Ay r2.2 201) λr11=>
 k10 (r11.2,(⟨r1.1.From,r1.1.To,r11.1⟩:Ap)))
 (k10 (r2.2,r1.1))))
def Kc(a0:Af)(a1:Int):=
 ob (Jc a0 a1) λr1=>
 ob (Ar r1.2 30) λr2=>
 aA (λ(y3:Af×Ab)=>
 some (y3.2,y3.1)) λk4=>
 cond (r2.1==0)
 (ob (As r2.2 [(-1),1000000,1000001,999999]) λr5=>
 k4 (r5.2,(⟨r5.1,r1.1.Clients,r1.1.S,r1.1.D,r1.1.Seen,r1.1.Known,r1.1.Notes⟩:Ab)))
 (aA (λ(y6:Af×Ab)=>
 k4 (y6.1,y6.2)) λk7=>
 cond (r2.1==1)
 (ob (Ar r2.2 2) λr8=>
 ob (Jo r8.2) λr9=>
 cond (decide (0≤r8.1)&&decide (r8.1<(r1.1.Clients.length:Int))) (ob (r1.1.Clients[r8.1.toNat]?) λe10=>
 k7 (r9.2,(⟨r1.1.Now,List.set r1.1.Clients r8.1.toNat r9.1,r1.1.S,r1.1.D,r1.1.Seen,r1.1.Known,r1.1.Notes⟩:Ab))) none)
 (aA (λ(y11:Af×Ab)=>
 k7 (y11.1,y11.2)) λk12=>
 cond (r2.1==2)
 (ob (Ar r2.2 2) λr13=>
 cond (decide (0≤(0:Int))&&decide ((0:Int)≤r13.1)&&decide (r13.1≤(r1.1.Clients.length:Int))) (k12 (r13.2,(⟨r1.1.Now,List.take ((r13.1 - 0).toNat) r1.1.Clients,r1.1.S,r1.1.D,r1.1.Seen,r1.1.Known,r1.1.Notes⟩:Ab))) none)
 (aA (λ(y14:Af×Ab)=>
 k12 (y14.1,y14.2)) λk15=>
 cond (r2.1==3)
 (ob (Jx r2.2) λr16=>
 k15 (r16.2,(⟨r1.1.Now,r1.1.Clients,r16.1,r1.1.D,r1.1.Seen,r1.1.Known,r1.1.Notes⟩:Ab)))
 (aA (λ(y17:Af×Ab)=>
 k15 (y17.1,y17.2)) λk18=>
 cond (r2.1==4)
 (ob (Jz r2.2) λr19=>
 k18 (r19.2,(⟨r1.1.Now,r1.1.Clients,r1.1.S,r19.1,r1.1.Seen,r1.1.Known,r1.1.Notes⟩:Ab)))
 (aA (λ(y20:Af×Ab)=>
 k18 (y20.1,y20.2)) λk21=>
 cond (r2.1==5)
 (ob (Kb r2.2) λr22=>
 cond (decide (r1.1.Seen.length+[r22.1].length≤bA)) (k21 (r22.2,(⟨r1.1.Now,r1.1.Clients,r1.1.S,r1.1.D,r1.1.Seen++[r22.1],r1.1.Known,r1.1.Notes⟩:Ab))) none)
 (aA (λ(y23:Af×Ab)=>
 k21 (y23.1,y23.2)) λk24=>
 cond (r2.1==6)
 (ob (As r2.2 [31,32]) λr25=>
 ob (Ay r25.2 r25.1) λr26=>
 cond (decide (r1.1.Known.length+[r26.1].length≤bA)) (k24 (r26.2,(⟨r1.1.Now,r1.1.Clients,r1.1.S,r1.1.D,r1.1.Seen,r1.1.Known++[r26.1],r1.1.Notes⟩:Ab))) none)
 (aA (λ(y27:Af×Ab)=>
 k24 (y27.1,y27.2)) λk28=>
 cond (r2.1==7)
 (ob (Jg r2.2) λr29=>
 cond (decide (r1.1.Notes.length+[r29.1].length≤bA)) (k28 (r29.2,(⟨r1.1.Now,r1.1.Clients,r1.1.S,r1.1.D,r1.1.Seen,r1.1.Known,r1.1.Notes++[r29.1]⟩:Ab))) none)
 (aA (λ(y30:Ab)=>
 k28 (r2.2,y30)) λk31=>
 cond (r2.1==8)
 (cond (decide (0≤(0:Int))&&decide ((0:Int)<(r1.1.Clients.length:Int))) (ob (r1.1.Clients[0]?) λe32=>
 let l33:List Ae:=List.set r1.1.Clients 0 (⟨2,e32.Psk,e32.At,e32.St,e32.Cn,e32.Fin,e32.C,e32.T,e32.R,e32.Last⟩:Ae)
 k31 (⟨r1.1.Now,l33,r1.1.S,r1.1.D,r1.1.Seen,r1.1.Known,r1.1.Notes⟩:Ab)) none)
 (aA (λ(y34:Ab)=>
 k31 y34) λk35=>
 cond (r2.1==9)
 (cond (decide (0≤(0:Int))&&decide ((0:Int)<(r1.1.Clients.length:Int))) (ob (r1.1.Clients[0]?) λe36=>
 let l37:List Ae:=List.set r1.1.Clients 0 (⟨e36.Id,[UInt8.ofNat (1:Int).toNat],e36.At,e36.St,e36.Cn,e36.Fin,e36.C,e36.T,e36.R,e36.Last⟩:Ae)
 k35 (⟨r1.1.Now,l37,r1.1.S,r1.1.D,r1.1.Seen,r1.1.Known,r1.1.Notes⟩:Ab)) none)
 (k35 r1.1))))))))))
end
end Go.D
namespace Go.D
end Go.D
namespace Go.D
def zwF(i:Int):0≤(zB i).Host∧(zB i).Host≤4294967295∧0≤(zB i).Port∧(zB i).Port≤65535:=by
 unfold zB;split
 ·simp only;omega
 ·simp only;omega
def zrh{p:List (List UInt8)}{s:List UInt8}{m:Int}(h:wt p+wt s+1000≤bA):Ok (NR p s m) λr=>wt r≤wt p+wt s+32:=mF h (by
 unfold ZN;cases MB (NC p s m)
 ·rw[cond_false];exact Nat.zero_le _
 ·rw[cond_true];exact zbQ p s m)
def zxy{c:Af}{l:List Int}(h:mA c)(hl:l≠[]):Ok (As c l) λr=>mA r.2:=(zgR h hl).mono λr hr=>hr.2
end Go.D
namespace Go.D
def zia{a0}(ha:mA a0):Ok (Kn a0) λr=>wt r.1≤60∧mA r.2:=by
 unfold Kn;refine .b (KB ?_ ?_) λr1 OV=> .b (KB ?_ ?_) λr2 fW=> .b (RA ?_) λr3 tW=> .b (KB ?_ ?_) λr4 VV=> .s ?_
 all_goals (try simp only[NB]at *)<;>omega
def ziy{a0 a1}(ha:mA a0):Ok (Ko a0 a1) λr=>mA r.2:=by
 unfold Ko
 refine .b kN λr1 _=> .b (RA ?_) λr2 fW=> .jt (λy3=> .s ?_)
  λk4 TV=> .l (λx5:Int×Aw=>0≤x5.1∧x5.1≤6) (λx5:Int×Aw=>x5.1.toNat) (λx5 hx5 k6 OW=> .c (λh1=> .b NT λr7 _=>OW _ ?_ ?_)
  λ_=>TV _) ?_ ?_
 all_goals (try simp only[NB]at *)<;>(try simp(disch:=omega) only[DA,JA]at *)<;>omega
set_option maxHeartbeats 4000000 in
theorem zqa{a0}(ha:mA a0):Ok (Jm a0) λr=>wt r.1≤20000∧mA r.2:=by
 (try simp only[N]at ha);have hL:=GB
 unfold Jm;refine Ok.bind (RA ?_) (λr1 OV=>?_)
 ·(try simp only[N]);omega
 (try simp only[N]at OV);refine Ok.bind (RA ?_) (λr2 fW=>?_)
 ·(try simp only[N]);omega
 (try simp only[N]at fW);refine Ok.bind (KB ?_ ?_) (λr3 tW=>?_)
 iterate 2 (·(try have:=DA (a:=1) (b:=r2.1) (by omega) (by omega));(try simp only[N]);omega)
 (try simp only[N]at tW);have G5:=DA (a:=1) (b:=r2.1) (by omega) (by omega);(try simp only[N]at G5);refine Ok.bind (RA ?_) (λr4 VV=>?_)
 ·(try simp only[N]);omega
 (try simp only[N]at VV);have hnr:=zwF (iA .i64 1 r4.1);(try simp only[N]at hnr);refine Ok.bind (zji ?_ ?_ ?_ ?_) (λr6 vW=>?_)
 iterate 4 (·(try have:=DA (a:=1) (b:=r4.1) (by omega) (by omega));(try have:=DA (a:=1) (b:=r1.1) (by omega) (by omega));(try simp only[N]);omega)
 (try simp only[N]at vW);refine Ok.bind (YA (0) (3) ?_ (by simp) (by decide)) (λr7 IW=>?_)
 ·(try simp only[N]);omega
 (try simp only[N]at IW);refine Ok.cond' (λh1=>?_) (λh1=>?_)
 ·(try simp only[B]at h1);refine Ok.some' ?_;(try simp only[N]);omega
 (try simp only[B]at h1);refine Ok.bind (YA (0) (90) ?_ (by simp) (by decide)) (λr8 BW=>?_)
 ·(try simp only[N]);omega
 (try simp only[N]at BW);refine Ok.bind (KB ?_ ?_) (λr9 SW=>?_)
 iterate 2 (·(try simp only[N]);omega)
 (try simp only[N]at SW);refine Ok.bind (zjR ?_ ?_) (λr10 pW=>?_)
 iterate 2 (·(try simp only[N]);omega)
 (try simp only[N]at pW);refine Ok.bind (RA ?_) (λr11 zW=>?_)
 ·(try simp only[N]);omega
 (try simp only[N]at zW);refine Ok.bind (NT) (λr12 yW=>?_);refine Ok.cond' (λh2=>?_) (λh2=>?_)
 ·(try simp only[B]at h2);refine Ok.some' ?_;(try simp only[N]);omega
 (try simp only[B]at h2);refine Ok.bind (zia ?_) (λr13 eX=>?_)
 ·(try simp only[N]);omega
 (try simp only[N]at eX);refine Ok.bind (zeN ?_ ?_) (λr14 nX=>?_)
 iterate 2 (·(try simp only[N]);omega)
 (try simp only[N]at nX);refine Ok.cond' (λh3=>?_) (λh3=>?_)
 ·(try simp only [B] at h3);refine Ok.bind (RA ?_) (fun r15 PW=>?_)
  ·(try simp only[N]);omega
  (try simp only[N]at PW);refine Ok.join (λy16:Ae=>wt y16≤10000) (λy16 qY=>?_) (λk17 lW=>?_)
  ·(try simp only[N]at qY);refine Ok.join (λy21:Ae=>wt y21≤10000) (λy21 z1=>?_) (λk22 UW=>?_)
   ·(try simp only[N]at z1);refine Ok.some' ?_;(try simp only[N]);omega
   refine Ok.condR (λh4=>?_) (λh4=>?_)
   ·(try simp only[B]at h4);refine UW _ ?_;(try simp only[N]);omega
   (try simp only[B]at h4);refine Ok.bind (kN) (λr23 IY=>?_);refine UW _ ?_;(try simp only[N]);omega
  refine Ok.loopR (λx18:Int×Ae=>0≤x18.1∧x18.1≤5∧wt x18.2≤10000) (λx18=>x18.1.toNat) ?_ ?_ (λx18 H7 k19 GW=>?_)
  iterate 2 (·(try simp only[N]);omega)
  (try simp only[N]at H7);refine Ok.condR (λh5=>?_) (λh5=>?_)
  ·(try simp only[B]at h5);refine lW _ ?_;(try simp only[N]);omega
  (try simp only[B]at h5);refine Ok.bind (NT) (λr20 FY=>?_);refine GW _ ?_ ?_
  iterate 2 (·(try have:=JA (a:=x18.1) (b:=1) (by omega) (by omega));(try simp only[N]);omega)
 (try simp only[B]at h3);refine Ok.bind (zaK) (λr24 vX=>?_);(try simp only[N]at vX);refine Ok.bind (zft ?_ ?_ ?_) (λr25 wX=>?_)
 iterate 3 (·(try simp only[N]);omega)
 obtain⟨wX,hr25i⟩:=wX;(try simp only[N]at wX);refine Ok.bind (zeN ?_ ?_) (λr26 JX=>?_)
 iterate 2 (·(try simp only[N]);omega)
 (try simp only[N]at JX);refine Ok.bind (KE ?_) (λr27 sY=>?_)
 ·(try simp only[N]);omega
 (try simp only[N]at sY);refine Ok.join (λy28:Af×Ae=>mA y28.1∧wt y28.2≤20000) (λy28 v5=>?_) (λk29 eY=>?_)
 ·(try simp only[N]at v5);refine Ok.some' ?_;(try simp only[N]);omega
 refine Ok.condR (λh6=>?_) (λh6=>?_)
 ·(try simp only[B]at h6);refine eY _ ?_;(try simp only[N]);omega
 (try simp only[B]at h6);refine Ok.bind (ze6 ?_) (λr30 z0=>?_)
 ·(try simp only[N]);omega
 (try simp only[N]at z0);refine Ok.join (λy31:Af×Ae=>mA y31.1∧wt y31.2≤20000) (λy31 t5=>?_) (λk32 aZ=>?_)
 ·(try simp only[N]at t5);refine eY _ ?_;(try simp only[N]);omega
 refine Ok.condR (λh7=>?_) (λh7=>?_)
 ·(try simp only[B]at h7);refine aZ _ ?_;(try simp only[N]);omega
 (try simp only[B]at h7);refine Ok.bind (ziy ?_) (λr33 B5=>?_)
 ·(try simp only[N]);omega
 (try simp only[N]at B5);refine Ok.join (λy34:Ae=>wt y34≤10000) (λy34 W2=>?_) (λk35 fY=>?_)
 ·(try simp only[N]at W2);refine aZ _ ?_;(try simp only[N]);omega
 refine Ok.condR (λh8=>?_) (λh8=>?_)
 ·(try simp only[B]at h8);refine fY _ ?_;(try simp only[N]);omega
 (try simp only[B]at h8);refine Ok.bind (kN) (λr36 V2=>?_);refine fY _ ?_;(try simp only[N]);omega
def ziZ{a0}(ha:mA a0):Ok (Kp a0) λr=>wt r.1≤200∧mA r.2:=by
 unfold Kp
 refine .b (RA ?_) λr1 OV=> .j (λy2:Af×Aa=>mA y2.1∧wt y2.2≤200) (λy2 xW=> .s ?_)
  λk3 KV=> .c (λh1=> .b (RA ?_) λr4 VV=> .b (KB ?_ ?_) λr5 RV=>KV _ ?_)
  λh1=> .jt (λy6=> .j (λy8:Af×Aa=>mA y8.1∧wt y8.2≤200) (λy8 O5=>KV _ ?_)
  λk9 bX=> .c (λh2=> .b (KB ?_ ?_) λr10 pW=> .b (KB ?_ ?_) λr11 zW=> .b (YA (0) (1000000) ?_ (by simp) (by decide)) λr12 yW=> .b (KB ?_ ?_) λr13 eX=> .j (λy14:Af×Aa=>mA y14.1∧wt y14.2≤200) (λy14 Z0=>bX _ ?_)
  λk15 QW=> .c (λh3=> .b (RA ?_) λr16 jX=> .b (KB ?_ ?_) λr17 YX=>QW _ ?_)
  λh3=>QW _ ?_)
  λh2=> .b (KB ?_ ?_) λr18 ZX=> .b (YA (0) (4294967295) ?_ (by simp) (by decide)) λr19 FX=> .b (YA (0) (281474976710655) ?_ (by simp) (by decide)) λr20 FY=> .b (KB ?_ ?_) λr21 o0=> .b (YA (0) (40) ?_ (by simp) (by decide)) λr22 fX=> .jt (λy23=> .j (λy25:Int=>0≤y25∧y25≤40) (λy25 X2=> .j (λy27:Int=>0≤y27∧y27≤40) (λy27 n5=> .b (KB ?_ ?_) λr29 vZ=>bX _ ?_)
  λk28 gX=> .c (λh4=>gX _ ?_)
  λh4=>gX _ ?_)
  λk26 gY=> .c (λh5=>gY _ ?_)
  λh5=>gY _ ?_)
  λk24 qW=> .c (λ_=>qW _)
  λ_=>qW _)
  λk7 UV=> .c (λ_=>UV _)
  λ_=>UV _
 all_goals (try simp only[NB]at *)<;>(try simp(disch:=omega) only[DA,JA]at *)<;>omega
def zrR{a0}(ha:mA a0):Ok (Jn a0) λr=>wt r.1≤500∧mA r.2:=by
 unfold Jn
 refine .b (ziZ ?_) λr1 OV=> .b (RA ?_) λr2 fW=> .j (λy3:Af×Aa=>mA y3.1∧wt y3.2≤500) (λy3 OY=> .s ?_)
  λk4 TV=> .c (λh1=> .b (RA ?_) λr5 RV=>TV _ ?_)
  λh1=> .j (λy6:Af×Aa=>mA y6.1∧wt y6.2≤500) (λy6 yX=>TV _ ?_)
  λk7 UV=> .c (λh2=> .b (YA (-1) (10) ?_ (by simp) (by decide)) λr8 BW=>UV _ ?_)
  λh2=> .j (λy9:Af×Aa=>mA y9.1∧wt y9.2≤500) (λy9 UY=>UV _ ?_)
  λk10 QV=> .c (λh3=> .b (YA (0) (13) ?_ (by simp) (by decide)) λr11 zW=> .b (KB ?_ ?_) λr12 yW=>QV _ ?_)
  λh3=> .j (λy13:Af×Aa=>mA y13.1∧wt y13.2≤500) (λy13 GX=>QV _ ?_)
  λk14 SV=> .c (λh4=> .b (YA (0) (13) ?_ (by simp) (by decide)) λr15 PW=> .b (KB ?_ ?_) λr16 jX=>SV _ ?_)
  λh4=> .j (λy17:Af×Aa=>mA y17.1∧wt y17.2≤500) (λy17 eZ=>SV _ ?_)
  λk18 FW=> .c (λh5=> .b (YA (-1) (1000001) ?_ (by simp) (by decide)) λr19 FX=>FW _ ?_)
  λh5=> .j (λy20:Af×Aa=>mA y20.1∧wt y20.2≤500) (λy20 rY=>FW _ ?_)
  λk21 aW=> .c (λh6=> .b (YA (0) (16) ?_ (by simp) (by decide)) λr22 fX=> .b (KB ?_ ?_) λr23 IY=>aW _ ?_)
  λh6=> .j (λy24:Af×Aa=>mA y24.1∧wt y24.2≤500) (λy24 hy24=>aW _ ?_)
  λk25 C8=> .c (λh7=> .b (YA (0) (16) ?_ (by simp) (by decide)) λr26 JX=> .b (KB ?_ ?_) λr27 sY=>C8 _ ?_)
  λh7=> .j (λy28:Af×Aa=>mA y28.1∧wt y28.2≤500) (λy28 v5=>C8 _ ?_)
  λk29 eY=> .c (λh8=> .b (YA (-1) (4294967296) ?_ (by simp) (by decide)) λr30 z0=>eY _ ?_)
  λh8=> .j (λy31:Af×Aa=>mA y31.1∧wt y31.2≤500) (λy31 t5=>eY _ ?_)
  λk32 aZ=> .c (λh9=> .b (YA (-1) (281474976710656) ?_ (by simp) (by decide)) λr33 B5=>aZ _ ?_)
  λh9=> .j (λy34:Af×Aa=>mA y34.1∧wt y34.2≤500) (λy34 W2=>aZ _ ?_)
  λk35 fY=> .c (λuW=> .b (YA (0) (41) ?_ (by simp) (by decide)) λr36 V2=> .b (KB ?_ ?_) λr37 d5=>fY _ ?_)
  λuW=> .j (λy38:Af×Aa=>mA y38.1∧wt y38.2≤500) (λy38 z5=>fY _ ?_)
  λk39 cZ=> .c (λHW=> .b (YA (0) (17) ?_ (by simp) (by decide)) λr40 hr40=> .b (KB ?_ ?_) λr41 B1=>cZ _ ?_)
  λHW=>cZ _ ?_
 all_goals (try simp only[NB]at *)<;>(try simp(disch:=omega) only[DA,JA]at *)<;>omega
def zi5{a0}(ha:mA a0):Ok (Kq a0) λr=>mA r.2:=by
 unfold Kq
 refine .b (YA (0) (1000000) ?_ (by simp) (by decide)) λr1 OV=> .b (ziy ?_) λr2 fW=> .b (RA ?_) λr3 tW=> .j (λy4:Af×Aw=>mA y4.1) (λy4 BY=> .s ?_)
  λk5 gW=> .c (λh1=> .b (YA (-1) (1000009) ?_ (by simp) (by decide)) λr6 vW=>gW _ ?_)
  λh1=> .j (λy7:Af×Aw=>mA y7.1) (λy7 xY=>gW _ ?_)
  λk8 sW=> .c (λh2=> .b (YA (0) (16) ?_ (by simp) (by decide)) λr9 SW=>sW _ ?_)
  λh2=> .j (λy10:Af×Aw=>mA y10.1) (λy10 cX=>sW _ ?_)
  λk11 PV=> .c (λh3=> .b (YA (0) (6) ?_ (by simp) (by decide)) λr12 yW=>PV _ ?_)
  λh3=> .jt (λy13=>PV _ ?_)
  λk14 SV=> .c (λ_=>SV _)
  λ_=>SV _
 all_goals (try simp only[NB]at *)<;>omega
def zq2{a0}(ha:mA a0):Ok (Jo a0) λr=>wt r.1≤30000∧mA r.2:=by
 unfold Jo
 refine .b (zqa ?_) λr1 OV=> .b (RA ?_) λr2 fW=> .j (λy3:Af×Ae=>mA y3.1∧wt y3.2≤30000) (λy3 OY=> .s ?_)
  λk4 TV=> .c (λh1=> .b (YA (0) (10) ?_ (by simp) (by decide)) λr5 RV=>TV _ ?_)
  λh1=> .j (λy6:Af×Ae=>mA y6.1∧wt y6.2≤30000) (λy6 yX=>TV _ ?_)
  λk7 UV=> .c (λh2=> .b (YA (0) (33) ?_ (by simp) (by decide)) λr8 BW=> .b (KB ?_ ?_) λr9 SW=>UV _ ?_)
  λh2=> .j (λy10:Af×Ae=>mA y10.1∧wt y10.2≤30000) (λy10 cX=>UV _ ?_)
  λk11 PV=> .c (λh3=> .b (xN ?_) λr12 yW=>PV _ ?_)
  λh3=> .j (λy13:Af×Ae=>mA y13.1∧wt y13.2≤30000) (λy13 GX=>PV _ ?_)
  λk14 SV=> .c (λh4=> .b (RA ?_) λr15 PW=>SV _ ?_)
  λh4=> .j (λy16:Af×Ae=>mA y16.1∧wt y16.2≤30000) (λy16 qY=>SV _ ?_)
  λk17 lW=> .c (λh5=> .b (YA (0) (12) ?_ (by simp) (by decide)) λr18 ZX=> .b (KB ?_ ?_) λr19 FX=>lW _ ?_)
  λh5=> .j (λy20:Af×Ae=>mA y20.1∧wt y20.2≤30000) (λy20 rY=>lW _ ?_)
  λk21 aW=> .c (λh6=> .b (zrR ?_) λr22 fX=>aW _ ?_)
  λh6=> .j (λy23:Af×Ae=>mA y23.1∧wt y23.2≤30000) (λy23 uZ=>aW _ ?_)
  λk24 qW=> .c (λh7=> .b (zi2 ?_) λr25 wX=>qW _ ?_)
  λh7=> .j (λy26:Af×Ae=>mA y26.1∧wt y26.2≤30000) (λy26 v1=>qW _ ?_)
  λk27 dX=> .c (λh8=> .b (zi5 ?_) λr28 R2=>dX _ ?_)
  λh8=> .j (λy29:Af×Ae=>mA y29.1∧wt y29.2≤30000) (λy29 o7=>dX _ ?_)
  λk30 XY=> .c (λh9=> .b (zi5 ?_) λr31 m5=>XY _ ?_)
  λh9=> .j (λy32:Af×Ae=>mA y32.1∧wt y32.2≤30000) (λy32 Z4=>XY _ ?_)
  λk33 bY=> .c (λuW=> .b (YA (-1) (1000001) ?_ (by simp) (by decide)) λr34 b5=>bY _ ?_)
  λuW=> .j (λy35:Ae=>wt y35≤30000) (λy35 s7=>bY _ ?_)
  λk36 pY=> .c (λHW=>pY _ ?_)
  λHW=>pY _ ?_
 all_goals (try simp only[NB]at *)<;>(try simp(disch:=omega) only[DA,JA]at *)<;>omega
def zqk{a0}(ha:mA a0):Ok (Jp a0) λr=>wt r.1≤200∧mA r.2:=by
 unfold Jp
 refine .b (RA ?_) λr1 OV=> .j (λy2:(List (List UInt8))×Af=>wt y2.1≤200∧mA y2.2) (λy2 xW=> .s ?_)
  λk3 KV=> .l (λx4:(List (List UInt8))×Int×Af=>0≤x4.2.1∧x4.2.1≤3∧wt x4.1+33 *x4.2.1≤99∧mA x4.2.2) (λx4:(List (List UInt8))×Int×Af=>x4.2.1.toNat) (λx4 P5 k5 gW=>have hxw:=FB x4.1; .c (λh1=> .b (RA ?_) λr6 vW=> .b (KB ?_ ?_) λr7 IW=>have hi7:=DA (a:=1) (b:=r6.1) ?_ ?_; .g ?_ (gW _ ?_ ?_))
  λh1=>KV _ ?_) ?_ ?_
 all_goals (try simp only[NB]at *)<;>(try simp(disch:=omega) only[DA,JA]at *)<;>omega
def ziM{a0}(ha:mA a0):Ok (Kr a0) λr=>wt r.1≤8500∧mA r.2:=by
 unfold Kr
 refine .b (RA ?_) λr1 OV=> .b zim λr3 tW=> .b (RA ?_) λr4 VV=> .b (RA ?_) λr5 RV=> .j (λy6:Af×Aj=>mA y6.1∧wt y6.2≤8500) (λy6 yX=> .s ?_)
  λk7 UV=> .l (λx8:Int×Int×Af×Aj=>0≤x8.2.1∧x8.2.1≤5∧mA x8.2.2.1∧wt x8.2.2.2+1700 *x8.2.1≤8500) (λx8:Int×Int×Af×Aj=>x8.2.1.toNat) (λx8 W4 k9 bX=> .c (λh1=> .b (RA ?_) λr10 pW=> .b (KB ?_ ?_) λr12 yW=> .b (zjl ?_ ?_) λr13 eX=> .b (RA ?_) λr14 nX=>bX _ ?_ ?_)
  λh1=>UV _ ?_) ?_ ?_
 all_goals (try simp only[NB]at *)<;>(try simp(disch:=omega) only[DA,JA]at *)<;>omega
def zaV{a0}(ha:mA a0):Ok (Fw a0) λr=>wt r.1≤12000∧mA r.2:=by
 unfold Fw
 refine .b (KB ?_ ?_) λr1 OV=> .b (RA ?_) λr2 fW=> .b (zia ?_) λr3 tW=> .b (zig ?_) λr4 VV=> .b (KB ?_ ?_) λr5 RV=> .b (YA (0) (90) ?_ (by simp) (by decide)) λr6 vW=> .b (RA ?_) λr7 IW=> .b (ziA ?_) λr9 SW=> .b (KE ?_) λr10 pW=> .j (λy11:Af×Ah=>mA y11.1∧wt y11.2≤3000) (λy11 GY=> .b (KE ?_) λr14 nX=> .j (λy15:Af×Ah=>mA y15.1∧wt y15.2≤12000) (λy15 m0=> .s ?_)
  λk16 RW=> .c (λh1=> .b (ziM ?_) λr17 YX=>RW _ ?_)
  λh1=>RW _ ?_)
  λk12 ZV=> .c (λh2=> .b (ze6 ?_) λr13 eX=>ZV _ ?_)
  λh2=>ZV _ ?_
 all_goals (try simp only[NB]at *)<;>(try simp(disch:=omega) only[DA,JA]at *)<;>omega
def ziE{a0}(ha:mA a0):Ok (Ks a0) λr=>wt r.1≤80000∧r.1.L.length≤6∧mA r.2:=by
 unfold Ks
 refine .b (RA ?_) λr1 OV=>have ht:=zcz (iA .i64 1 r1.1);have L2:=FB (XD (iA .i64 1 r1.1)).L; .b (RA ?_) λr3 tW=> .j (λy4:Af×Ao=>mA y4.1∧wt y4.2≤80000∧y4.2.L.length≤6) (λy4 BY=> .s ?_)
  λk5 gW=> .l (λx6:Int×Af×Ao=>0≤x6.1∧x6.1≤6∧mA x6.2.1∧wt x6.2.2+12001 *x6.1≤80000∧x6.2.2.L.length+x6.1≤6) (λx6:Int×Af×Ao=>x6.1.toNat) (λx6 b7 k7 UV=> .c (λh1=> .b (zaV ?_) λr8 BW=> .b (ze5 ?_ ?_) λr9 SW=> .j (λy10:Bool×Af=>mA y10.2∧(y10.1=false∨0<r9.1.L.length)) (λy10 cX=> .j (λy13:Af×Ao=>mA y13.1∧wt y13.2≤wt r9.1∧y13.2.L.length≤r9.1.L.length) (λy13 GX=>UV _ ?_ ?_)
  λk14 SV=> .c (λh2=>have z2:=cX.2.resolve_left (by rw[h2];decide); .b (RA ?_) λr15 PW=> .h ?_ (.bg ?_ λe16 sZ NZ=> .b (lR ?_) λr17 YX=>have n9:=mS (x:=r17) sZ; .h ?_ (.m sZ (SV _ ?_))))
  λh2=>SV _ ?_)
  λk11 PV=> .c (λh3=> .b (KE ?_) λr12 yW=>PV _ ?_)
  λh3=>PV _ ?_)
  λh1=>gW _ ?_) ?_ ?_
 all_goals (try simp only[NB,eq_self,true_or]at *)<;>(try simp(disch:=omega) only[DA,JA]at *)<;>omega
def ziJ{a0 a1}(ha:mA a0)(hb:0≤a1∧a1≤100):Ok (Kt a0 a1) λr=>wt r.1≤102∧mA r.2:=by
 unfold Kt;refine have hi:=DA (a:=a1) (b:=1) ?_ ?_;
 .b (RA ?_) λr1 OV=> .j (λy2:(List Al)×Af=>wt y2.1≤102∧mA y2.2) (λy2 xW=> .s ?_)
  λk3 KV=> .l (λx4:(List Al)×Int×Af=>0≤x4.2.1∧x4.2.1≤101∧wt x4.1+x4.2.1≤102∧mA x4.2.2) (λx4:(List Al)×Int×Af=>x4.2.1.toNat) (λx4 P5 k5 gW=> .c (λh1=> .b (RA ?_) λr6 vW=> .b (YA (0) (1000000) ?_ (by simp) (by decide)) λr8 BW=> .b (zjO ?_) λr9 SW=> .b (YA (0) (1000) ?_ (by simp) (by decide)) λr10 pW=> .b (zje ?_) λr11 zW=>gW _ ?_ ?_)
  λh1=>KV _ ?_) ?_ ?_
 all_goals (try simp only[NB]at *)<;>(try simp(disch:=omega) only[DA,JA]at *)<;>omega
def zql{a0}(ha:mA a0):Ok (Jq a0) λr=>wt r.1≤700000∧mA r.2:=by
 unfold Jq
 refine .b (zqk ?_) λr1 OV=> .b (KB ?_ ?_) λr2 fW=> .b (RA ?_) λr3 tW=> .b (zrh ?_) λr4 VV=> .b (ziE ?_) λr5 RV=> .j (λy6:Ac=>wt y6≤600000) (λy6 yX=> .b (ziJ ?_ ?_) λr15 PW=> .b (RA ?_) λr16 jX=> .s ?_)
  λk7 UV=> .l (λx8:Int×Ac=>0≤x8.1∧x8.1≤(r5.1.L.length:Int)∧wt x8.2≤1300+80001 *x8.1) (λx8:Int×Ac=>((r5.1.L.length:Int) - x8.1).toNat) (λx8 W4 k9 bX=> .c (λh1=> .h ?_ (.bg ?_ λe10 oY xX=> .j (λy11:Ac=>wt y11≤1300+80001 *x8.1+80001) (λy11 GY=>bX _ ?_ ?_)
  λk12 ZV=> .c (λh2=> .h ?_ (.bg ?_ λe13 D8 U3=> .b (ze5 ?_ ?_) λr14 nX=>ZV _ ?_))
  λh2=>ZV _ ?_))
  λh1=>UV _ ?_) ?_ ?_
 all_goals (try simp only[NB]at *)<;>(try simp(disch:=omega) only[DA,JA]at *)<;>omega
def zq8{a0 a1 a2}(ha:mA a0):Ok (Jr a0 a1 a2) λr=>wt r.1≤wt a1+wt a2∧mA r.2:=by
 unfold Jr
 refine .b (KE ?_) λr1 OV=> .c (λh1=> .s ?_)
  λh1=> .s ?_
 all_goals (try simp only[NB]at *)<;>omega
def zqQ{a0}(ha:mA a0):Ok (Js a0) λr=>wt r.1≤40∧mA r.2:=by
 unfold Js
 refine .b (KB ?_ ?_) λr1 OV=>have hj:=rS r1.1; .b (KE ?_) λr3 tW=> .j (λy4:Af×Ba=>mA y4.1∧wt y4.2≤40) (λy4 BY=> .s ?_)
  λk5 gW=> .c (λh1=> .b (YA (0) (32) ?_ (by simp) (by decide)) λr6 vW=> .b (KB ?_ ?_) λr7 IW=>gW _ ?_)
  λh1=>gW _ ?_
 all_goals (try simp only[NB]at *)<;>omega
def zrb{a0}(ha:mA a0):Ok (Jt a0) λr=>wt r.1≤30000∧mA r.2:=by
 unfold Jt
 refine .b (ziM ?_) λr1 OV=> .j (λy2:Bool×Af=>mA y2.2∧(y2.1=true∨0<r1.1.Cands.length)) (λy2 xW=> .c (λh1=> .s ?_)
  λh1=>have z2:=xW.2.resolve_left (by rw[h1];decide); .b (RA ?_) λr5 RV=> .b (RA ?_) λr6 vW=> .j (λy7:Af×Aj=>mA y7.1∧wt y7.2≤30000) (λy7 xY=> .s ?_)
  λk8 sW=> .c (λh2=> .b (xN ?_) λr9 SW=>sW _ ?_)
  λh2=> .j (λy10:Af×Aj=>mA y10.1∧wt y10.2≤30000) (λy10 cX=>sW _ ?_)
  λk11 PV=> .c (λh3=> .b (xN ?_) λr12 yW=> .h ?_ (.bg ?_ λe13 D8 U3=>PV _ (have:=EC r1.1.Cands r5.1.toNat (⟨r12.1,e13.Draw,e13.Until⟩:Az);?_)))
  λh3=> .j (λy15:Af×Aj=>mA y15.1∧wt y15.2≤30000) (λy15 m0=>PV _ ?_)
  λk16 RW=> .c (λh4=> .b (KB ?_ ?_) λr17 YX=> .h ?_ (.bg ?_ λe18 o5 A1=>RW _ (have:=EC r1.1.Cands r5.1.toNat (⟨e18.A,r17.1,e18.Until⟩:Az);?_)))
  λh4=> .j (λy20:Af×Aj=>mA y20.1∧wt y20.2≤30000) (λy20 rY=>RW _ ?_)
  λk21 aW=> .c (λh5=> .b (YA (-1) (1000007) ?_ (by simp) (by decide)) λr22 fX=> .h ?_ (.bg ?_ λe23 A7 S3=>aW _ (have:=EC r1.1.Cands r5.1.toNat (⟨e23.A,e23.Draw,r22.1⟩:Az);?_)))
  λh5=> .j (λy25:Aj=>wt y25≤30000) (λy25 X2=>aW _ ?_)
  λk26 gY=> .c (λh6=> .h ?_ (.bg ?_ λe27 Y7 T3=>gY _ ?_))
  λh6=>gY _ ?_)
  λk3 KV=> .c (λh7=>KV _ ?_)
  λh7=> .b (KE ?_) λr4 VV=>KV _ ?_
 all_goals (try simp only[NB,eq_self,true_or]at *)<;>omega
def zra{a0}(ha:mA a0):Ok (Ju a0) λr=>wt r.1≤100000∧mA r.2:=by
 unfold Ju
 refine .b (zaV ?_) λr1 OV=> .b (RA ?_) λr2 fW=> .j (λy3:Af×Ah×Ah=>mA y3.1∧wt y3.2.1≤100000) (λy3 OY=> .s ?_)
  λk4 TV=> .c (λh1=> .b (YA (0) (10) ?_ (by simp) (by decide)) λr5 RV=>TV _ ?_)
  λh1=> .j (λy6:Af×Ah×Ah=>mA y6.1∧wt y6.2.1≤100000) (λy6 yX=>TV _ ?_)
  λk7 UV=> .c (λh2=> .b (KB ?_ ?_) λr8 BW=>UV _ ?_)
  λh2=> .j (λy9:Af×Ah×Ah=>mA y9.1∧wt y9.2.1≤100000) (λy9 UY=>UV _ ?_)
  λk10 QV=> .c (λh3=> .b (YA (11) (12) ?_ (by simp) (by decide)) λr11 zW=> .b (KB ?_ ?_) λr12 yW=>QV _ ?_)
  λh3=> .j (λy13:Af×Ah×Ah=>mA y13.1∧wt y13.2.1≤100000) (λy13 GX=>QV _ ?_)
  λk14 SV=> .c (λh4=> .b (zi2 ?_) λr15 PW=>SV _ ?_)
  λh4=> .j (λy16:Af×Ah×Ah=>mA y16.1∧wt y16.2.1≤100000) (λy16 qY=>SV _ ?_)
  λk17 lW=> .c (λh5=> .b (zrb ?_) λr18 ZX=>lW _ ?_)
  λh5=> .j (λy19:Af×Ah×Ah=>mA y19.1∧wt y19.2.1≤100000) (λy19 hy19=>lW _ ?_)
  λk20 dY=> .c (λh6=> .b (YA (-1) (1000001) ?_ (by simp) (by decide)) λr21 o0=>dY _ ?_)
  λh6=> .j (λy22:Af×Ah×Ah=>mA y22.1∧wt y22.2.1≤100000) (λy22 Y4=>dY _ ?_)
  λk23 aY=> .c (λh7=> .b (YA (-1) (1000001) ?_ (by simp) (by decide)) λr24 vX=>aY _ ?_)
  λh7=> .j (λy25:Ah×Ah=>wt y25.1≤100000) (λy25 X2=>aY _ ?_)
  λk26 gY=> .c (λh8=>gY _ ?_)
  λh8=> .jt (λy27=> .c (λh9=> .b (lR ?_) λr29 vZ=> .s ?_)
  λh9=>gY _ ?_)
  λk28 gX=> .c (λ_=>gX _)
  λ_=>gX _
 all_goals (try simp only[NB]at *)<;>omega
def zq5{a0}(ha:mA a0):Ok (Jv a0) λr=>wt r.1≤1000000∧mA r.2:=by
 unfold Jv
 refine .b (ziE ?_) λr1 OV=>have hlw:=FB r1.1.L; .b (RA ?_) λr2 fW=> .j (λy3:Af×Ao=>mA y3.1∧wt y3.2≤1000000) (λy3 OY=> .s ?_)
  λk4 TV=> .c (λh1=> .b (YA (0) (7) ?_ (by simp) (by decide)) λr5 RV=>TV _ ?_)
  λh1=> .j (λy6:Af×Ao=>mA y6.1∧wt y6.2≤1000000) (λy6 yX=>TV _ ?_)
  λk7 UV=> .c (λh2=> .b (zra ?_) λr8 BW=> .g ?_ (UV _ ?_))
  λh2=> .j (λy9:Ao×Af=>wt y9.1≤1000000∧mA y9.2) (λy9 UY=>UV _ ?_)
  λk10 QV=> .c (λh3=> .j (λy11:Ao=>wt y11≤1000000) (λy11 GY=>QV _ ?_)
  λk12 ZV=> .c (λh4=> .h ?_ (.bg ?_ λe13 D8 U3=> .h ?_ (.bg ?_ λe14 ZZ VY=>ZV _ (have:=EC r1.1.L 1 (⟨e14.Id,e14.Cn,e13.Sn,e14.C,e14.P,e14.Tick,e14.Last,e14.Dead⟩:Ah);?_))))
  λh4=>ZV _ ?_)
  λh3=> .j (λy16:Af×Ao=>mA y16.1∧wt y16.2≤1000000) (λy16 qY=>QV _ ?_)
  λk17 lW=> .c (λh5=> .b (zaV ?_) λr18 ZX=> .b (lR ?_) λr19 FX=> .b (YA (9) (13) ?_ (by simp) (by decide)) λr20 FY=> .j (λy21:Af×Ah×Ao=>mA y21.1∧wt y21.2.2≤1000000) (λy21 z1=>lW _ ?_)
  λk22 UW=> .l (λx23:Int×Af×Ah×Ao=>0≤x23.1∧x23.1≤13∧mA x23.2.1∧wt x23.2.2.1+12 *x23.1≤20000∧wt x23.2.2.2+30000 *x23.1≤600000) (λx23:Int×Af×Ah×Ao=>x23.1.toNat) (λx23 hx23 k24 qW=>have hxw:=FB x23.2.2.2.L; .c (λh6=> .b (KB ?_ ?_) λr25 wX=> .g ?_ (qW _ ?_ ?_))
  λh6=>UW _ ?_) ?_ ?_)
  λh5=>lW _ ?_
 all_goals (try simp only[NB]at *)<;>(try simp(disch:=omega) only[DA,JA]at *)<;>omega
def zqU{a0}(ha:mA a0):Ok (Jw a0) λr=>wt r.1≤10000∧mA r.2:=by
 unfold Jw
 refine .b (ziJ ?_ ?_) λr1 OV=>have hlw:=FB r1.1; .c (λh1=> .s ?_)
  λh1=> .b (RA ?_) λr2 fW=> .b (RA ?_) λr3 tW=> .j (λy4:(List Al)×Af=>wt y4.1≤10000∧mA y4.2) (λy4 BY=> .s ?_)
  λk5 gW=> .c (λh2=> .b (xN ?_) λr6 vW=> .h ?_ (.bg ?_ λe7 YZ EY=>gW _ (have:=EC r1.1 r2.1.toNat (⟨r6.1,e7.Got,e7.Sent⟩:Al);?_)))
  λh2=> .j (λy9:(List Al)×Af=>wt y9.1≤10000∧mA y9.2) (λy9 UY=>gW _ ?_)
  λk10 QV=> .c (λh3=> .b (YA (-1) (1000001) ?_ (by simp) (by decide)) λr11 zW=> .h ?_ (.bg ?_ λe12 he12 t7=>QV _ (have:=EC r1.1 r2.1.toNat (⟨e12.A,r11.1,e12.Sent⟩:Al);?_)))
  λh3=> .j (λy14:(List Al)×Af=>wt y14.1≤10000∧mA y14.2) (λy14 Z0=>QV _ ?_)
  λk15 QW=> .c (λh4=> .h ?_ (.bg ?_ λe16 sZ NZ=> .b (zxy ?_ (by simp)) λr17 YX=> .h ?_ (.bg ?_ λe18 o5 A1=>QW _ (have:=EC r1.1 r2.1.toNat (⟨e18.A,e18.Got,r17.1⟩:Al);?_))))
  λh4=> .j (λy20:(List Al)=>wt y20≤10000) (λy20 rY=>QW _ ?_)
  λk21 aW=> .c (λh5=> .h ?_ (.bg ?_ λe22 xZ M1=> .g ?_ (aW _ ?_)))
  λh5=>aW _ ?_
 all_goals (try simp only[NB]at *)<;>(try simp(disch:=omega) only[DA,JA]at *)<;>omega
def zqn{a0}(ha:mA a0):Ok (Jy a0) λr=>wt r.1≤40∧mA r.2:=by
 unfold Jy;refine .b (RA ?_) λr1 OV=> .b (KB ?_ ?_) λr2 fW=>have hi2:=DA (a:=1) (b:=r1.1) ?_ ?_; .b (RA ?_) λr3 tW=> .s ?_
 all_goals (try simp only[NB]at *)<;>(try simp(disch:=omega) only[DA,JA]at *)<;>omega
def zqv{a0}(ha:mA a0):Ok (Jz a0) λr=>wt r.1≤100∧mA r.2:=by
 unfold Jz
 refine .b (zqn ?_) λr1 OV=> .b (RA ?_) λr2 fW=> .j (λy3:Af×Au=>mA y3.1∧wt y3.2≤100) (λy3 OY=> .s ?_)
  λk4 TV=> .c (λh1=> .b (YA (-1) (10001) ?_ (by simp) (by decide)) λr5 RV=>TV _ ?_)
  λh1=> .j (λy6:Af×Au=>mA y6.1∧wt y6.2≤100) (λy6 yX=>TV _ ?_)
  λk7 UV=> .c (λh2=> .b (YA (0) (33) ?_ (by simp) (by decide)) λr8 BW=> .b (KB ?_ ?_) λr9 SW=>UV _ ?_)
  λh2=>UV _ ?_
 all_goals (try simp only[NB]at *)<;>omega
def zqy{a0}(ha:mA a0):Ok (Jx a0) λr=>wt r.1≤3000000∧mA r.2:=by
 unfold Jx
 refine .b (zql ?_) λr1 OV=>have DZ:=FB r1.1.Psks;have L2:=FB r1.1.T.L; .b (RA ?_) λr2 fW=> .j (λy3:Af×Ac=>mA y3.1∧wt y3.2≤3000000) (λy3 OY=> .s ?_)
  λk4 TV=> .c (λh1=> .b (zq8 ?_) λr5 RV=>TV _ ?_)
  λh1=> .j (λy6:Af×Ac=>mA y6.1∧wt y6.2≤3000000) (λy6 yX=>TV _ ?_)
  λk7 UV=> .c (λh2=> .b (zqQ ?_) λr8 BW=>UV _ ?_)
  λh2=> .j (λy9:Af×Ac=>mA y9.1∧wt y9.2≤3000000) (λy9 UY=>UV _ ?_)
  λk10 QV=> .c (λh3=> .b (YA (-1) (10001) ?_ (by simp) (by decide)) λr11 zW=>QV _ ?_)
  λh3=> .j (λy12:Af×Ac=>mA y12.1∧wt y12.2≤3000000) (λy12 nY=>QV _ ?_)
  λk13 iW=> .c (λh4=> .b (zq5 ?_) λr14 nX=>iW _ ?_)
  λh4=> .j (λy15:Af×Ac=>mA y15.1∧wt y15.2≤3000000) (λy15 m0=>iW _ ?_)
  λk16 RW=> .c (λh5=> .b (zqU ?_) λr17 YX=>RW _ ?_)
  λh5=> .j (λy18:Ac×Af=>wt y18.1≤3000000∧mA y18.2) (λy18 A0=>RW _ ?_)
  λk19 GW=> .c (λh6=> .g ?_ (GW _ ?_))
  λh6=> .j (λy20:Af×Ac=>mA y20.1∧wt y20.2≤3000000) (λy20 rY=>GW _ ?_)
  λk21 aW=> .c (λh7=> .b (zaV ?_) λr22 fX=> .b (lR ?_) λr23 IY=> .g ?_ (aW _ ?_))
  λh7=>aW _ ?_
 all_goals (try simp only[NB]at *)<;>omega
def zqf{a0}(ha:mA a0):Ok (Ka a0) λr=>wt r.1≤300∧mA r.2:=by
 unfold Ka
 refine .b (KE ?_) λr1 OV=> .c (λh1=> .b (RA ?_) λr2 fW=> .b (RA ?_) λr4 VV=> .b (YA (0) (200) ?_ (by simp) (by decide)) λr6 vW=> .b (KB ?_ ?_) λr7 IW=> .s ?_)
  λh1=> .b (RA ?_) λr8 BW=> .b (RA ?_) λr10 pW=> .b (ziZ ?_) λr12 yW=> .b (zeZ ?_) λr13 eX=> .s ?_
 all_goals (try simp only[NB]at *)<;>omega
def zqR{a0}(ha:mA a0):Ok (Kb a0) λr=>wt r.1≤600∧mA r.2:=by
 unfold Kb
 refine .b (zqf ?_) λr1 OV=> .b (RA ?_) λr2 fW=> .j (λy3:Af×Ap=>mA y3.1∧wt y3.2≤600) (λy3 OY=> .s ?_)
  λk4 TV=> .c (λh1=> .b (xN ?_) λr5 RV=>TV _ ?_)
  λh1=> .j (λy6:Af×Ap=>mA y6.1∧wt y6.2≤600) (λy6 yX=>TV _ ?_)
  λk7 UV=> .c (λh2=> .b (xN ?_) λr8 BW=>UV _ ?_)
  λh2=> .j (λy9:Af×Ap=>mA y9.1∧wt y9.2≤600) (λy9 UY=>UV _ ?_)
  λk10 QV=> .c (λh3=> .b (KB ?_ ?_) λr11 zW=>QV _ ?_)
  λh3=>QV _ ?_
 all_goals (try simp only[NB]at *)<;>omega
end Go.D
namespace Go.D
def zqF{a0 a1}(ha:mA a0)(hb:a1≤40):Ok (Kc a0 a1) λr=>wt r.1≤800000000∧mA r.2:=by
 unfold Kc
 refine .b (zpw ?_ ?_) λr1 OV=>have C3:=FB r1.1.Seen;have d4:=FB r1.1.Known;have jW:=FB r1.1.Notes; .b (RA ?_) λr2 fW=> .j (λy3:Af×Ab=>mA y3.1∧wt y3.2≤800000000) (λy3 OY=> .s ?_)
  λk4 TV=> .c (λh1=> .b (YA (-1) (1000001) ?_ (by simp) (by decide)) λr5 RV=>TV _ ?_)
  λh1=> .j (λy6:Af×Ab=>mA y6.1∧wt y6.2≤800000000) (λy6 yX=>TV _ ?_)
  λk7 UV=> .c (λh2=> .b (RA ?_) λr8 BW=> .b (zq2 ?_) λr9 SW=> .h ?_ (.bg ?_ λe10 oY xX=>UV _ (have:=EC r1.1.Clients r8.1.toNat r9.1;?_)))
  λh2=> .j (λy11:Af×Ab=>mA y11.1∧wt y11.2≤800000000) (λy11 GY=>UV _ ?_)
  λk12 ZV=> .c (λh3=> .b (RA ?_) λr13 eX=> .h ?_ (ZV _ (have:=VD r1.1.Clients ((r13.1 - 0).toNat);?_)))
  λh3=> .j (λy14:Af×Ab=>mA y14.1∧wt y14.2≤800000000) (λy14 Z0=>ZV _ ?_)
  λk15 QW=> .c (λh4=> .b (zqy ?_) λr16 jX=>QW _ ?_)
  λh4=> .j (λy17:Af×Ab=>mA y17.1∧wt y17.2≤800000000) (λy17 eZ=>QW _ ?_)
  λk18 FW=> .c (λh5=> .b (zqv ?_) λr19 FX=>FW _ ?_)
  λh5=> .j (λy20:Af×Ab=>mA y20.1∧wt y20.2≤800000000) (λy20 rY=>FW _ ?_)
  λk21 aW=> .c (λh6=> .b (zqR ?_) λr22 fX=> .g ?_ (aW _ ?_))
  λh6=> .j (λy23:Af×Ab=>mA y23.1∧wt y23.2≤800000000) (λy23 uZ=>aW _ ?_)
  λk24 qW=> .c (λh7=> .b (YA (31) (32) ?_ (by simp) (by decide)) λr25 wX=> .b (KB ?_ ?_) λr26 JX=> .g ?_ (qW _ ?_))
  λh7=> .j (λy27:Af×Ab=>mA y27.1∧wt y27.2≤800000000) (λy27 n5=>qW _ ?_)
  λk28 gX=> .c (λh8=> .b (zq0 ?_) λr29 vZ=> .g ?_ (gX _ ?_))
  λh8=> .j (λy30:Ab=>wt y30≤800000000) (λy30 hy30=>gX _ ?_)
  λk31 dZ=> .c (λh9=> .h ?_ (.bg ?_ λe32 b8 d8=>dZ _ (have:=EC r1.1.Clients 0 (⟨2,e32.Psk,e32.At,e32.St,e32.Cn,e32.Fin,e32.C,e32.T,e32.R,e32.Last⟩:Ae);?_)))
  λh9=> .j (λy34:Ab=>wt y34≤800000000) (λy34 W2=>dZ _ ?_)
  λk35 fY=> .c (λuW=> .h ?_ (.bg ?_ λe36 he36 he36w=>fY _ (have:=EC r1.1.Clients 0 (⟨e36.Id,[UInt8.ofNat (1:Int).toNat],e36.At,e36.St,e36.Cn,e36.Fin,e36.C,e36.T,e36.R,e36.Last⟩:Ae);?_)))
  λuW=>fY _ ?_
 all_goals (try simp only[NB]at *)<;>omega
end Go.D

/-
 Sizes of the program's data.
-/
import Derived.Test.YtfealdecpglcnaaGreatN10
set_option linter.all false
namespace Go.D
end Go.D
namespace Go.D
end Go.D
namespace Go.D
open Option renaming bind→ob
noncomputable section
def Kc(a0:Af):=
 ob (Ay a0 12) λr1=>
 ob (Ay r1.2 12) λr2=>
 ob (Ar r2.2 300) λr3=>
 ob (Ay r3.2 16) λr4=>
 some ((⟨2,0,r1.1,r2.1,r3.1,r4.1,[],0,0,[],[]⟩:Aa),r4.2)
def Kd(a0:Af)(a1:Int):=
 ob (Bf a1) λr1=>
 ob (Ar a0 6) λr2=>
 aA (λ(y3:Av)=>
 some (y3,r2.2)) λk4=>
 qA FU (λ(x5:Int×Av) k6=>
 cond (decide (x5.1>0))
 (ob (Cp x5.2 x5.2.Due) λr7=>
 k6 ((wA .i64 x5.1 1),r7.1))
 (k4 x5.2)) (r2.1,r1)
def Je(a0:Af):=
 ob (Ar a0 3) λr1=>
 ob (Ar r1.2 32) λr2=>
 ob (Ay r2.2 (iA .i64 1 r2.1)) λr3=>
 ob (Ar r3.2 5) λr4=>
 let r5:Ai:=KB (iA .i64 1 r4.1)
 ob (DI (iA .i64 1 r1.1) r3.1 r5) λr6=>
 ob (As r4.2 [0,1,2,2,3,3,3,3]) λr7=>
 cond (r7.1==0)
 (some (r6,r7.2))
 (ob (As r7.2 [0,0,5,90]) λr8=>
 ob (Ay r8.2 12) λr9=>
 ob (Fa r6 r8.1 r9.1) λr10=>
 ob (Ar r9.2 3) λr11=>
 ob (Cp r10.1.T (iA .i64 r8.1 r11.1)) λr12=>
 cond (r7.1==1)
 (some ((⟨r10.1.Id,r10.1.Psk,r10.1.At,r10.1.St,r10.1.Cn,r10.1.Fin,r10.1.C,r12.1,r10.1.R,r10.1.Last⟩:Ad),r11.2))
 (ob (Kc r11.2) λr13=>
 ob (Ei (⟨r10.1.Id,r10.1.Psk,r10.1.At,r10.1.St,r10.1.Cn,r10.1.Fin,r10.1.C,r12.1,r10.1.R,r10.1.Last⟩:Ad) r8.1 (⟨r13.1.Kind,r13.1.Id,r10.1.Cn,r13.1.Sn,r13.1.Tick,r13.1.Cookie,r13.1.Proof,r13.1.Epoch,r13.1.Seq,r13.1.Body,r13.1.Tag⟩:Aa)) λr14=>
 cond (r7.1==2)
 (ob (Ar r13.2 5) λr15=>
 aA (λ(y16:Ad)=>
 aA (λ(y21:Ad)=>
 some (y21,r15.2)) λk22=>
 cond (!y16.T.On)
 (ob (Bf r8.1) λr23=>
 k22 (⟨y16.Id,y16.Psk,y16.At,y16.St,y16.Cn,y16.Fin,y16.C,r23,y16.R,y16.Last⟩:Ad))
 (k22 y16)) λk17=>
 qA FU (λ(x18:Int×Ad) k19=>
 cond (decide (x18.1>0))
 (ob (Cp x18.2.T x18.2.T.Due) λr20=>
 k19 ((wA .i64 x18.1 1),(⟨x18.2.Id,x18.2.Psk,x18.2.At,x18.2.St,x18.2.Cn,x18.2.Fin,x18.2.C,r20.1,x18.2.R,x18.2.Last⟩:Ad)))
 (k17 x18.2)) (r15.1,r14.1))
 (ob (Bk 0) λr24=>
 ob (Dw r14.1.C.Cur.Key 1 r14.1.C.Sn 0 0 8 r24) λr25=>
 ob (Ei r14.1 r8.1 r25.1) λr26=>
 ob (Bb r13.2 2) λr27=>
 aA (λ(y28:Af×Ad)=>
 some (y28.2,y28.1)) λk29=>
 cond (r27.1)
 (ob (Hp r27.2 0) λr30=>
 aA (λ(y31:Af×Ad)=>
 k29 (y31.1,y31.2)) λk32=>
 cond (decide ((r30.1.Next.length:Int)>0))
 (ob (Kd r30.2 r8.1) λr33=>
 aA (λ(y34:Ad)=>
 k32 (r33.2,y34)) λk35=>
 cond (!r33.1.On)
 (ob (Bf r8.1) λr36=>
 k35 (⟨r26.1.Id,r26.1.Psk,r26.1.At,r26.1.St,r26.1.Cn,r26.1.Fin,r30.1,r26.1.T,r36,r26.1.Last⟩:Ad))
 (k35 (⟨r26.1.Id,r26.1.Psk,r26.1.At,r26.1.St,r26.1.Cn,r26.1.Fin,r30.1,r26.1.T,r33.1,r26.1.Last⟩:Ad)))
 (k32 (r30.2,(⟨r26.1.Id,r26.1.Psk,r26.1.At,r26.1.St,r26.1.Cn,r26.1.Fin,r30.1,r26.1.T,r26.1.R,r26.1.Last⟩:Ad))))
 (k29 (r27.2,r26.1)))))
def Ke(a0:Af):=
 ob (Ar a0 8) λr1=>
 aA (λ(y2:Af×Aa)=>
 some (y2.2,y2.1)) λk3=>
 cond ((iA .i64 1 r1.1)==1)
 (ob (Ar r1.2 9) λr4=>
 ob (Ay r4.2 12) λr5=>
 k3 (r5.2,(⟨iA .i64 1 r1.1,iA .i64 1 r4.1,r5.1,[],0,[],[],0,0,[],[]⟩:Aa)))
 (aA (λ(y6:Bool)=>
 aA (λ(y8:Af×Aa)=>
 k3 (y8.1,y8.2)) λk9=>
 cond (y6)
 (ob (Ay r1.2 12) λr10=>
 ob (Ay r10.2 12) λr11=>
 ob (As r11.2 [0,1,300,1000000]) λr12=>
 ob (Ay r12.2 16) λr13=>
 aA (λ(y14:Af×Aa)=>
 k9 (y14.1,y14.2)) λk15=>
 cond ((iA .i64 1 r1.1)==3)
 (ob (Ar r13.2 9) λr16=>
 ob (Ay r16.2 16) λr17=>
 k15 (r17.2,(⟨iA .i64 1 r1.1,iA .i64 1 r16.1,r10.1,r11.1,r12.1,r13.1,r17.1,0,0,[],[]⟩:Aa)))
 (k15 (r13.2,(⟨iA .i64 1 r1.1,0,r10.1,r11.1,r12.1,r13.1,[],0,0,[],[]⟩:Aa))))
 (ob (Ay r1.2 12) λr18=>
 ob (As r18.2 [0,1,2,4294967295]) λr19=>
 ob (As r19.2 [0,1,70000,281474976710655]) λr20=>
 ob (Ay r20.2 16) λr21=>
 ob (As r21.2 [0,1,12,40]) λr22=>
 aA (λ(y23:Bool)=>
 aA (λ(y25:Int)=>
 aA (λ(y27:Int)=>
 ob (Ay r22.2 y27) λr29=>
 k9 (r29.2,(⟨iA .i64 1 r1.1,0,[],r18.1,0,[],[],r19.1,r20.1,r29.1,r21.1⟩:Aa))) λk28=>
 cond (decide ((iA .i64 1 r1.1)≥7))
 (k28 4)
 (k28 y25)) λk26=>
 cond (y23)
 (k26 12)
 (k26 r22.1)) λk24=>
 cond ((iA .i64 1 r1.1)==5)
 (k24 true)
 (k24 ((iA .i64 1 r1.1)==6)))) λk7=>
 cond ((iA .i64 1 r1.1)==2)
 (k7 ((iA .i64 1 r1.1)==2))
 (k7 ((iA .i64 1 r1.1)==3)))
def Jf(a0:Af):=
 ob (Ke a0) λr1=>
 ob (Ar r1.2 22) λr2=>
 aA (λ(y3:Af×Aa)=>
 some (y3.2,y3.1)) λk4=>
 cond (r2.1==0)
 (ob (Ar r2.2 11) λr5=>
 k4 (r5.2,(⟨wA .i64 r5.1 1,r1.1.Id,r1.1.Cn,r1.1.Sn,r1.1.Tick,r1.1.Cookie,r1.1.Proof,r1.1.Epoch,r1.1.Seq,r1.1.Body,r1.1.Tag⟩:Aa)))
 (aA (λ(y6:Af×Aa)=>
 k4 (y6.1,y6.2)) λk7=>
 cond (r2.1==1)
 (ob (As r2.2 [0,1,10,(-1)]) λr8=>
 k7 (r8.2,(⟨r1.1.Kind,r8.1,r1.1.Cn,r1.1.Sn,r1.1.Tick,r1.1.Cookie,r1.1.Proof,r1.1.Epoch,r1.1.Seq,r1.1.Body,r1.1.Tag⟩:Aa)))
 (aA (λ(y9:Af×Aa)=>
 k7 (y9.1,y9.2)) λk10=>
 cond (r2.1==2)
 (ob (As r2.2 [0,11,12,13]) λr11=>
 ob (Ay r11.2 r11.1) λr12=>
 k10 (r12.2,(⟨r1.1.Kind,r1.1.Id,r12.1,r1.1.Sn,r1.1.Tick,r1.1.Cookie,r1.1.Proof,r1.1.Epoch,r1.1.Seq,r1.1.Body,r1.1.Tag⟩:Aa)))
 (aA (λ(y13:Af×Aa)=>
 k10 (y13.1,y13.2)) λk14=>
 cond (r2.1==3)
 (ob (As r2.2 [0,11,12,13]) λr15=>
 ob (Ay r15.2 r15.1) λr16=>
 k14 (r16.2,(⟨r1.1.Kind,r1.1.Id,r1.1.Cn,r16.1,r1.1.Tick,r1.1.Cookie,r1.1.Proof,r1.1.Epoch,r1.1.Seq,r1.1.Body,r1.1.Tag⟩:Aa)))
 (aA (λ(y17:Af×Aa)=>
 k14 (y17.1,y17.2)) λk18=>
 cond (r2.1==4)
 (ob (As r2.2 [(-1),0,1000001]) λr19=>
 k18 (r19.2,(⟨r1.1.Kind,r1.1.Id,r1.1.Cn,r1.1.Sn,r19.1,r1.1.Cookie,r1.1.Proof,r1.1.Epoch,r1.1.Seq,r1.1.Body,r1.1.Tag⟩:Aa)))
 (aA (λ(y20:Af×Aa)=>
 k18 (y20.1,y20.2)) λk21=>
 cond (r2.1==5)
 (ob (As r2.2 [0,15,16]) λr22=>
 ob (Ay r22.2 r22.1) λr23=>
 k21 (r23.2,(⟨r1.1.Kind,r1.1.Id,r1.1.Cn,r1.1.Sn,r1.1.Tick,r23.1,r1.1.Proof,r1.1.Epoch,r1.1.Seq,r1.1.Body,r1.1.Tag⟩:Aa)))
 (aA (λ(y24:Af×Aa)=>
 k21 (y24.1,y24.2)) λk25=>
 cond (r2.1==6)
 (ob (As r2.2 [0,15,16]) λr26=>
 ob (Ay r26.2 r26.1) λr27=>
 k25 (r27.2,(⟨r1.1.Kind,r1.1.Id,r1.1.Cn,r1.1.Sn,r1.1.Tick,r1.1.Cookie,r27.1,r1.1.Epoch,r1.1.Seq,r1.1.Body,r1.1.Tag⟩:Aa)))
 (aA (λ(y28:Af×Aa)=>
 k25 (y28.1,y28.2)) λk29=>
 cond (r2.1==7)
 (ob (As r2.2 [(-1),0,4294967296]) λr30=>
 k29 (r30.2,(⟨r1.1.Kind,r1.1.Id,r1.1.Cn,r1.1.Sn,r1.1.Tick,r1.1.Cookie,r1.1.Proof,r30.1,r1.1.Seq,r1.1.Body,r1.1.Tag⟩:Aa)))
 (aA (λ(y31:Af×Aa)=>
 k29 (y31.1,y31.2)) λk32=>
 cond (r2.1==8)
 (ob (As r2.2 [(-1),0,281474976710656]) λr33=>
 k32 (r33.2,(⟨r1.1.Kind,r1.1.Id,r1.1.Cn,r1.1.Sn,r1.1.Tick,r1.1.Cookie,r1.1.Proof,r1.1.Epoch,r33.1,r1.1.Body,r1.1.Tag⟩:Aa)))
 (aA (λ(y34:Af×Aa)=>
 k32 (y34.1,y34.2)) λk35=>
 cond (r2.1==9)
 (ob (As r2.2 [0,4,12,41]) λr36=>
 ob (Ay r36.2 r36.1) λr37=>
 k35 (r37.2,(⟨r1.1.Kind,r1.1.Id,r1.1.Cn,r1.1.Sn,r1.1.Tick,r1.1.Cookie,r1.1.Proof,r1.1.Epoch,r1.1.Seq,r37.1,r1.1.Tag⟩:Aa)))
 (aA (λ(y38:Af×Aa)=>
 k35 (y38.1,y38.2)) λk39=>
 cond (r2.1==10)
 (ob (As r2.2 [0,15,17]) λr40=>
 ob (Ay r40.2 r40.1) λr41=>
 k39 (r41.2,(⟨r1.1.Kind,r1.1.Id,r1.1.Cn,r1.1.Sn,r1.1.Tick,r1.1.Cookie,r1.1.Proof,r1.1.Epoch,r1.1.Seq,r1.1.Body,r41.1⟩:Aa)))
 (k39 (r2.2,r1.1))))))))))))
def Kf(a0:Af):=
 ob (As a0 [0,5,999990,1000000]) λr1=>
 ob (Kd r1.2 r1.1) λr2=>
 ob (Ar r2.2 10) λr3=>
 aA (λ(y4:Af×Av)=>
 some (y4.2,y4.1)) λk5=>
 cond (r3.1==0)
 (ob (As r3.2 [(-1),1000008,1000009]) λr6=>
 k5 (r6.2,(⟨r2.1.On,r6.1,r2.1.Wait,r2.1.Tries⟩:Av)))
 (aA (λ(y7:Af×Av)=>
 k5 (y7.1,y7.2)) λk8=>
 cond (r3.1==1)
 (ob (As r3.2 [0,1,3,8,16]) λr9=>
 k8 (r9.2,(⟨r2.1.On,r2.1.Due,r9.1,r2.1.Tries⟩:Av)))
 (aA (λ(y10:Af×Av)=>
 k8 (y10.1,y10.2)) λk11=>
 cond (r3.1==2)
 (ob (As r3.2 [0,1,5,6]) λr12=>
 k11 (r12.2,(⟨r2.1.On,r2.1.Due,r2.1.Wait,r12.1⟩:Av)))
 (aA (λ(y13:Av)=>
 k11 (r3.2,y13)) λk14=>
 cond (r3.1==3)
 (k14 (⟨!r2.1.On,r2.1.Due,r2.1.Wait,r2.1.Tries⟩:Av))
 (k14 r2.1))))
def Jg(a0:Af):=
 ob (Je a0) λr1=>
 ob (Ar r1.2 26) λr2=>
 aA (λ(y3:Af×Ad)=>
 some (y3.2,y3.1)) λk4=>
 cond (r2.1==0)
 (ob (As r2.2 [0,10,4]) λr5=>
 k4 (r5.2,(⟨r5.1,r1.1.Psk,r1.1.At,r1.1.St,r1.1.Cn,r1.1.Fin,r1.1.C,r1.1.T,r1.1.R,r1.1.Last⟩:Ad)))
 (aA (λ(y6:Af×Ad)=>
 k4 (y6.1,y6.2)) λk7=>
 cond (r2.1==1)
 (ob (As r2.2 [0,33,1]) λr8=>
 ob (Ay r8.2 r8.1) λr9=>
 k7 (r9.2,(⟨r1.1.Id,r9.1,r1.1.At,r1.1.St,r1.1.Cn,r1.1.Fin,r1.1.C,r1.1.T,r1.1.R,r1.1.Last⟩:Ad)))
 (aA (λ(y10:Af×Ad)=>
 k7 (y10.1,y10.2)) λk11=>
 cond (r2.1==2)
 (ob (Cu r2.2) λr12=>
 k11 (r12.2,(⟨r1.1.Id,r1.1.Psk,r12.1,r1.1.St,r1.1.Cn,r1.1.Fin,r1.1.C,r1.1.T,r1.1.R,r1.1.Last⟩:Ad)))
 (aA (λ(y13:Af×Ad)=>
 k11 (y13.1,y13.2)) λk14=>
 cond (r2.1==3)
 (ob (Ar r2.2 6) λr15=>
 k14 (r15.2,(⟨r1.1.Id,r1.1.Psk,r1.1.At,wA .i64 r15.1 1,r1.1.Cn,r1.1.Fin,r1.1.C,r1.1.T,r1.1.R,r1.1.Last⟩:Ad)))
 (aA (λ(y16:Af×Ad)=>
 k14 (y16.1,y16.2)) λk17=>
 cond (r2.1==4)
 (ob (As r2.2 [0,11,12]) λr18=>
 ob (Ay r18.2 r18.1) λr19=>
 k17 (r19.2,(⟨r1.1.Id,r1.1.Psk,r1.1.At,r1.1.St,r19.1,r1.1.Fin,r1.1.C,r1.1.T,r1.1.R,r1.1.Last⟩:Ad)))
 (aA (λ(y20:Af×Ad)=>
 k17 (y20.1,y20.2)) λk21=>
 cond (r2.1==5)
 (ob (Jf r2.2) λr22=>
 k21 (r22.2,(⟨r1.1.Id,r1.1.Psk,r1.1.At,r1.1.St,r1.1.Cn,r22.1,r1.1.C,r1.1.T,r1.1.R,r1.1.Last⟩:Ad)))
 (aA (λ(y23:Af×Ad)=>
 k21 (y23.1,y23.2)) λk24=>
 cond (r2.1==6)
 (ob (Kb r2.2) λr25=>
 k24 (r25.2,(⟨r1.1.Id,r1.1.Psk,r1.1.At,r1.1.St,r1.1.Cn,r1.1.Fin,r25.1,r1.1.T,r1.1.R,r1.1.Last⟩:Ad)))
 (aA (λ(y26:Af×Ad)=>
 k24 (y26.1,y26.2)) λk27=>
 cond (r2.1==7)
 (ob (Kf r2.2) λr28=>
 k27 (r28.2,(⟨r1.1.Id,r1.1.Psk,r1.1.At,r1.1.St,r1.1.Cn,r1.1.Fin,r1.1.C,r28.1,r1.1.R,r1.1.Last⟩:Ad)))
 (aA (λ(y29:Af×Ad)=>
 k27 (y29.1,y29.2)) λk30=>
 cond (r2.1==8)
 (ob (Kf r2.2) λr31=>
 k30 (r31.2,(⟨r1.1.Id,r1.1.Psk,r1.1.At,r1.1.St,r1.1.Cn,r1.1.Fin,r1.1.C,r1.1.T,r31.1,r1.1.Last⟩:Ad)))
 (aA (λ(y32:Af×Ad)=>
 k30 (y32.1,y32.2)) λk33=>
 cond (r2.1==9)
 (ob (As r2.2 [(-1),1,1000001]) λr34=>
 k33 (r34.2,(⟨r1.1.Id,r1.1.Psk,r1.1.At,r1.1.St,r1.1.Cn,r1.1.Fin,r1.1.C,r1.1.T,r1.1.R,r34.1⟩:Ad)))
 (aA (λ(y35:Ad)=>
 k33 (r2.2,y35)) λk36=>
 cond (r2.1==10)
 (k36 (⟨r1.1.Id,r1.1.Psk,r1.1.At,r1.1.St,r1.1.Cn,(⟨0,0,[],[],0,[],[],0,0,[],[]⟩:Aa),r1.1.C,r1.1.T,r1.1.R,r1.1.Last⟩:Ad))
 (k36 r1.1)))))))))))
def Jh(a0:Af):=
 ob (Ar a0 3) λr1=>
 aA (λ(y2:(List (List UInt8))×Af)=>
 some (y2.1,y2.2)) λk3=>
 qA FU (λ(x4:(List (List UInt8))×Int×Af) k5=>
 cond (decide (x4.2.1>0))
 (ob (Ar x4.2.2 32) λr6=>
 ob (Ay r6.2 (iA .i64 1 r6.1)) λr7=>
 cond (decide (x4.1.length+[r7.1].length≤bA)) (k5 ((x4.1++[r7.1]),(wA .i64 x4.2.1 1),r7.2)) none)
 (k3 (x4.1,x4.2.2))) ([],(iA .i64 1 r1.1),r1.2)
def Kg(a0:Af):=
 ob (Ar a0 5) λr1=>
 let r2:Ai:=KB r1.1
 ob (Ce r2) λr3=>
 ob (Ar r1.2 6) λr4=>
 ob (Ar r4.2 5) λr5=>
 aA (λ(y6:Af×Aj)=>
 some (y6.2,y6.1)) λk7=>
 qA FU (λ(x8:Int×Int×Af×Aj) k9=>
 cond (decide (x8.2.1>0))
 (ob (Ar x8.2.2.1 7) λr10=>
 let r11:Ai:=KB r10.1
 ob (Ay r10.2 12) λr12=>
 ob (Eg x8.2.2.2 x8.1 r11 r12.1) λr13=>
 ob (Ar r12.2 3) λr14=>
 k9 ((iA .i64 x8.1 r14.1),(wA .i64 x8.2.1 1),r14.2,r13.1))
 (k7 (x8.2.2.1,x8.2.2.2))) (r4.1,r5.1,r5.2,r3)
def Ft(a0:Af):=
 ob (Ay a0 16) λr1=>
 ob (Ar r1.2 2) λr2=>
 ob (Kc r2.2) λr3=>
 ob (Fq r1.1 (iA .i64 1 r2.1) r3.1) λr4=>
 ob (Ay r3.2 16) λr5=>
 ob (As r5.2 [0,5,90]) λr6=>
 ob (Ar r6.2 5) λr7=>
 let r8:Ai:=KB (iA .i64 1 r7.1)
 ob (Fm r5.1 r6.1 r8 r4.1) λr9=>
 ob (Bb r7.2 2) λr10=>
 aA (λ(y11:Af×Ah)=>
 ob (Bb y11.1 2) λr14=>
 aA (λ(y15:Af×Ah)=>
 some (y15.2,y15.1)) λk16=>
 cond (r14.1)
 (ob (Kg r14.2) λr17=>
 k16 (r17.2,(⟨y11.2.Id,y11.2.Cn,y11.2.Sn,y11.2.C,r17.1,y11.2.Tick,y11.2.Last,y11.2.Dead⟩:Ah)))
 (k16 (r14.2,y11.2))) λk12=>
 cond (r10.1)
 (ob (Hp r10.2 1) λr13=>
 k12 (r13.2,(⟨r9.Id,r9.Cn,r13.1.Sn,r13.1,r9.P,r9.Tick,r9.Last,r9.Dead⟩:Ah)))
 (k12 (r10.2,r9))
def Kh(a0:Af):=
 ob (Ar a0 6) λr1=>
 let r2:Ao:=FF (iA .i64 1 r1.1)
 ob (Ar r1.2 6) λr3=>
 aA (λ(y4:Af×Ao)=>
 some (y4.2,y4.1)) λk5=>
 qA FU (λ(x6:Int×Af×Ao) k7=>
 cond (decide (x6.1>0))
 (ob (Ft x6.2.1) λr8=>
 ob (Bi x6.2.2 r8.1) λr9=>
 aA (λ(y10:Bool×Af)=>
 aA (λ(y13:Af×Ao)=>
 k7 ((wA .i64 x6.1 1),y13.1,y13.2)) λk14=>
 cond (y10.1)
 (ob (Ar y10.2 (r9.1.L.length:Int)) λr15=>
 cond (decide (0≤r15.1)&&decide (r15.1<(r9.1.L.length:Int))) (ob (r9.1.L[r15.1.toNat]?) λe16=>
 ob (Cd e16) λr17=>
 cond (decide (0≤r15.1)&&decide (r15.1<(r9.1.L.length:Int))) (ob (r9.1.L[r15.1.toNat]?) λe18=>
 k14 (r15.2,(⟨r9.1.Cap,List.set r9.1.L r15.1.toNat r17⟩:Ao))) none) none)
 (k14 (y10.2,r9.1))) λk11=>
 cond (decide ((r9.1.L.length:Int)>0))
 (ob (Bb r8.2 3) λr12=>
 k11 (r12.1,r12.2))
 (k11 (false,r8.2)))
 (k5 (x6.2.1,x6.2.2))) (r3.1,r3.2,r2)
def Ki(a0:Af)(a1:Int):=
 ob (Ar a0 (iA .i64 a1 1)) λr1=>
 aA (λ(y2:(List Al)×Af)=>
 some (y2.1,y2.2)) λk3=>
 qA FU (λ(x4:(List Al)×Int×Af) k5=>
 cond (decide (x4.2.1>0))
 (ob (Ar x4.2.2 10) λr6=>
 let r7:Ai:=KB r6.1
 ob (As r6.2 [0,1,34,60,999999,1000000]) λr8=>
 ob (Fg x4.1 r7 r8.1) λr9=>
 ob (As r8.2 [0,3,45,102,1000]) λr10=>
 ob (Dj r9 r7 r10.1) λr11=>
 k5 (r11.1,(wA .i64 x4.2.1 1),r10.2))
 (k3 (x4.1,x4.2.2))) ([],r1.1,r1.2)
def Ji(a0:Af):=
 ob (Jh a0) λr1=>
 ob (Ay r1.2 8) λr2=>
 ob (Ar r2.2 4) λr3=>
 ob (oR r1.1 r2.1 (iA .i64 1 r3.1)) λr4=>
 ob (Kh r3.2) λr5=>
 aA (λ(y6:Ac)=>
 ob (Ki r5.2 6) λr15=>
 ob (Ar r15.2 30) λr16=>
 some ((⟨y6.Psks,y6.J,(⟨y6.D.Seed,iA .i64 1 r16.1⟩:Ax),y6.T,r15.1⟩:Ac),r16.2)) λk7=>
 qA FU (λ(x8:Int×Ac) k9=>
 cond (decide (x8.1<(r5.1.L.length:Int)))
 (cond (decide (0≤x8.1)&&decide (x8.1<(r5.1.L.length:Int))) (ob (r5.1.L[x8.1.toNat]?) λe10=>
 aA (λ(y11:Ac)=>
 k9 ((iA .i64 x8.1 1),y11)) λk12=>
 cond (decide (e10.Id≤(x8.2.Psks.length:Int)))
 (cond (decide (0≤x8.1)&&decide (x8.1<(r5.1.L.length:Int))) (ob (r5.1.L[x8.1.toNat]?) λe13=>
 ob (Bi x8.2.T e13) λr14=>
 k12 (⟨x8.2.Psks,x8.2.J,x8.2.D,r14.1,x8.2.Cr⟩:Ac)) none)
 (k12 x8.2)) none)
 (k7 x8.2)) (0,r4)
def Jj(a0:Af)(a1:List (List UInt8))(a2:List (List UInt8)):=
 ob (Bb a0 2) λr1=>
 cond (r1.1)
 (some (a1,r1.2))
 (some (a2,r1.2))
def Jk(a0:Af):=
 ob (Ay a0 12) λr1=>
 let r2:Ba:=XG r1.1
 ob (Bb r1.2 10) λr3=>
 aA (λ(y4:Af×Ba)=>
 some (y4.2,y4.1)) λk5=>
 cond (r3.1)
 (ob (As r3.2 [0,31,32]) λr6=>
 ob (Ay r6.2 r6.1) λr7=>
 k5 (r7.2,(⟨r7.1⟩:Ba)))
 (k5 (r3.2,r2))
def Jl(a0:Af):=
 ob (Kg a0) λr1=>
 aA (λ(y2:Bool×Af)=>
 cond (y2.1)
 (some (r1.1,y2.2))
 (ob (Ar y2.2 (r1.1.Cands.length:Int)) λr5=>
 ob (Ar r5.2 6) λr6=>
 aA (λ(y7:Af×Aj)=>
 some (y7.2,y7.1)) λk8=>
 cond (r6.1==0)
 (ob (Cu r6.2) λr9=>
 k8 (r9.2,(⟨r9.1,r1.1.Cands⟩:Aj)))
 (aA (λ(y10:Af×Aj)=>
 k8 (y10.1,y10.2)) λk11=>
 cond (r6.1==1)
 (ob (Cu r6.2) λr12=>
 cond (decide (0≤r5.1)&&decide (r5.1<(r1.1.Cands.length:Int))) (ob (r1.1.Cands[r5.1.toNat]?) λe13=>
 let l14:List Az:=List.set r1.1.Cands r5.1.toNat (⟨r12.1,e13.Draw,e13.Until⟩:Az)
 k11 (r12.2,(⟨r1.1.At,l14⟩:Aj))) none)
 (aA (λ(y15:Af×Aj)=>
 k11 (y15.1,y15.2)) λk16=>
 cond (r6.1==2)
 (ob (Ay r6.2 11) λr17=>
 cond (decide (0≤r5.1)&&decide (r5.1<(r1.1.Cands.length:Int))) (ob (r1.1.Cands[r5.1.toNat]?) λe18=>
 let l19:List Az:=List.set r1.1.Cands r5.1.toNat (⟨e18.A,r17.1,e18.Until⟩:Az)
 k16 (r17.2,(⟨r1.1.At,l19⟩:Aj))) none)
 (aA (λ(y20:Af×Aj)=>
 k16 (y20.1,y20.2)) λk21=>
 cond (r6.1==3)
 (ob (As r6.2 [(-1),1000006,1000007]) λr22=>
 cond (decide (0≤r5.1)&&decide (r5.1<(r1.1.Cands.length:Int))) (ob (r1.1.Cands[r5.1.toNat]?) λe23=>
 let l24:List Az:=List.set r1.1.Cands r5.1.toNat (⟨e23.A,e23.Draw,r22.1⟩:Az)
 k21 (r22.2,(⟨r1.1.At,l24⟩:Aj))) none)
 (aA (λ(y25:Aj)=>
 k21 (r6.2,y25)) λk26=>
 cond (r6.1==4)
 (cond (decide (0≤r5.1)&&decide (r5.1<(r1.1.Cands.length:Int))) (ob (r1.1.Cands[r5.1.toNat]?) λe27=>
 k26 (⟨e27.A,r1.1.Cands⟩:Aj)) none)
 (k26 r1.1))))))) λk3=>
 cond ((r1.1.Cands.length:Int)==0)
 (k3 (true,r1.2))
 (ob (Bb r1.2 2) λr4=>
 k3 (r4.1,r4.2))
def Jm(a0:Af):=
 ob (Ft a0) λr1=>
 ob (Ar r1.2 22) λr2=>
 aA (λ(y3:Af×Ah×Ah)=>
 some (y3.2.1,y3.1)) λk4=>
 cond (r2.1==0)
 (ob (As r2.2 [0,10]) λr5=>
 k4 (r5.2,(⟨r5.1,r1.1.Cn,r1.1.Sn,r1.1.C,r1.1.P,r1.1.Tick,r1.1.Last,r1.1.Dead⟩:Ah),(⟨0,[],[],(⟨0,[],(⟨0,[],0,(⟨0,[]⟩:Ap)⟩:Aw),(⟨0,[],0,(⟨0,[]⟩:Ap)⟩:Aw),false,0,[]⟩:Ak),(⟨(⟨0,0⟩:Ai),[]⟩:Aj),0,0,false⟩:Ah)))
 (aA (λ(y6:Af×Ah×Ah)=>
 k4 (y6.1,y6.2.1,y6.2.2)) λk7=>
 cond (r2.1==1)
 (ob (Ay r2.2 11) λr8=>
 k7 (r8.2,(⟨r1.1.Id,r8.1,r1.1.Sn,r1.1.C,r1.1.P,r1.1.Tick,r1.1.Last,r1.1.Dead⟩:Ah),(⟨0,[],[],(⟨0,[],(⟨0,[],0,(⟨0,[]⟩:Ap)⟩:Aw),(⟨0,[],0,(⟨0,[]⟩:Ap)⟩:Aw),false,0,[]⟩:Ak),(⟨(⟨0,0⟩:Ai),[]⟩:Aj),0,0,false⟩:Ah)))
 (aA (λ(y9:Af×Ah×Ah)=>
 k7 (y9.1,y9.2.1,y9.2.2)) λk10=>
 cond (r2.1==2)
 (ob (As r2.2 [11,12]) λr11=>
 ob (Ay r11.2 r11.1) λr12=>
 k10 (r12.2,(⟨r1.1.Id,r1.1.Cn,r12.1,r1.1.C,r1.1.P,r1.1.Tick,r1.1.Last,r1.1.Dead⟩:Ah),(⟨0,[],[],(⟨0,[],(⟨0,[],0,(⟨0,[]⟩:Ap)⟩:Aw),(⟨0,[],0,(⟨0,[]⟩:Ap)⟩:Aw),false,0,[]⟩:Ak),(⟨(⟨0,0⟩:Ai),[]⟩:Aj),0,0,false⟩:Ah)))
 (aA (λ(y13:Af×Ah×Ah)=>
 k10 (y13.1,y13.2.1,y13.2.2)) λk14=>
 cond (r2.1==3)
 (ob (Kb r2.2) λr15=>
 k14 (r15.2,(⟨r1.1.Id,r1.1.Cn,r1.1.Sn,r15.1,r1.1.P,r1.1.Tick,r1.1.Last,r1.1.Dead⟩:Ah),(⟨0,[],[],(⟨0,[],(⟨0,[],0,(⟨0,[]⟩:Ap)⟩:Aw),(⟨0,[],0,(⟨0,[]⟩:Ap)⟩:Aw),false,0,[]⟩:Ak),(⟨(⟨0,0⟩:Ai),[]⟩:Aj),0,0,false⟩:Ah)))
 (aA (λ(y16:Af×Ah×Ah)=>
 k14 (y16.1,y16.2.1,y16.2.2)) λk17=>
 cond (r2.1==4)
 (ob (Jl r2.2) λr18=>
 k17 (r18.2,(⟨r1.1.Id,r1.1.Cn,r1.1.Sn,r1.1.C,r18.1,r1.1.Tick,r1.1.Last,r1.1.Dead⟩:Ah),(⟨0,[],[],(⟨0,[],(⟨0,[],0,(⟨0,[]⟩:Ap)⟩:Aw),(⟨0,[],0,(⟨0,[]⟩:Ap)⟩:Aw),false,0,[]⟩:Ak),(⟨(⟨0,0⟩:Ai),[]⟩:Aj),0,0,false⟩:Ah)))
 (aA (λ(y19:Af×Ah×Ah)=>
 k17 (y19.1,y19.2.1,y19.2.2)) λk20=>
 cond (r2.1==5)
 (ob (As r2.2 [(-1),1000001]) λr21=>
 k20 (r21.2,(⟨r1.1.Id,r1.1.Cn,r1.1.Sn,r1.1.C,r1.1.P,r21.1,r1.1.Last,r1.1.Dead⟩:Ah),(⟨0,[],[],(⟨0,[],(⟨0,[],0,(⟨0,[]⟩:Ap)⟩:Aw),(⟨0,[],0,(⟨0,[]⟩:Ap)⟩:Aw),false,0,[]⟩:Ak),(⟨(⟨0,0⟩:Ai),[]⟩:Aj),0,0,false⟩:Ah)))
 (aA (λ(y22:Af×Ah×Ah)=>
 k20 (y22.1,y22.2.1,y22.2.2)) λk23=>
 cond (r2.1==6)
 (ob (As r2.2 [(-1),1000001]) λr24=>
 k23 (r24.2,(⟨r1.1.Id,r1.1.Cn,r1.1.Sn,r1.1.C,r1.1.P,r1.1.Tick,r24.1,r1.1.Dead⟩:Ah),(⟨0,[],[],(⟨0,[],(⟨0,[],0,(⟨0,[]⟩:Ap)⟩:Aw),(⟨0,[],0,(⟨0,[]⟩:Ap)⟩:Aw),false,0,[]⟩:Ak),(⟨(⟨0,0⟩:Ai),[]⟩:Aj),0,0,false⟩:Ah)))
 (aA (λ(y25:Ah×Ah)=>
 k23 (r2.2,y25.1,y25.2)) λk26=>
 cond (r2.1==7)
 (k26 ((⟨r1.1.Id,r1.1.Cn,r1.1.Sn,r1.1.C,r1.1.P,r1.1.Tick,r1.1.Last,true⟩:Ah),(⟨0,[],[],(⟨0,[],(⟨0,[],0,(⟨0,[]⟩:Ap)⟩:Aw),(⟨0,[],0,(⟨0,[]⟩:Ap)⟩:Aw),false,0,[]⟩:Ak),(⟨(⟨0,0⟩:Ai),[]⟩:Aj),0,0,false⟩:Ah)))
 (aA (λy27=>
 cond (y27)
 (ob (Cd r1.1) λr29=>
 some (r29,r2.2))
 (k26 (r1.1,(⟨0,[],[],(⟨0,[],(⟨0,[],0,(⟨0,[]⟩:Ap)⟩:Aw),(⟨0,[],0,(⟨0,[]⟩:Ap)⟩:Aw),false,0,[]⟩:Ak),(⟨(⟨0,0⟩:Ai),[]⟩:Aj),0,0,false⟩:Ah)))) λk28=>
 cond (r2.1==8)
 (k28 (r2.1==8))
 (k28 (r2.1==9))))))))))
def Jn(a0:Af):=
 ob (Kh a0) λr1=>
 ob (Ar r1.2 12) λr2=>
 aA (λ(y3:Af×Ao)=>
 some (y3.2,y3.1)) λk4=>
 cond (r2.1==0)
 (ob (As r2.2 [0,1,7]) λr5=>
 k4 (r5.2,(⟨r5.1,r1.1.L⟩:Ao)))
 (aA (λ(y6:Af×Ao)=>
 k4 (y6.1,y6.2)) λk7=>
 cond (r2.1==1)
 (ob (Jm r2.2) λr8=>
 cond (decide (r1.1.L.length+[r8.1].length≤bA)) (k7 (r8.2,(⟨r1.1.Cap,r1.1.L++[r8.1]⟩:Ao))) none)
 (aA (λ(y9:Ao×Af)=>
 k7 (y9.2,y9.1)) λk10=>
 cond (r2.1==2)
 (aA (λ(y11:Ao)=>
 k10 (y11,r2.2)) λk12=>
 cond (decide ((r1.1.L.length:Int)>1))
 (cond (decide (0≤(0:Int))&&decide ((0:Int)<(r1.1.L.length:Int))) (ob (r1.1.L[0]?) λe13=>
 cond (decide (0≤(1:Int))&&decide ((1:Int)<(r1.1.L.length:Int))) (ob (r1.1.L[1]?) λe14=>
 let l15:List Ah:=List.set r1.1.L 1 (⟨e14.Id,e14.Cn,e13.Sn,e14.C,e14.P,e14.Tick,e14.Last,e14.Dead⟩:Ah)
 k12 (⟨r1.1.Cap,l15⟩:Ao)) none) none)
 (k12 r1.1))
 (aA (λ(y16:Af×Ao)=>
 k10 (y16.2,y16.1)) λk17=>
 cond (r2.1==3)
 (ob (Ft r2.2) λr18=>
 ob (Cd r18.1) λr19=>
 ob (As r18.2 [9,12,13]) λr20=>
 aA (λ(y21:Af×Ah×Ao)=>
 k17 (y21.1,y21.2.2)) λk22=>
 qA FU (λ(x23:Int×Af×Ah×Ao) k24=>
 cond (decide (x23.1>(x23.2.2.2.L.length:Int)))
 (ob (Ay x23.2.1 12) λr25=>
 let x26:List Ah:=[(⟨x23.2.2.1.Id,x23.2.2.1.Cn,r25.1,x23.2.2.1.C,x23.2.2.1.P,x23.2.2.1.Tick,x23.2.2.1.Last,x23.2.2.1.Dead⟩:Ah)]
 cond (decide (x23.2.2.2.L.length+x26.length≤bA)) (k24 ((wA .i64 x23.1 1),r25.2,(⟨x23.2.2.1.Id,x23.2.2.1.Cn,r25.1,x23.2.2.1.C,x23.2.2.1.P,x23.2.2.1.Tick,x23.2.2.1.Last,x23.2.2.1.Dead⟩:Ah),(⟨x23.2.2.2.Cap,x23.2.2.2.L++x26⟩:Ao))) none)
 (k22 (x23.2.1,x23.2.2.1,x23.2.2.2))) (r20.1,r20.2,r19,r1.1))
 (k17 (r2.2,r1.1)))))
def Jo(a0:Af):=
 ob (Ki a0 14) λr1=>
 cond ((r1.1.length:Int)==0)
 (some (r1.1,r1.2))
 (ob (Ar r1.2 (r1.1.length:Int)) λr2=>
 ob (Ar r2.2 10) λr3=>
 aA (λ(y4:(List Al)×Af)=>
 some (y4.1,y4.2)) λk5=>
 cond (r3.1==0)
 (ob (Cu r3.2) λr6=>
 cond (decide (0≤r2.1)&&decide (r2.1<(r1.1.length:Int))) (ob (r1.1[r2.1.toNat]?) λe7=>
 let l8:List Al:=List.set r1.1 r2.1.toNat (⟨r6.1,e7.Got,e7.Sent⟩:Al)
 k5 (l8,r6.2)) none)
 (aA (λ(y9:(List Al)×Af)=>
 k5 (y9.1,y9.2)) λk10=>
 cond (r3.1==1)
 (ob (As r3.2 [(-1),0,1000001]) λr11=>
 cond (decide (0≤r2.1)&&decide (r2.1<(r1.1.length:Int))) (ob (r1.1[r2.1.toNat]?) λe12=>
 let l13:List Al:=List.set r1.1 r2.1.toNat (⟨e12.A,r11.1,e12.Sent⟩:Al)
 k10 (l13,r11.2)) none)
 (aA (λ(y14:(List Al)×Af)=>
 k10 (y14.1,y14.2)) λk15=>
 cond (r3.1==2)
 (cond (decide (0≤r2.1)&&decide (r2.1<(r1.1.length:Int))) (ob (r1.1[r2.1.toNat]?) λe16=>
 ob (As r3.2 [(-1),0,iA .i64 (YB .i64 3 e16.Got) 1]) λr17=>
 cond (decide (0≤r2.1)&&decide (r2.1<(r1.1.length:Int))) (ob (r1.1[r2.1.toNat]?) λe18=>
 let l19:List Al:=List.set r1.1 r2.1.toNat (⟨e18.A,e18.Got,r17.1⟩:Al)
 k15 (l19,r17.2)) none) none)
 (aA (λ(y20:(List Al))=>
 k15 (y20,r3.2)) λk21=>
 cond (r3.1==3)
 (cond (decide (0≤r2.1)&&decide (r2.1<(r1.1.length:Int))) (ob (r1.1[r2.1.toNat]?) λe22=>
 cond (decide (r1.1.length+[e22].length≤bA)) (k21 (r1.1++[e22])) none) none)
 (k21 r1.1)))))
def Jp(a0:Af):=
 ob (Ji a0) λr1=>
 ob (Ar r1.2 16) λr2=>
 aA (λ(y3:Af×Ac)=>
 some (y3.2,y3.1)) λk4=>
 cond (r2.1==0)
 (ob (Jj r2.2 [[],[UInt8.ofNat (1:Int).toNat]] r1.1.Psks) λr5=>
 k4 (r5.2,(⟨r5.1,r1.1.J,r1.1.D,r1.1.T,r1.1.Cr⟩:Ac)))
 (aA (λ(y6:Af×Ac)=>
 k4 (y6.1,y6.2)) λk7=>
 cond (r2.1==1)
 (ob (Jk r2.2) λr8=>
 k7 (r8.2,(⟨r1.1.Psks,r8.1,r1.1.D,r1.1.T,r1.1.Cr⟩:Ac)))
 (aA (λ(y9:Af×Ac)=>
 k7 (y9.1,y9.2)) λk10=>
 cond (r2.1==2)
 (ob (As r2.2 [(-1),9999,10000,10001]) λr11=>
 k10 (r11.2,(⟨r1.1.Psks,r1.1.J,(⟨r1.1.D.Seed,r11.1⟩:Ax),r1.1.T,r1.1.Cr⟩:Ac)))
 (aA (λ(y12:Af×Ac)=>
 k10 (y12.1,y12.2)) λk13=>
 cond (r2.1==3)
 (ob (Jn r2.2) λr14=>
 k13 (r14.2,(⟨r1.1.Psks,r1.1.J,r1.1.D,r14.1,r1.1.Cr⟩:Ac)))
 (aA (λ(y15:Af×Ac)=>
 k13 (y15.1,y15.2)) λk16=>
 cond (r2.1==4)
 (ob (Jo r2.2) λr17=>
 k16 (r17.2,(⟨r1.1.Psks,r1.1.J,r1.1.D,r1.1.T,r17.1⟩:Ac)))
 (aA (λ(y18:Ac×Af)=>
 k16 (y18.2,y18.1)) λk19=>
 cond (r2.1==5)
 (cond (decide (r1.1.Psks.length+([[]]:List (List UInt8)).length≤bA)) (k19 ((⟨r1.1.Psks++[[]],r1.1.J,r1.1.D,r1.1.T,r1.1.Cr⟩:Ac),r2.2)) none)
 (aA (λ(y20:Af×Ac)=>
 k19 (y20.2,y20.1)) λk21=>
 cond (r2.1==6)
 (ob (Ft r2.2) λr22=>
 ob (Cd r22.1) λr23=>
 cond (decide (r1.1.T.L.length+[r23].length≤bA)) (k21 (r22.2,(⟨r1.1.Psks,r1.1.J,r1.1.D,(⟨r1.1.T.Cap,r1.1.T.L++[r23]⟩:Ao),r1.1.Cr⟩:Ac))) none)
 (k21 (r2.2,r1.1))))))))
def Jq(a0:Af):=
 ob (Ar a0 32) λr1=>
 ob (Ay r1.2 (iA .i64 1 r1.1)) λr2=>
 ob (Ar r2.2 40) λr3=>
 some ((⟨r2.1,r3.1⟩:Ax),r3.2)
def Jr(a0:Af):=
 ob (Jq a0) λr1=>
 ob (Ar r1.2 5) λr2=>
 aA (λ(y3:Af×Ax)=>
 some (y3.2,y3.1)) λk4=>
 cond (r2.1==0)
 (ob (As r2.2 [(-1),9999,10000,10001]) λr5=>
 k4 (r5.2,(⟨r1.1.Seed,r5.1⟩:Ax)))
 (aA (λ(y6:Af×Ax)=>
 k4 (y6.1,y6.2)) λk7=>
 cond (r2.1==1)
 (ob (As r2.2 [0,33,1]) λr8=>
 ob (Ay r8.2 r8.1) λr9=>
 k7 (r9.2,(⟨r9.1,r1.1.N⟩:Ax)))
 (k7 (r2.2,r1.1)))
def Js(a0:Af):=
 ob (Bb a0 3) λr1=>
 cond (r1.1)
 (ob (Ar r1.2 3) λr2=>
 let r3:Ai:=KB r2.1
 ob (Ar r2.2 3) λr4=>
 let r5:Ai:=KB r4.1
 ob (As r4.2 [0,5,45,200]) λr6=>
 ob (Ay r6.2 r6.1) λr7=>
 some ((⟨r3,r5,r7.1⟩:Am),r7.2))
 (ob (Ar r1.2 3) λr8=>
 let r9:Ai:=KB r8.1
 ob (Ar r8.2 3) λr10=>
 let r11:Ai:=KB r10.1
 ob (Ke r10.2) λr12=>
 ob (Dx r9 r11 r12.1) λr13=>
 some (r13,r12.2))
def Kj(a0:Af):=
 ob (Js a0) λr1=>
 ob (Ar r1.2 8) λr2=>
 aA (λ(y3:Af×Am)=>
 some (y3.2,y3.1)) λk4=>
 cond (r2.1==0)
 (ob (Cu r2.2) λr5=>
 k4 (r5.2,(⟨r5.1,r1.1.To,r1.1.B⟩:Am)))
 (aA (λ(y6:Af×Am)=>
 k4 (y6.1,y6.2)) λk7=>
 cond (r2.1==1)
 (ob (Cu r2.2) λr8=>
 k7 (r8.2,(⟨r1.1.From,r8.1,r1.1.B⟩:Am)))
 (aA (λ(y9:Af×Am)=>
 k7 (y9.1,y9.2)) λk10=>
 cond (r2.1==2)
 (ob (Ay r2.2 201) λr11=>
 k10 (r11.2,(⟨r1.1.From,r1.1.To,r11.1⟩:Am)))
 (k10 (r2.2,r1.1))))
def Kk(a0:Af)(a1:Int):=
 ob (Iv a0 a1) λr1=>
 ob (Ar r1.2 30) λr2=>
 aA (λ(y3:Af×Ab)=>
 some (y3.2,y3.1)) λk4=>
 cond (r2.1==0)
 (ob (As r2.2 [(-1),1000000,1000001,999999]) λr5=>
 k4 (r5.2,(⟨r5.1,r1.1.Clients,r1.1.S,r1.1.D,r1.1.Seen,r1.1.Known,r1.1.Notes⟩:Ab)))
 (aA (λ(y6:Af×Ab)=>
 k4 (y6.1,y6.2)) λk7=>
 cond (r2.1==1)
 (ob (Ar r2.2 2) λr8=>
 ob (Jg r8.2) λr9=>
 cond (decide (0≤r8.1)&&decide (r8.1<(r1.1.Clients.length:Int))) (ob (r1.1.Clients[r8.1.toNat]?) λe10=>
 k7 (r9.2,(⟨r1.1.Now,List.set r1.1.Clients r8.1.toNat r9.1,r1.1.S,r1.1.D,r1.1.Seen,r1.1.Known,r1.1.Notes⟩:Ab))) none)
 (aA (λ(y11:Af×Ab)=>
 k7 (y11.1,y11.2)) λk12=>
 cond (r2.1==2)
 (ob (Ar r2.2 2) λr13=>
 cond (decide (0≤(0:Int))&&decide ((0:Int)≤r13.1)&&decide (r13.1≤(r1.1.Clients.length:Int))) (k12 (r13.2,(⟨r1.1.Now,List.take ((r13.1 - 0).toNat) r1.1.Clients,r1.1.S,r1.1.D,r1.1.Seen,r1.1.Known,r1.1.Notes⟩:Ab))) none)
 (aA (λ(y14:Af×Ab)=>
 k12 (y14.1,y14.2)) λk15=>
 cond (r2.1==3)
 (ob (Jp r2.2) λr16=>
 k15 (r16.2,(⟨r1.1.Now,r1.1.Clients,r16.1,r1.1.D,r1.1.Seen,r1.1.Known,r1.1.Notes⟩:Ab)))
 (aA (λ(y17:Af×Ab)=>
 k15 (y17.1,y17.2)) λk18=>
 cond (r2.1==4)
 (ob (Jr r2.2) λr19=>
 k18 (r19.2,(⟨r1.1.Now,r1.1.Clients,r1.1.S,r19.1,r1.1.Seen,r1.1.Known,r1.1.Notes⟩:Ab)))
 (aA (λ(y20:Af×Ab)=>
 k18 (y20.1,y20.2)) λk21=>
 cond (r2.1==5)
 (ob (Kj r2.2) λr22=>
 cond (decide (r1.1.Seen.length+[r22.1].length≤bA)) (k21 (r22.2,(⟨r1.1.Now,r1.1.Clients,r1.1.S,r1.1.D,r1.1.Seen++[r22.1],r1.1.Known,r1.1.Notes⟩:Ab))) none)
 (aA (λ(y23:Af×Ab)=>
 k21 (y23.1,y23.2)) λk24=>
 cond (r2.1==6)
 (ob (As r2.2 [31,32]) λr25=>
 ob (Ay r25.2 r25.1) λr26=>
 cond (decide (r1.1.Known.length+[r26.1].length≤bA)) (k24 (r26.2,(⟨r1.1.Now,r1.1.Clients,r1.1.S,r1.1.D,r1.1.Seen,r1.1.Known++[r26.1],r1.1.Notes⟩:Ab))) none)
 (aA (λ(y27:Af×Ab)=>
 k24 (y27.1,y27.2)) λk28=>
 cond (r2.1==7)
 (ob (Iz r2.2) λr29=>
 cond (decide (r1.1.Notes.length+[r29.1].length≤bA)) (k28 (r29.2,(⟨r1.1.Now,r1.1.Clients,r1.1.S,r1.1.D,r1.1.Seen,r1.1.Known,r1.1.Notes++[r29.1]⟩:Ab))) none)
 (aA (λ(y30:Ab)=>
 k28 (r2.2,y30)) λk31=>
 cond (r2.1==8)
 (cond (decide (0≤(0:Int))&&decide ((0:Int)<(r1.1.Clients.length:Int))) (ob (r1.1.Clients[0]?) λe32=>
 let l33:List Ad:=List.set r1.1.Clients 0 (⟨2,e32.Psk,e32.At,e32.St,e32.Cn,e32.Fin,e32.C,e32.T,e32.R,e32.Last⟩:Ad)
 k31 (⟨r1.1.Now,l33,r1.1.S,r1.1.D,r1.1.Seen,r1.1.Known,r1.1.Notes⟩:Ab)) none)
 (aA (λ(y34:Ab)=>
 k31 y34) λk35=>
 cond (r2.1==9)
 (cond (decide (0≤(0:Int))&&decide ((0:Int)<(r1.1.Clients.length:Int))) (ob (r1.1.Clients[0]?) λe36=>
 let l37:List Ad:=List.set r1.1.Clients 0 (⟨e36.Id,[UInt8.ofNat (1:Int).toNat],e36.At,e36.St,e36.Cn,e36.Fin,e36.C,e36.T,e36.R,e36.Last⟩:Ad)
 k35 (⟨r1.1.Now,l37,r1.1.S,r1.1.D,r1.1.Seen,r1.1.Known,r1.1.Notes⟩:Ab)) none)
 (k35 r1.1))))))))))
end
end Go.D
namespace Go.D
end Go.D
namespace Go.D
def zvK(i:Int):0≤(KB i).Host∧(KB i).Host≤4294967295∧0≤(KB i).Port∧(KB i).Port≤65535:=by
 unfold KB;split
 ·simp only;omega
 ·simp only;omega
def zqP{p:List (List UInt8)}{s:List UInt8}{m:Int}(h:wt p+wt s+1000≤bA):Ok (oR p s m) λr=>wt r≤wt p+wt s+32:=eF h (by
 unfold HN;cases fC (HC p s m)
 ·rw[cond_false];exact Nat.zero_le _
 ·rw[cond_true];exact zbd p s m)
def zwi{c:Af}{l:List Int}(h:mA c)(hl:l≠[]):Ok (As c l) λr=>mA r.2:=(zfL h hl).mono λr hr=>hr.2
end Go.D
namespace Go.D
def zg8{a0}(ha:mA a0):Ok (Kc a0) λr=>wt r.1≤60∧mA r.2:=by
 unfold Kc;refine .b (MB ?_ ?_) λr1 OV=> .b (MB ?_ ?_) λr2 dW=> .b (TA ?_) λr3 tW=> .b (MB ?_ ?_) λr4 VV=> .s ?_
 all_goals (try simp only[NB]at *)<;>omega
def zhL{a0 a1}(ha:mA a0):Ok (Kd a0 a1) λr=>mA r.2:=by
 unfold Kd
 refine .b OM λr1 _=> .b (TA ?_) λr2 dW=> .jt (λy3=> .s ?_)
  λk4 TV=> .l (λx5:Int×Av=>0≤x5.1∧x5.1≤6) (λx5:Int×Av=>x5.1.toNat) (λx5 hx5 k6 QW=> .c (λh1=> .b jT λr7 _=>QW _ ?_ ?_)
  λ_=>TV _) ?_ ?_
 all_goals (try simp only[NB]at *)<;>(try simp(disch:=omega) only[DA,PA]at *)<;>omega
set_option maxHeartbeats 4000000 in
theorem zpa{a0}(ha:mA a0):Ok (Je a0) λr=>wt r.1≤20000∧mA r.2:=by
 (try simp only[N]at ha);have hL:=IB
 unfold Je;refine Ok.bind (TA ?_) (λr1 OV=>?_)
 ·(try simp only[N]);omega
 (try simp only[N]at OV);refine Ok.bind (TA ?_) (λr2 dW=>?_)
 ·(try simp only[N]);omega
 (try simp only[N]at dW);refine Ok.bind (MB ?_ ?_) (λr3 tW=>?_)
 iterate 2 (·(try have:=DA (a:=1) (b:=r2.1) (by omega) (by omega));(try simp only[N]);omega)
 (try simp only[N]at tW);have z5:=DA (a:=1) (b:=r2.1) (by omega) (by omega);(try simp only[N]at z5);refine Ok.bind (TA ?_) (λr4 VV=>?_)
 ·(try simp only[N]);omega
 (try simp only[N]at VV);have hnr:=zvK (iA .i64 1 r4.1);(try simp only[N]at hnr);refine Ok.bind (zic ?_ ?_ ?_ ?_) (λr6 uW=>?_)
 iterate 4 (·(try have:=DA (a:=1) (b:=r4.1) (by omega) (by omega));(try have:=DA (a:=1) (b:=r1.1) (by omega) (by omega));(try simp only[N]);omega)
 (try simp only[N]at uW);refine Ok.bind (dB (0) (3) ?_ (by simp) (by decide)) (λr7 NW=>?_)
 ·(try simp only[N]);omega
 (try simp only[N]at NW);refine Ok.cond' (λh1=>?_) (λh1=>?_)
 ·(try simp only[B]at h1);refine Ok.some' ?_;(try simp only[N]);omega
 (try simp only[B]at h1);refine Ok.bind (dB (0) (90) ?_ (by simp) (by decide)) (λr8 OW=>?_)
 ·(try simp only[N]);omega
 (try simp only[N]at OW);refine Ok.bind (MB ?_ ?_) (λr9 dX=>?_)
 iterate 2 (·(try simp only[N]);omega)
 (try simp only[N]at dX);refine Ok.bind (ziB ?_ ?_) (λr10 rW=>?_)
 iterate 2 (·(try simp only[N]);omega)
 (try simp only[N]at rW);refine Ok.bind (TA ?_) (λr11 AW=>?_)
 ·(try simp only[N]);omega
 (try simp only[N]at AW);refine Ok.bind (jT) (λr12 vW=>?_);refine Ok.cond' (λh2=>?_) (λh2=>?_)
 ·(try simp only[B]at h2);refine Ok.some' ?_;(try simp only[N]);omega
 (try simp only[B]at h2);refine Ok.bind (zg8 ?_) (λr13 eX=>?_)
 ·(try simp only[N]);omega
 (try simp only[N]at eX);refine Ok.bind (zdX ?_ ?_) (λr14 lX=>?_)
 iterate 2 (·(try simp only[N]);omega)
 (try simp only[N]at lX);refine Ok.cond' (λh3=>?_) (λh3=>?_)
 ·(try simp only [B] at h3);refine Ok.bind (TA ?_) (fun r15 GW=>?_)
  ·(try simp only[N]);omega
  (try simp only[N]at GW);refine Ok.join (λy16:Ad=>wt y16≤10000) (λy16 iY=>?_) (λk17 gW=>?_)
  ·(try simp only[N]at iY);refine Ok.join (λy21:Ad=>wt y21≤10000) (λy21 O0=>?_) (λk22 gX=>?_)
   ·(try simp only[N]at O0);refine Ok.some' ?_;(try simp only[N]);omega
   refine Ok.condR (λh4=>?_) (λh4=>?_)
   ·(try simp only[B]at h4);refine gX _ ?_;(try simp only[N]);omega
   (try simp only[B]at h4);refine Ok.bind (OM) (λr23 OY=>?_);refine gX _ ?_;(try simp only[N]);omega
  refine Ok.loopR (λx18:Int×Ad=>0≤x18.1∧x18.1≤5∧wt x18.2≤10000) (λx18=>x18.1.toNat) ?_ ?_ (λx18 s7 k19 DW=>?_)
  iterate 2 (·(try simp only[N]);omega)
  (try simp only[N]at s7);refine Ok.condR (λh5=>?_) (λh5=>?_)
  ·(try simp only[B]at h5);refine gW _ ?_;(try simp only[N]);omega
  (try simp only[B]at h5);refine Ok.bind (jT) (λr20 pY=>?_);refine DW _ ?_ ?_
  iterate 2 (·(try have:=PA (a:=x18.1) (b:=1) (by omega) (by omega));(try simp only[N]);omega)
 (try simp only[B]at h3);refine Ok.bind (zah) (λr24 eY=>?_);(try simp only[N]at eY);refine Ok.bind (zeB ?_ ?_ ?_) (λr25 rX=>?_)
 iterate 3 (·(try simp only[N]);omega)
 obtain⟨rX,hr25i⟩:=rX;(try simp only[N]at rX);refine Ok.bind (zdX ?_ ?_) (λr26 FX=>?_)
 iterate 2 (·(try simp only[N]);omega)
 (try simp only[N]at FX);refine Ok.bind (uE ?_) (λr27 PY=>?_)
 ·(try simp only[N]);omega
 (try simp only[N]at PY);refine Ok.join (λy28:Af×Ad=>mA y28.1∧wt y28.2≤20000) (λy28 b5=>?_) (λk29 MY=>?_)
 ·(try simp only[N]at b5);refine Ok.some' ?_;(try simp only[N]);omega
 refine Ok.condR (λh6=>?_) (λh6=>?_)
 ·(try simp only[B]at h6);refine MY _ ?_;(try simp only[N]);omega
 (try simp only[B]at h6);refine Ok.bind (zef ?_) (λr30 M0=>?_)
 ·(try simp only[N]);omega
 (try simp only[N]at M0);refine Ok.join (λy31:Af×Ad=>mA y31.1∧wt y31.2≤20000) (λy31 Z4=>?_) (λk32 KY=>?_)
 ·(try simp only[N]at Z4);refine MY _ ?_;(try simp only[N]);omega
 refine Ok.condR (λh7=>?_) (λh7=>?_)
 ·(try simp only[B]at h7);refine KY _ ?_;(try simp only[N]);omega
 (try simp only[B]at h7);refine Ok.bind (zhL ?_) (λr33 m5=>?_)
 ·(try simp only[N]);omega
 (try simp only[N]at m5);refine Ok.join (λy34:Ad=>wt y34≤10000) (λy34 O2=>?_) (λk35 XX=>?_)
 ·(try simp only[N]at O2);refine KY _ ?_;(try simp only[N]);omega
 refine Ok.condR (λh8=>?_) (λh8=>?_)
 ·(try simp only[B]at h8);refine XX _ ?_;(try simp only[N]);omega
 (try simp only[B]at h8);refine Ok.bind (OM) (λr36 N2=>?_);refine XX _ ?_;(try simp only[N]);omega
def zhV{a0}(ha:mA a0):Ok (Ke a0) λr=>wt r.1≤200∧mA r.2:=by
 unfold Ke
 refine .b (TA ?_) λr1 OV=> .j (λy2:Af×Aa=>mA y2.1∧wt y2.2≤200) (λy2 zW=> .s ?_)
  λk3 KV=> .c (λh1=> .b (TA ?_) λr4 VV=> .b (MB ?_ ?_) λr5 QV=>KV _ ?_)
  λh1=> .jt (λy6=> .j (λy8:Af×Aa=>mA y8.1∧wt y8.2≤200) (λy8 P4=>KV _ ?_)
  λk9 WW=> .c (λh2=> .b (MB ?_ ?_) λr10 rW=> .b (MB ?_ ?_) λr11 AW=> .b (dB (0) (1000000) ?_ (by simp) (by decide)) λr12 vW=> .b (MB ?_ ?_) λr13 eX=> .j (λy14:Af×Aa=>mA y14.1∧wt y14.2≤200) (λy14 L2=>WW _ ?_)
  λk15 XW=> .c (λh3=> .b (TA ?_) λr16 jY=> .b (MB ?_ ?_) λr17 UX=>XW _ ?_)
  λh3=>XW _ ?_)
  λh2=> .b (MB ?_ ?_) λr18 EY=> .b (dB (0) (4294967295) ?_ (by simp) (by decide)) λr19 EX=> .b (dB (0) (281474976710655) ?_ (by simp) (by decide)) λr20 pY=> .b (MB ?_ ?_) λr21 MZ=> .b (dB (0) (40) ?_ (by simp) (by decide)) λr22 fX=> .jt (λy23=> .j (λy25:Int=>0≤y25∧y25≤40) (λy25 d8=> .j (λy27:Int=>0≤y27∧y27≤40) (λy27 W4=> .b (MB ?_ ?_) λr29 fZ=>WW _ ?_)
  λk28 ZW=> .c (λh4=>ZW _ ?_)
  λh4=>ZW _ ?_)
  λk26 QY=> .c (λh5=>QY _ ?_)
  λh5=>QY _ ?_)
  λk24 pW=> .c (λ_=>pW _)
  λ_=>pW _)
  λk7 UV=> .c (λ_=>UV _)
  λ_=>UV _
 all_goals (try simp only[NB]at *)<;>(try simp(disch:=omega) only[DA,PA]at *)<;>omega
def zqi{a0}(ha:mA a0):Ok (Jf a0) λr=>wt r.1≤500∧mA r.2:=by
 unfold Jf
 refine .b (zhV ?_) λr1 OV=> .b (TA ?_) λr2 dW=> .j (λy3:Af×Aa=>mA y3.1∧wt y3.2≤500) (λy3 vY=> .s ?_)
  λk4 TV=> .c (λh1=> .b (TA ?_) λr5 QV=>TV _ ?_)
  λh1=> .j (λy6:Af×Aa=>mA y6.1∧wt y6.2≤500) (λy6 vX=>TV _ ?_)
  λk7 UV=> .c (λh2=> .b (dB (-1) (10) ?_ (by simp) (by decide)) λr8 OW=>UV _ ?_)
  λh2=> .j (λy9:Af×Aa=>mA y9.1∧wt y9.2≤500) (λy9 GY=>UV _ ?_)
  λk10 PV=> .c (λh3=> .b (dB (0) (13) ?_ (by simp) (by decide)) λr11 AW=> .b (MB ?_ ?_) λr12 vW=>PV _ ?_)
  λh3=> .j (λy13:Af×Aa=>mA y13.1∧wt y13.2≤500) (λy13 gY=>PV _ ?_)
  λk14 RV=> .c (λh4=> .b (dB (0) (13) ?_ (by simp) (by decide)) λr15 GW=> .b (MB ?_ ?_) λr16 jY=>RV _ ?_)
  λh4=> .j (λy17:Af×Aa=>mA y17.1∧wt y17.2≤500) (λy17 A1=>RV _ ?_)
  λk18 sX=> .c (λh5=> .b (dB (-1) (1000001) ?_ (by simp) (by decide)) λr19 EX=>sX _ ?_)
  λh5=> .j (λy20:Af×Aa=>mA y20.1∧wt y20.2≤500) (λy20 rY=>sX _ ?_)
  λk21 iW=> .c (λh6=> .b (dB (0) (16) ?_ (by simp) (by decide)) λr22 fX=> .b (MB ?_ ?_) λr23 OY=>iW _ ?_)
  λh6=> .j (λy24:Af×Aa=>mA y24.1∧wt y24.2≤500) (λy24 hy24=>iW _ ?_)
  λk25 g8=> .c (λh7=> .b (dB (0) (16) ?_ (by simp) (by decide)) λr26 FX=> .b (MB ?_ ?_) λr27 PY=>g8 _ ?_)
  λh7=> .j (λy28:Af×Aa=>mA y28.1∧wt y28.2≤500) (λy28 b5=>g8 _ ?_)
  λk29 MY=> .c (λh8=> .b (dB (-1) (4294967296) ?_ (by simp) (by decide)) λr30 M0=>MY _ ?_)
  λh8=> .j (λy31:Af×Aa=>mA y31.1∧wt y31.2≤500) (λy31 Z4=>MY _ ?_)
  λk32 KY=> .c (λh9=> .b (dB (-1) (281474976710656) ?_ (by simp) (by decide)) λr33 m5=>KY _ ?_)
  λh9=> .j (λy34:Af×Aa=>mA y34.1∧wt y34.2≤500) (λy34 O2=>KY _ ?_)
  λk35 XX=> .c (λxW=> .b (dB (0) (41) ?_ (by simp) (by decide)) λr36 N2=> .b (MB ?_ ?_) λr37 U4=>XX _ ?_)
  λxW=> .j (λy38:Af×Aa=>mA y38.1∧wt y38.2≤500) (λy38 hy38=>XX _ ?_)
  λk39 v1=> .c (λHW=> .b (dB (0) (17) ?_ (by simp) (by decide)) λr40 hr40=> .b (MB ?_ ?_) λr41 Y4=>v1 _ ?_)
  λHW=>v1 _ ?_
 all_goals (try simp only[NB]at *)<;>(try simp(disch:=omega) only[DA,PA]at *)<;>omega
def zhU{a0}(ha:mA a0):Ok (Kf a0) λr=>mA r.2:=by
 unfold Kf
 refine .b (dB (0) (1000000) ?_ (by simp) (by decide)) λr1 OV=> .b (zhL ?_) λr2 dW=> .b (TA ?_) λr3 tW=> .j (λy4:Af×Av=>mA y4.1) (λy4 dZ=> .s ?_)
  λk5 mW=> .c (λh1=> .b (dB (-1) (1000009) ?_ (by simp) (by decide)) λr6 uW=>mW _ ?_)
  λh1=> .j (λy7:Af×Av=>mA y7.1) (λy7 WZ=>mW _ ?_)
  λk8 EW=> .c (λh2=> .b (dB (0) (16) ?_ (by simp) (by decide)) λr9 dX=>EW _ ?_)
  λh2=> .j (λy10:Af×Av=>mA y10.1) (λy10 yX=>EW _ ?_)
  λk11 SV=> .c (λh3=> .b (dB (0) (6) ?_ (by simp) (by decide)) λr12 vW=>SV _ ?_)
  λh3=> .jt (λy13=>SV _ ?_)
  λk14 RV=> .c (λ_=>RV _)
  λ_=>RV _
 all_goals (try simp only[NB]at *)<;>omega
def zp1{a0}(ha:mA a0):Ok (Jg a0) λr=>wt r.1≤30000∧mA r.2:=by
 unfold Jg
 refine .b (zpa ?_) λr1 OV=> .b (TA ?_) λr2 dW=> .j (λy3:Af×Ad=>mA y3.1∧wt y3.2≤30000) (λy3 vY=> .s ?_)
  λk4 TV=> .c (λh1=> .b (dB (0) (10) ?_ (by simp) (by decide)) λr5 QV=>TV _ ?_)
  λh1=> .j (λy6:Af×Ad=>mA y6.1∧wt y6.2≤30000) (λy6 vX=>TV _ ?_)
  λk7 UV=> .c (λh2=> .b (dB (0) (33) ?_ (by simp) (by decide)) λr8 OW=> .b (MB ?_ ?_) λr9 dX=>UV _ ?_)
  λh2=> .j (λy10:Af×Ad=>mA y10.1∧wt y10.2≤30000) (λy10 yX=>UV _ ?_)
  λk11 SV=> .c (λh3=> .b (iN ?_) λr12 vW=>SV _ ?_)
  λh3=> .j (λy13:Af×Ad=>mA y13.1∧wt y13.2≤30000) (λy13 gY=>SV _ ?_)
  λk14 RV=> .c (λh4=> .b (TA ?_) λr15 GW=>RV _ ?_)
  λh4=> .j (λy16:Af×Ad=>mA y16.1∧wt y16.2≤30000) (λy16 iY=>RV _ ?_)
  λk17 gW=> .c (λh5=> .b (dB (0) (12) ?_ (by simp) (by decide)) λr18 EY=> .b (MB ?_ ?_) λr19 EX=>gW _ ?_)
  λh5=> .j (λy20:Af×Ad=>mA y20.1∧wt y20.2≤30000) (λy20 rY=>gW _ ?_)
  λk21 iW=> .c (λh6=> .b (zqi ?_) λr22 fX=>iW _ ?_)
  λh6=> .j (λy23:Af×Ad=>mA y23.1∧wt y23.2≤30000) (λy23 eZ=>iW _ ?_)
  λk24 pW=> .c (λh7=> .b (zhR ?_) λr25 rX=>pW _ ?_)
  λh7=> .j (λy26:Af×Ad=>mA y26.1∧wt y26.2≤30000) (λy26 L0=>pW _ ?_)
  λk27 YW=> .c (λh8=> .b (zhU ?_) λr28 J2=>YW _ ?_)
  λh8=> .j (λy29:Af×Ad=>mA y29.1∧wt y29.2≤30000) (λy29 U6=>YW _ ?_)
  λk30 IY=> .c (λh9=> .b (zhU ?_) λr31 V4=>IY _ ?_)
  λh9=> .j (λy32:Af×Ad=>mA y32.1∧wt y32.2≤30000) (λy32 hy32=>IY _ ?_)
  λk33 HY=> .c (λxW=> .b (dB (-1) (1000001) ?_ (by simp) (by decide)) λr34 T4=>HY _ ?_)
  λxW=> .j (λy35:Ad=>wt y35≤30000) (λy35 V6=>HY _ ?_)
  λk36 fY=> .c (λHW=>fY _ ?_)
  λHW=>fY _ ?_
 all_goals (try simp only[NB]at *)<;>(try simp(disch:=omega) only[DA,PA]at *)<;>omega
def zpj{a0}(ha:mA a0):Ok (Jh a0) λr=>wt r.1≤200∧mA r.2:=by
 unfold Jh
 refine .b (TA ?_) λr1 OV=> .j (λy2:(List (List UInt8))×Af=>wt y2.1≤200∧mA y2.2) (λy2 zW=> .s ?_)
  λk3 KV=> .l (λx4:(List (List UInt8))×Int×Af=>0≤x4.2.1∧x4.2.1≤3∧wt x4.1+33 *x4.2.1≤99∧mA x4.2.2) (λx4:(List (List UInt8))×Int×Af=>x4.2.1.toNat) (λx4 J5 k5 mW=>have hxw:=JB x4.1; .c (λh1=> .b (TA ?_) λr6 uW=> .b (MB ?_ ?_) λr7 NW=>have hi7:=DA (a:=1) (b:=r6.1) ?_ ?_; .g ?_ (mW _ ?_ ?_))
  λh1=>KV _ ?_) ?_ ?_
 all_goals (try simp only[NB]at *)<;>(try simp(disch:=omega) only[DA,PA]at *)<;>omega
def zhG{a0}(ha:mA a0):Ok (Kg a0) λr=>wt r.1≤8500∧mA r.2:=by
 unfold Kg
 refine .b (TA ?_) λr1 OV=> .b zhs λr3 tW=> .b (TA ?_) λr4 VV=> .b (TA ?_) λr5 QV=> .j (λy6:Af×Aj=>mA y6.1∧wt y6.2≤8500) (λy6 vX=> .s ?_)
  λk7 UV=> .l (λx8:Int×Int×Af×Aj=>0≤x8.2.1∧x8.2.1≤5∧mA x8.2.2.1∧wt x8.2.2.2+1700 *x8.2.1≤8500) (λx8:Int×Int×Af×Aj=>x8.2.1.toNat) (λx8 Q4 k9 WW=> .c (λh1=> .b (TA ?_) λr10 rW=> .b (MB ?_ ?_) λr12 vW=> .b (zib ?_ ?_) λr13 eX=> .b (TA ?_) λr14 lX=>WW _ ?_ ?_)
  λh1=>UV _ ?_) ?_ ?_
 all_goals (try simp only[NB]at *)<;>(try simp(disch:=omega) only[DA,PA]at *)<;>omega
def zak{a0}(ha:mA a0):Ok (Ft a0) λr=>wt r.1≤12000∧mA r.2:=by
 unfold Ft
 refine .b (MB ?_ ?_) λr1 OV=> .b (TA ?_) λr2 dW=> .b (zg8 ?_) λr3 tW=> .b (zhn ?_) λr4 VV=> .b (MB ?_ ?_) λr5 QV=> .b (dB (0) (90) ?_ (by simp) (by decide)) λr6 uW=> .b (TA ?_) λr7 NW=> .b (zhO ?_) λr9 dX=> .b (uE ?_) λr10 rW=> .j (λy11:Af×Ah=>mA y11.1∧wt y11.2≤3000) (λy11 gZ=> .b (uE ?_) λr14 lX=> .j (λy15:Af×Ah=>mA y15.1∧wt y15.2≤12000) (λy15 LZ=> .s ?_)
  λk16 MW=> .c (λh1=> .b (zhG ?_) λr17 UX=>MW _ ?_)
  λh1=>MW _ ?_)
  λk12 wW=> .c (λh2=> .b (zef ?_) λr13 eX=>wW _ ?_)
  λh2=>wW _ ?_
 all_goals (try simp only[NB]at *)<;>(try simp(disch:=omega) only[DA,PA]at *)<;>omega
def zhx{a0}(ha:mA a0):Ok (Kh a0) λr=>wt r.1≤80000∧r.1.L.length≤6∧mA r.2:=by
 unfold Kh
 refine .b (TA ?_) λr1 OV=>have ht:=ze2 (iA .i64 1 r1.1);have D0:=JB (FF (iA .i64 1 r1.1)).L; .b (TA ?_) λr3 tW=> .j (λy4:Af×Ao=>mA y4.1∧wt y4.2≤80000∧y4.2.L.length≤6) (λy4 dZ=> .s ?_)
  λk5 mW=> .l (λx6:Int×Af×Ao=>0≤x6.1∧x6.1≤6∧mA x6.2.1∧wt x6.2.2+12001 *x6.1≤80000∧x6.2.2.L.length+x6.1≤6) (λx6:Int×Af×Ao=>x6.1.toNat) (λx6 G5 k7 UV=> .c (λh1=> .b (zak ?_) λr8 OW=> .b (zeh ?_ ?_) λr9 dX=> .j (λy10:Bool×Af=>mA y10.2∧(y10.1=false∨0<r9.1.L.length)) (λy10 yX=> .j (λy13:Af×Ao=>mA y13.1∧wt y13.2≤wt r9.1∧y13.2.L.length≤r9.1.L.length) (λy13 gY=>UV _ ?_ ?_)
  λk14 RV=> .c (λh2=>have R1:=yX.2.resolve_left (by rw[h2];decide); .b (TA ?_) λr15 GW=> .h ?_ (.bg ?_ λe16 M2 K3=> .b (UQ ?_) λr17 UX=>have U8:=KR (x:=r17) M2; .h ?_ (.m M2 (RV _ ?_))))
  λh2=>RV _ ?_)
  λk11 SV=> .c (λh3=> .b (uE ?_) λr12 vW=>SV _ ?_)
  λh3=>SV _ ?_)
  λh1=>mW _ ?_) ?_ ?_
 all_goals (try simp only[NB,eq_self,true_or]at *)<;>(try simp(disch:=omega) only[DA,PA]at *)<;>omega
def zhB{a0 a1}(ha:mA a0)(hb:0≤a1∧a1≤100):Ok (Ki a0 a1) λr=>wt r.1≤102∧mA r.2:=by
 unfold Ki;refine have hi:=DA (a:=a1) (b:=1) ?_ ?_;
 .b (TA ?_) λr1 OV=> .j (λy2:(List Al)×Af=>wt y2.1≤102∧mA y2.2) (λy2 zW=> .s ?_)
  λk3 KV=> .l (λx4:(List Al)×Int×Af=>0≤x4.2.1∧x4.2.1≤101∧wt x4.1+x4.2.1≤102∧mA x4.2.2) (λx4:(List Al)×Int×Af=>x4.2.1.toNat) (λx4 J5 k5 mW=> .c (λh1=> .b (TA ?_) λr6 uW=> .b (dB (0) (1000000) ?_ (by simp) (by decide)) λr8 OW=> .b (ziw ?_) λr9 dX=> .b (dB (0) (1000) ?_ (by simp) (by decide)) λr10 rW=> .b (zik ?_) λr11 AW=>mW _ ?_ ?_)
  λh1=>KV _ ?_) ?_ ?_
 all_goals (try simp only[NB]at *)<;>(try simp(disch:=omega) only[DA,PA]at *)<;>omega
def zo4{a0}(ha:mA a0):Ok (Ji a0) λr=>wt r.1≤700000∧mA r.2:=by
 unfold Ji
 refine .b (zpj ?_) λr1 OV=> .b (MB ?_ ?_) λr2 dW=> .b (TA ?_) λr3 tW=> .b (zqP ?_) λr4 VV=> .b (zhx ?_) λr5 QV=> .j (λy6:Ac=>wt y6≤600000) (λy6 vX=> .b (zhB ?_ ?_) λr15 GW=> .b (TA ?_) λr16 jY=> .s ?_)
  λk7 UV=> .l (λx8:Int×Ac=>0≤x8.1∧x8.1≤(r5.1.L.length:Int)∧wt x8.2≤1300+80001 *x8.1) (λx8:Int×Ac=>((r5.1.L.length:Int) - x8.1).toNat) (λx8 Q4 k9 WW=> .c (λh1=> .h ?_ (.bg ?_ λe10 qY BX=> .j (λy11:Ac=>wt y11≤1300+80001 *x8.1+80001) (λy11 gZ=>WW _ ?_ ?_)
  λk12 wW=> .c (λh2=> .h ?_ (.bg ?_ λe13 j8 M3=> .b (zeh ?_ ?_) λr14 lX=>wW _ ?_))
  λh2=>wW _ ?_))
  λh1=>UV _ ?_) ?_ ?_
 all_goals (try simp only[NB]at *)<;>(try simp(disch:=omega) only[DA,PA]at *)<;>omega
def zqd{a0 a1 a2}(ha:mA a0):Ok (Jj a0 a1 a2) λr=>wt r.1≤wt a1+wt a2∧mA r.2:=by
 unfold Jj
 refine .b (uE ?_) λr1 OV=> .c (λh1=> .s ?_)
  λh1=> .s ?_
 all_goals (try simp only[NB]at *)<;>omega
def zpT{a0}(ha:mA a0):Ok (Jk a0) λr=>wt r.1≤40∧mA r.2:=by
 unfold Jk
 refine .b (MB ?_ ?_) λr1 OV=>have hj:=PU r1.1; .b (uE ?_) λr3 tW=> .j (λy4:Af×Ba=>mA y4.1∧wt y4.2≤40) (λy4 dZ=> .s ?_)
  λk5 mW=> .c (λh1=> .b (dB (0) (32) ?_ (by simp) (by decide)) λr6 uW=> .b (MB ?_ ?_) λr7 NW=>mW _ ?_)
  λh1=>mW _ ?_
 all_goals (try simp only[NB]at *)<;>omega
def zpz{a0}(ha:mA a0):Ok (Jl a0) λr=>wt r.1≤30000∧mA r.2:=by
 unfold Jl
 refine .b (zhG ?_) λr1 OV=> .j (λy2:Bool×Af=>mA y2.2∧(y2.1=true∨0<r1.1.Cands.length)) (λy2 zW=> .c (λh1=> .s ?_)
  λh1=>have R1:=zW.2.resolve_left (by rw[h1];decide); .b (TA ?_) λr5 QV=> .b (TA ?_) λr6 uW=> .j (λy7:Af×Aj=>mA y7.1∧wt y7.2≤30000) (λy7 WZ=> .s ?_)
  λk8 EW=> .c (λh2=> .b (iN ?_) λr9 dX=>EW _ ?_)
  λh2=> .j (λy10:Af×Aj=>mA y10.1∧wt y10.2≤30000) (λy10 yX=>EW _ ?_)
  λk11 SV=> .c (λh3=> .b (iN ?_) λr12 vW=> .h ?_ (.bg ?_ λe13 j8 M3=>SV _ (have:=zC r1.1.Cands r5.1.toNat (⟨r12.1,e13.Draw,e13.Until⟩:Az);?_)))
  λh3=> .j (λy15:Af×Aj=>mA y15.1∧wt y15.2≤30000) (λy15 LZ=>SV _ ?_)
  λk16 MW=> .c (λh4=> .b (MB ?_ ?_) λr17 UX=> .h ?_ (.bg ?_ λe18 X4 P0=>MW _ (have:=zC r1.1.Cands r5.1.toNat (⟨e18.A,r17.1,e18.Until⟩:Az);?_)))
  λh4=> .j (λy20:Af×Aj=>mA y20.1∧wt y20.2≤30000) (λy20 rY=>MW _ ?_)
  λk21 iW=> .c (λh5=> .b (dB (-1) (1000007) ?_ (by simp) (by decide)) λr22 fX=> .h ?_ (.bg ?_ λe23 he23 Y6=>iW _ (have:=zC r1.1.Cands r5.1.toNat (⟨e23.A,e23.Draw,r22.1⟩:Az);?_)))
  λh5=> .j (λy25:Aj=>wt y25≤30000) (λy25 d8=>iW _ ?_)
  λk26 QY=> .c (λh6=> .h ?_ (.bg ?_ λe27 he27 N7=>QY _ ?_))
  λh6=>QY _ ?_)
  λk3 KV=> .c (λh7=>KV _ ?_)
  λh7=> .b (uE ?_) λr4 VV=>KV _ ?_
 all_goals (try simp only[NB,eq_self,true_or]at *)<;>omega
def zpS{a0}(ha:mA a0):Ok (Jm a0) λr=>wt r.1≤100000∧mA r.2:=by
 unfold Jm
 refine .b (zak ?_) λr1 OV=> .b (TA ?_) λr2 dW=> .j (λy3:Af×Ah×Ah=>mA y3.1∧wt y3.2.1≤100000) (λy3 vY=> .s ?_)
  λk4 TV=> .c (λh1=> .b (dB (0) (10) ?_ (by simp) (by decide)) λr5 QV=>TV _ ?_)
  λh1=> .j (λy6:Af×Ah×Ah=>mA y6.1∧wt y6.2.1≤100000) (λy6 vX=>TV _ ?_)
  λk7 UV=> .c (λh2=> .b (MB ?_ ?_) λr8 OW=>UV _ ?_)
  λh2=> .j (λy9:Af×Ah×Ah=>mA y9.1∧wt y9.2.1≤100000) (λy9 GY=>UV _ ?_)
  λk10 PV=> .c (λh3=> .b (dB (11) (12) ?_ (by simp) (by decide)) λr11 AW=> .b (MB ?_ ?_) λr12 vW=>PV _ ?_)
  λh3=> .j (λy13:Af×Ah×Ah=>mA y13.1∧wt y13.2.1≤100000) (λy13 gY=>PV _ ?_)
  λk14 RV=> .c (λh4=> .b (zhR ?_) λr15 GW=>RV _ ?_)
  λh4=> .j (λy16:Af×Ah×Ah=>mA y16.1∧wt y16.2.1≤100000) (λy16 iY=>RV _ ?_)
  λk17 gW=> .c (λh5=> .b (zpz ?_) λr18 EY=>gW _ ?_)
  λh5=> .j (λy19:Af×Ah×Ah=>mA y19.1∧wt y19.2.1≤100000) (λy19 hy19=>gW _ ?_)
  λk20 Z0=> .c (λh6=> .b (dB (-1) (1000001) ?_ (by simp) (by decide)) λr21 MZ=>Z0 _ ?_)
  λh6=> .j (λy22:Af×Ah×Ah=>mA y22.1∧wt y22.2.1≤100000) (λy22 S4=>Z0 _ ?_)
  λk23 WX=> .c (λh7=> .b (dB (-1) (1000001) ?_ (by simp) (by decide)) λr24 eY=>WX _ ?_)
  λh7=> .j (λy25:Ah×Ah=>wt y25.1≤100000) (λy25 d8=>WX _ ?_)
  λk26 QY=> .c (λh8=>QY _ ?_)
  λh8=> .jt (λy27=> .c (λh9=> .b (UQ ?_) λr29 fZ=> .s ?_)
  λh9=>QY _ ?_)
  λk28 ZW=> .c (λ_=>ZW _)
  λ_=>ZW _
 all_goals (try simp only[NB]at *)<;>omega
def zp2{a0}(ha:mA a0):Ok (Jn a0) λr=>wt r.1≤1000000∧mA r.2:=by
 unfold Jn
 refine .b (zhx ?_) λr1 OV=>have hlw:=JB r1.1.L; .b (TA ?_) λr2 dW=> .j (λy3:Af×Ao=>mA y3.1∧wt y3.2≤1000000) (λy3 vY=> .s ?_)
  λk4 TV=> .c (λh1=> .b (dB (0) (7) ?_ (by simp) (by decide)) λr5 QV=>TV _ ?_)
  λh1=> .j (λy6:Af×Ao=>mA y6.1∧wt y6.2≤1000000) (λy6 vX=>TV _ ?_)
  λk7 UV=> .c (λh2=> .b (zpS ?_) λr8 OW=> .g ?_ (UV _ ?_))
  λh2=> .j (λy9:Ao×Af=>wt y9.1≤1000000∧mA y9.2) (λy9 GY=>UV _ ?_)
  λk10 PV=> .c (λh3=> .j (λy11:Ao=>wt y11≤1000000) (λy11 gZ=>PV _ ?_)
  λk12 wW=> .c (λh4=> .h ?_ (.bg ?_ λe13 j8 M3=> .h ?_ (.bg ?_ λe14 R4 K0=>wW _ (have:=zC r1.1.L 1 (⟨e14.Id,e14.Cn,e13.Sn,e14.C,e14.P,e14.Tick,e14.Last,e14.Dead⟩:Ah);?_))))
  λh4=>wW _ ?_)
  λh3=> .j (λy16:Af×Ao=>mA y16.1∧wt y16.2≤1000000) (λy16 iY=>PV _ ?_)
  λk17 gW=> .c (λh5=> .b (zak ?_) λr18 EY=> .b (UQ ?_) λr19 EX=> .b (dB (9) (13) ?_ (by simp) (by decide)) λr20 pY=> .j (λy21:Af×Ah×Ao=>mA y21.1∧wt y21.2.2≤1000000) (λy21 O0=>gW _ ?_)
  λk22 gX=> .l (λx23:Int×Af×Ah×Ao=>0≤x23.1∧x23.1≤13∧mA x23.2.1∧wt x23.2.2.1+12 *x23.1≤20000∧wt x23.2.2.2+30000 *x23.1≤600000) (λx23:Int×Af×Ah×Ao=>x23.1.toNat) (λx23 hx23 k24 pW=>have hxw:=JB x23.2.2.2.L; .c (λh6=> .b (MB ?_ ?_) λr25 rX=> .g ?_ (pW _ ?_ ?_))
  λh6=>gX _ ?_) ?_ ?_)
  λh5=>gW _ ?_
 all_goals (try simp only[NB]at *)<;>(try simp(disch:=omega) only[DA,PA]at *)<;>omega
def zpQ{a0}(ha:mA a0):Ok (Jo a0) λr=>wt r.1≤10000∧mA r.2:=by
 unfold Jo
 refine .b (zhB ?_ ?_) λr1 OV=>have hlw:=JB r1.1; .c (λh1=> .s ?_)
  λh1=> .b (TA ?_) λr2 dW=> .b (TA ?_) λr3 tW=> .j (λy4:(List Al)×Af=>wt y4.1≤10000∧mA y4.2) (λy4 dZ=> .s ?_)
  λk5 mW=> .c (λh2=> .b (iN ?_) λr6 uW=> .h ?_ (.bg ?_ λe7 I5 JZ=>mW _ (have:=zC r1.1 r2.1.toNat (⟨r6.1,e7.Got,e7.Sent⟩:Al);?_)))
  λh2=> .j (λy9:(List Al)×Af=>wt y9.1≤10000∧mA y9.2) (λy9 GY=>mW _ ?_)
  λk10 PV=> .c (λh3=> .b (dB (-1) (1000001) ?_ (by simp) (by decide)) λr11 AW=> .h ?_ (.bg ?_ λe12 he12 W6=>PV _ (have:=zC r1.1 r2.1.toNat (⟨e12.A,r11.1,e12.Sent⟩:Al);?_)))
  λh3=> .j (λy14:(List Al)×Af=>wt y14.1≤10000∧mA y14.2) (λy14 L2=>PV _ ?_)
  λk15 XW=> .c (λh4=> .h ?_ (.bg ?_ λe16 M2 K3=> .b (zwi ?_ (by simp)) λr17 UX=> .h ?_ (.bg ?_ λe18 X4 P0=>XW _ (have:=zC r1.1 r2.1.toNat (⟨e18.A,e18.Got,r17.1⟩:Al);?_))))
  λh4=> .j (λy20:(List Al)=>wt y20≤10000) (λy20 rY=>XW _ ?_)
  λk21 iW=> .c (λh5=> .h ?_ (.bg ?_ λe22 n5 m8=> .g ?_ (iW _ ?_)))
  λh5=>iW _ ?_
 all_goals (try simp only[NB]at *)<;>(try simp(disch:=omega) only[DA,PA]at *)<;>omega
def zpq{a0}(ha:mA a0):Ok (Jq a0) λr=>wt r.1≤40∧mA r.2:=by
 unfold Jq;refine .b (TA ?_) λr1 OV=> .b (MB ?_ ?_) λr2 dW=>have hi2:=DA (a:=1) (b:=r1.1) ?_ ?_; .b (TA ?_) λr3 tW=> .s ?_
 all_goals (try simp only[NB]at *)<;>(try simp(disch:=omega) only[DA,PA]at *)<;>omega
def zpD{a0}(ha:mA a0):Ok (Jr a0) λr=>wt r.1≤100∧mA r.2:=by
 unfold Jr
 refine .b (zpq ?_) λr1 OV=> .b (TA ?_) λr2 dW=> .j (λy3:Af×Ax=>mA y3.1∧wt y3.2≤100) (λy3 vY=> .s ?_)
  λk4 TV=> .c (λh1=> .b (dB (-1) (10001) ?_ (by simp) (by decide)) λr5 QV=>TV _ ?_)
  λh1=> .j (λy6:Af×Ax=>mA y6.1∧wt y6.2≤100) (λy6 vX=>TV _ ?_)
  λk7 UV=> .c (λh2=> .b (dB (0) (33) ?_ (by simp) (by decide)) λr8 OW=> .b (MB ?_ ?_) λr9 dX=>UV _ ?_)
  λh2=>UV _ ?_
 all_goals (try simp only[NB]at *)<;>omega
def zpE{a0}(ha:mA a0):Ok (Jp a0) λr=>wt r.1≤3000000∧mA r.2:=by
 unfold Jp
 refine .b (zo4 ?_) λr1 OV=>have oZ:=JB r1.1.Psks;have D0:=JB r1.1.T.L; .b (TA ?_) λr2 dW=> .j (λy3:Af×Ac=>mA y3.1∧wt y3.2≤3000000) (λy3 vY=> .s ?_)
  λk4 TV=> .c (λh1=> .b (zqd ?_) λr5 QV=>TV _ ?_)
  λh1=> .j (λy6:Af×Ac=>mA y6.1∧wt y6.2≤3000000) (λy6 vX=>TV _ ?_)
  λk7 UV=> .c (λh2=> .b (zpT ?_) λr8 OW=>UV _ ?_)
  λh2=> .j (λy9:Af×Ac=>mA y9.1∧wt y9.2≤3000000) (λy9 GY=>UV _ ?_)
  λk10 PV=> .c (λh3=> .b (dB (-1) (10001) ?_ (by simp) (by decide)) λr11 AW=>PV _ ?_)
  λh3=> .j (λy12:Af×Ac=>mA y12.1∧wt y12.2≤3000000) (λy12 DY=>PV _ ?_)
  λk13 lW=> .c (λh4=> .b (zp2 ?_) λr14 lX=>lW _ ?_)
  λh4=> .j (λy15:Af×Ac=>mA y15.1∧wt y15.2≤3000000) (λy15 LZ=>lW _ ?_)
  λk16 MW=> .c (λh5=> .b (zpQ ?_) λr17 UX=>MW _ ?_)
  λh5=> .j (λy18:Ac×Af=>wt y18.1≤3000000∧mA y18.2) (λy18 NZ=>MW _ ?_)
  λk19 DW=> .c (λh6=> .g ?_ (DW _ ?_))
  λh6=> .j (λy20:Af×Ac=>mA y20.1∧wt y20.2≤3000000) (λy20 rY=>DW _ ?_)
  λk21 iW=> .c (λh7=> .b (zak ?_) λr22 fX=> .b (UQ ?_) λr23 OY=> .g ?_ (iW _ ?_))
  λh7=>iW _ ?_
 all_goals (try simp only[NB]at *)<;>omega
def zpi{a0}(ha:mA a0):Ok (Js a0) λr=>wt r.1≤300∧mA r.2:=by
 unfold Js
 refine .b (uE ?_) λr1 OV=> .c (λh1=> .b (TA ?_) λr2 dW=> .b (TA ?_) λr4 VV=> .b (dB (0) (200) ?_ (by simp) (by decide)) λr6 uW=> .b (MB ?_ ?_) λr7 NW=> .s ?_)
  λh1=> .b (TA ?_) λr8 OW=> .b (TA ?_) λr10 rW=> .b (zhV ?_) λr12 vW=> .b (zd3 ?_) λr13 eX=> .s ?_
 all_goals (try simp only[NB]at *)<;>omega
def zhW{a0}(ha:mA a0):Ok (Kj a0) λr=>wt r.1≤600∧mA r.2:=by
 unfold Kj
 refine .b (zpi ?_) λr1 OV=> .b (TA ?_) λr2 dW=> .j (λy3:Af×Am=>mA y3.1∧wt y3.2≤600) (λy3 vY=> .s ?_)
  λk4 TV=> .c (λh1=> .b (iN ?_) λr5 QV=>TV _ ?_)
  λh1=> .j (λy6:Af×Am=>mA y6.1∧wt y6.2≤600) (λy6 vX=>TV _ ?_)
  λk7 UV=> .c (λh2=> .b (iN ?_) λr8 OW=>UV _ ?_)
  λh2=> .j (λy9:Af×Am=>mA y9.1∧wt y9.2≤600) (λy9 GY=>UV _ ?_)
  λk10 PV=> .c (λh3=> .b (MB ?_ ?_) λr11 AW=>PV _ ?_)
  λh3=>PV _ ?_
 all_goals (try simp only[NB]at *)<;>omega
end Go.D
namespace Go.D
def zh3{a0 a1}(ha:mA a0)(hb:a1≤40):Ok (Kk a0 a1) λr=>wt r.1≤800000000∧wt r.1.Notes≤400001000∧mA r.2:=by
 unfold Kk
 refine .b (zoO ?_ ?_) λr1 OV=>have W2:=JB r1.1.Seen;have S3:=JB r1.1.Known;have eW:=JB r1.1.Notes; .b (TA ?_) λr2 dW=> .j (λy3:Af×Ab=>mA y3.1∧wt y3.2≤800000000∧wt y3.2.Notes≤400001000) (λy3 vY=> .s ?_)
  λk4 TV=> .c (λh1=> .b (dB (-1) (1000001) ?_ (by simp) (by decide)) λr5 QV=>TV _ ?_)
  λh1=> .j (λy6:Af×Ab=>mA y6.1∧wt y6.2≤800000000∧wt y6.2.Notes≤400001000) (λy6 vX=>TV _ ?_)
  λk7 UV=> .c (λh2=> .b (TA ?_) λr8 OW=> .b (zp1 ?_) λr9 dX=> .h ?_ (.bg ?_ λe10 qY BX=>UV _ (have:=zC r1.1.Clients r8.1.toNat r9.1;?_)))
  λh2=> .j (λy11:Af×Ab=>mA y11.1∧wt y11.2≤800000000∧wt y11.2.Notes≤400001000) (λy11 gZ=>UV _ ?_)
  λk12 wW=> .c (λh3=> .b (TA ?_) λr13 eX=> .h ?_ (wW _ (have:=yG r1.1.Clients ((r13.1 - 0).toNat);?_)))
  λh3=> .j (λy14:Af×Ab=>mA y14.1∧wt y14.2≤800000000∧wt y14.2.Notes≤400001000) (λy14 L2=>wW _ ?_)
  λk15 XW=> .c (λh4=> .b (zpE ?_) λr16 jY=>XW _ ?_)
  λh4=> .j (λy17:Af×Ab=>mA y17.1∧wt y17.2≤800000000∧wt y17.2.Notes≤400001000) (λy17 A1=>XW _ ?_)
  λk18 sX=> .c (λh5=> .b (zpD ?_) λr19 EX=>sX _ ?_)
  λh5=> .j (λy20:Af×Ab=>mA y20.1∧wt y20.2≤800000000∧wt y20.2.Notes≤400001000) (λy20 rY=>sX _ ?_)
  λk21 iW=> .c (λh6=> .b (zhW ?_) λr22 fX=> .g ?_ (iW _ ?_))
  λh6=> .j (λy23:Af×Ab=>mA y23.1∧wt y23.2≤800000000∧wt y23.2.Notes≤400001000) (λy23 eZ=>iW _ ?_)
  λk24 pW=> .c (λh7=> .b (dB (31) (32) ?_ (by simp) (by decide)) λr25 rX=> .b (MB ?_ ?_) λr26 FX=> .g ?_ (pW _ ?_))
  λh7=> .j (λy27:Af×Ab=>mA y27.1∧wt y27.2≤800000000∧wt y27.2.Notes≤400001000) (λy27 W4=>pW _ ?_)
  λk28 ZW=> .c (λh8=> .b (zpP ?_) λr29 fZ=> .g ?_ (ZW _ ?_))
  λh8=> .j (λy30:Ab=>wt y30≤800000000∧wt y30.Notes≤400001000) (λy30 hy30=>ZW _ ?_)
  λk31 z1=> .c (λh9=> .h ?_ (.bg ?_ λe32 P7 Q7=>z1 _ (have:=zC r1.1.Clients 0 (⟨2,e32.Psk,e32.At,e32.St,e32.Cn,e32.Fin,e32.C,e32.T,e32.R,e32.Last⟩:Ad);?_)))
  λh9=> .j (λy34:Ab=>wt y34≤800000000∧wt y34.Notes≤400001000) (λy34 O2=>z1 _ ?_)
  λk35 XX=> .c (λxW=> .h ?_ (.bg ?_ λe36 he36 he36w=>XX _ (have:=zC r1.1.Clients 0 (⟨e36.Id,[UInt8.ofNat (1:Int).toNat],e36.At,e36.St,e36.Cn,e36.Fin,e36.C,e36.T,e36.R,e36.Last⟩:Ad);?_)))
  λxW=>XX _ ?_
 all_goals (try simp only[NB]at *)<;>omega
end Go.D

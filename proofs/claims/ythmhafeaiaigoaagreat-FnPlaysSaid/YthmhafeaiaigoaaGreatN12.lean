/-
 Sizes of the program's data.
-/
import Derived.Test.YthmhafeaiaigoaaGreatN10
set_option linter.all false
namespace Go.D
end Go.D
namespace Go.D
end Go.D
namespace Go.D
open Option renaming bind→ob
noncomputable section
def Ko(a0:Af):=
 ob (Ay a0 12) λr1=>
 ob (Ay r1.2 12) λr2=>
 ob (Ar r2.2 300) λr3=>
 ob (Ay r3.2 16) λr4=>
 some ((⟨2,0,r1.1,r2.1,r3.1,r4.1,[],0,0,[],[]⟩:Ab),r4.2)
def Kp(a0:Af)(a1:Int):=
 ob (Bf a1) λr1=>
 ob (Ar a0 6) λr2=>
 aA (λ(y3:Aw)=>
 some (y3,r2.2)) λk4=>
 tA FU (λ(x5:Int×Aw) k6=>
 cond (decide (x5.1>0))
 (ob (Cs x5.2 x5.2.Due) λr7=>
 k6 ((sA .i64 x5.1 1),r7.1))
 (k4 x5.2)) (r2.1,r1)
def Jo(a0:Af):=
 ob (Ar a0 3) λr1=>
 ob (Ar r1.2 32) λr2=>
 ob (Ay r2.2 (iA .i64 1 r2.1)) λr3=>
 ob (Ar r3.2 5) λr4=>
 let r5:Ai:=AB (iA .i64 1 r4.1)
 ob (SI (iA .i64 1 r1.1) r3.1 r5) λr6=>
 ob (As r4.2 [0,1,2,2,3,3,3,3]) λr7=>
 cond (r7.1==0)
 (some (r6,r7.2))
 (ob (As r7.2 [0,0,5,90]) λr8=>
 ob (Ay r8.2 12) λr9=>
 ob (Ff r6 r8.1 r9.1) λr10=>
 ob (Ar r9.2 3) λr11=>
 ob (Cs r10.1.T (iA .i64 r8.1 r11.1)) λr12=>
 cond (r7.1==1)
 (some ((⟨r10.1.Id,r10.1.Psk,r10.1.At,r10.1.St,r10.1.Cn,r10.1.Fin,r10.1.C,r12.1,r10.1.R,r10.1.Last⟩:Ae),r11.2))
 (ob (Ko r11.2) λr13=>
 ob (En (⟨r10.1.Id,r10.1.Psk,r10.1.At,r10.1.St,r10.1.Cn,r10.1.Fin,r10.1.C,r12.1,r10.1.R,r10.1.Last⟩:Ae) r8.1 (⟨r13.1.Kind,r13.1.Id,r10.1.Cn,r13.1.Sn,r13.1.Tick,r13.1.Cookie,r13.1.Proof,r13.1.Epoch,r13.1.Seq,r13.1.Body,r13.1.Tag⟩:Ab)) λr14=>
 cond (r7.1==2)
 (ob (Ar r13.2 5) λr15=>
 aA (λ(y16:Ae)=>
 aA (λ(y21:Ae)=>
 some (y21,r15.2)) λk22=>
 cond (!y16.T.On)
 (ob (Bf r8.1) λr23=>
 k22 (⟨y16.Id,y16.Psk,y16.At,y16.St,y16.Cn,y16.Fin,y16.C,r23,y16.R,y16.Last⟩:Ae))
 (k22 y16)) λk17=>
 tA FU (λ(x18:Int×Ae) k19=>
 cond (decide (x18.1>0))
 (ob (Cs x18.2.T x18.2.T.Due) λr20=>
 k19 ((sA .i64 x18.1 1),(⟨x18.2.Id,x18.2.Psk,x18.2.At,x18.2.St,x18.2.Cn,x18.2.Fin,x18.2.C,r20.1,x18.2.R,x18.2.Last⟩:Ae)))
 (k17 x18.2)) (r15.1,r14.1))
 (ob (Bk 0) λr24=>
 ob (Eb r14.1.C.Cur.Key 1 r14.1.C.Sn 0 0 8 r24) λr25=>
 ob (En r14.1 r8.1 r25.1) λr26=>
 ob (Bb r13.2 2) λr27=>
 aA (λ(y28:Af×Ae)=>
 some (y28.2,y28.1)) λk29=>
 cond (r27.1)
 (ob (Hv r27.2 0) λr30=>
 aA (λ(y31:Af×Ae)=>
 k29 (y31.1,y31.2)) λk32=>
 cond (decide ((r30.1.Next.length:Int)>0))
 (ob (Kp r30.2 r8.1) λr33=>
 aA (λ(y34:Ae)=>
 k32 (r33.2,y34)) λk35=>
 cond (!r33.1.On)
 (ob (Bf r8.1) λr36=>
 k35 (⟨r26.1.Id,r26.1.Psk,r26.1.At,r26.1.St,r26.1.Cn,r26.1.Fin,r30.1,r26.1.T,r36,r26.1.Last⟩:Ae))
 (k35 (⟨r26.1.Id,r26.1.Psk,r26.1.At,r26.1.St,r26.1.Cn,r26.1.Fin,r30.1,r26.1.T,r33.1,r26.1.Last⟩:Ae)))
 (k32 (r30.2,(⟨r26.1.Id,r26.1.Psk,r26.1.At,r26.1.St,r26.1.Cn,r26.1.Fin,r30.1,r26.1.T,r26.1.R,r26.1.Last⟩:Ae))))
 (k29 (r27.2,r26.1)))))
def Kq(a0:Af):=
 ob (Ar a0 8) λr1=>
 aA (λ(y2:Af×Ab)=>
 some (y2.2,y2.1)) λk3=>
 cond ((iA .i64 1 r1.1)==1)
 (ob (Ar r1.2 9) λr4=>
 ob (Ay r4.2 12) λr5=>
 k3 (r5.2,(⟨iA .i64 1 r1.1,iA .i64 1 r4.1,r5.1,[],0,[],[],0,0,[],[]⟩:Ab)))
 (aA (λ(y6:Bool)=>
 aA (λ(y8:Af×Ab)=>
 k3 (y8.1,y8.2)) λk9=>
 cond (y6)
 (ob (Ay r1.2 12) λr10=>
 ob (Ay r10.2 12) λr11=>
 ob (As r11.2 [0,1,300,1000000]) λr12=>
 ob (Ay r12.2 16) λr13=>
 aA (λ(y14:Af×Ab)=>
 k9 (y14.1,y14.2)) λk15=>
 cond ((iA .i64 1 r1.1)==3)
 (ob (Ar r13.2 9) λr16=>
 ob (Ay r16.2 16) λr17=>
 k15 (r17.2,(⟨iA .i64 1 r1.1,iA .i64 1 r16.1,r10.1,r11.1,r12.1,r13.1,r17.1,0,0,[],[]⟩:Ab)))
 (k15 (r13.2,(⟨iA .i64 1 r1.1,0,r10.1,r11.1,r12.1,r13.1,[],0,0,[],[]⟩:Ab))))
 (ob (Ay r1.2 12) λr18=>
 ob (As r18.2 [0,1,2,4294967295]) λr19=>
 ob (As r19.2 [0,1,70000,281474976710655]) λr20=>
 ob (Ay r20.2 16) λr21=>
 ob (As r21.2 [0,1,12,40]) λr22=>
 aA (λ(y23:Bool)=>
 aA (λ(y25:Int)=>
 aA (λ(y27:Int)=>
 ob (Ay r22.2 y27) λr29=>
 k9 (r29.2,(⟨iA .i64 1 r1.1,0,[],r18.1,0,[],[],r19.1,r20.1,r29.1,r21.1⟩:Ab))) λk28=>
 cond (decide ((iA .i64 1 r1.1)≥7))
 (k28 4)
 (k28 y25)) λk26=>
 cond (y23)
 (k26 12)
 (k26 r22.1)) λk24=>
 cond ((iA .i64 1 r1.1)==5)
 (k24 true)
 (k24 ((iA .i64 1 r1.1)==6)))) λk7=>
 cond ((iA .i64 1 r1.1)==2)
 (k7 ((iA .i64 1 r1.1)==2))
 (k7 ((iA .i64 1 r1.1)==3)))
def Jp(a0:Af):=
 ob (Kq a0) λr1=>
 ob (Ar r1.2 22) λr2=>
 aA (λ(y3:Af×Ab)=>
 some (y3.2,y3.1)) λk4=>
 cond (r2.1==0)
 (ob (Ar r2.2 11) λr5=>
 k4 (r5.2,(⟨sA .i64 r5.1 1,r1.1.Id,r1.1.Cn,r1.1.Sn,r1.1.Tick,r1.1.Cookie,r1.1.Proof,r1.1.Epoch,r1.1.Seq,r1.1.Body,r1.1.Tag⟩:Ab)))
 (aA (λ(y6:Af×Ab)=>
 k4 (y6.1,y6.2)) λk7=>
 cond (r2.1==1)
 (ob (As r2.2 [0,1,10,(-1)]) λr8=>
 k7 (r8.2,(⟨r1.1.Kind,r8.1,r1.1.Cn,r1.1.Sn,r1.1.Tick,r1.1.Cookie,r1.1.Proof,r1.1.Epoch,r1.1.Seq,r1.1.Body,r1.1.Tag⟩:Ab)))
 (aA (λ(y9:Af×Ab)=>
 k7 (y9.1,y9.2)) λk10=>
 cond (r2.1==2)
 (ob (As r2.2 [0,11,12,13]) λr11=>
 ob (Ay r11.2 r11.1) λr12=>
 k10 (r12.2,(⟨r1.1.Kind,r1.1.Id,r12.1,r1.1.Sn,r1.1.Tick,r1.1.Cookie,r1.1.Proof,r1.1.Epoch,r1.1.Seq,r1.1.Body,r1.1.Tag⟩:Ab)))
 (aA (λ(y13:Af×Ab)=>
 k10 (y13.1,y13.2)) λk14=>
 cond (r2.1==3)
 (ob (As r2.2 [0,11,12,13]) λr15=>
 ob (Ay r15.2 r15.1) λr16=>
 k14 (r16.2,(⟨r1.1.Kind,r1.1.Id,r1.1.Cn,r16.1,r1.1.Tick,r1.1.Cookie,r1.1.Proof,r1.1.Epoch,r1.1.Seq,r1.1.Body,r1.1.Tag⟩:Ab)))
 (aA (λ(y17:Af×Ab)=>
 k14 (y17.1,y17.2)) λk18=>
 cond (r2.1==4)
 (ob (As r2.2 [(-1),0,1000001]) λr19=>
 k18 (r19.2,(⟨r1.1.Kind,r1.1.Id,r1.1.Cn,r1.1.Sn,r19.1,r1.1.Cookie,r1.1.Proof,r1.1.Epoch,r1.1.Seq,r1.1.Body,r1.1.Tag⟩:Ab)))
 (aA (λ(y20:Af×Ab)=>
 k18 (y20.1,y20.2)) λk21=>
 cond (r2.1==5)
 (ob (As r2.2 [0,15,16]) λr22=>
 ob (Ay r22.2 r22.1) λr23=>
 k21 (r23.2,(⟨r1.1.Kind,r1.1.Id,r1.1.Cn,r1.1.Sn,r1.1.Tick,r23.1,r1.1.Proof,r1.1.Epoch,r1.1.Seq,r1.1.Body,r1.1.Tag⟩:Ab)))
 (aA (λ(y24:Af×Ab)=>
 k21 (y24.1,y24.2)) λk25=>
 cond (r2.1==6)
 (ob (As r2.2 [0,15,16]) λr26=>
 ob (Ay r26.2 r26.1) λr27=>
 k25 (r27.2,(⟨r1.1.Kind,r1.1.Id,r1.1.Cn,r1.1.Sn,r1.1.Tick,r1.1.Cookie,r27.1,r1.1.Epoch,r1.1.Seq,r1.1.Body,r1.1.Tag⟩:Ab)))
 (aA (λ(y28:Af×Ab)=>
 k25 (y28.1,y28.2)) λk29=>
 cond (r2.1==7)
 (ob (As r2.2 [(-1),0,4294967296]) λr30=>
 k29 (r30.2,(⟨r1.1.Kind,r1.1.Id,r1.1.Cn,r1.1.Sn,r1.1.Tick,r1.1.Cookie,r1.1.Proof,r30.1,r1.1.Seq,r1.1.Body,r1.1.Tag⟩:Ab)))
 (aA (λ(y31:Af×Ab)=>
 k29 (y31.1,y31.2)) λk32=>
 cond (r2.1==8)
 (ob (As r2.2 [(-1),0,281474976710656]) λr33=>
 k32 (r33.2,(⟨r1.1.Kind,r1.1.Id,r1.1.Cn,r1.1.Sn,r1.1.Tick,r1.1.Cookie,r1.1.Proof,r1.1.Epoch,r33.1,r1.1.Body,r1.1.Tag⟩:Ab)))
 (aA (λ(y34:Af×Ab)=>
 k32 (y34.1,y34.2)) λk35=>
 cond (r2.1==9)
 (ob (As r2.2 [0,4,12,41]) λr36=>
 ob (Ay r36.2 r36.1) λr37=>
 k35 (r37.2,(⟨r1.1.Kind,r1.1.Id,r1.1.Cn,r1.1.Sn,r1.1.Tick,r1.1.Cookie,r1.1.Proof,r1.1.Epoch,r1.1.Seq,r37.1,r1.1.Tag⟩:Ab)))
 (aA (λ(y38:Af×Ab)=>
 k35 (y38.1,y38.2)) λk39=>
 cond (r2.1==10)
 (ob (As r2.2 [0,15,17]) λr40=>
 ob (Ay r40.2 r40.1) λr41=>
 k39 (r41.2,(⟨r1.1.Kind,r1.1.Id,r1.1.Cn,r1.1.Sn,r1.1.Tick,r1.1.Cookie,r1.1.Proof,r1.1.Epoch,r1.1.Seq,r1.1.Body,r41.1⟩:Ab)))
 (k39 (r2.2,r1.1))))))))))))
def Kr(a0:Af):=
 ob (As a0 [0,5,999990,1000000]) λr1=>
 ob (Kp r1.2 r1.1) λr2=>
 ob (Ar r2.2 10) λr3=>
 aA (λ(y4:Af×Aw)=>
 some (y4.2,y4.1)) λk5=>
 cond (r3.1==0)
 (ob (As r3.2 [(-1),1000008,1000009]) λr6=>
 k5 (r6.2,(⟨r2.1.On,r6.1,r2.1.Wait,r2.1.Tries⟩:Aw)))
 (aA (λ(y7:Af×Aw)=>
 k5 (y7.1,y7.2)) λk8=>
 cond (r3.1==1)
 (ob (As r3.2 [0,1,3,8,16]) λr9=>
 k8 (r9.2,(⟨r2.1.On,r2.1.Due,r9.1,r2.1.Tries⟩:Aw)))
 (aA (λ(y10:Af×Aw)=>
 k8 (y10.1,y10.2)) λk11=>
 cond (r3.1==2)
 (ob (As r3.2 [0,1,5,6]) λr12=>
 k11 (r12.2,(⟨r2.1.On,r2.1.Due,r2.1.Wait,r12.1⟩:Aw)))
 (aA (λ(y13:Aw)=>
 k11 (r3.2,y13)) λk14=>
 cond (r3.1==3)
 (k14 (⟨!r2.1.On,r2.1.Due,r2.1.Wait,r2.1.Tries⟩:Aw))
 (k14 r2.1))))
def Jq(a0:Af):=
 ob (Jo a0) λr1=>
 ob (Ar r1.2 26) λr2=>
 aA (λ(y3:Af×Ae)=>
 some (y3.2,y3.1)) λk4=>
 cond (r2.1==0)
 (ob (As r2.2 [0,10,4]) λr5=>
 k4 (r5.2,(⟨r5.1,r1.1.Psk,r1.1.At,r1.1.St,r1.1.Cn,r1.1.Fin,r1.1.C,r1.1.T,r1.1.R,r1.1.Last⟩:Ae)))
 (aA (λ(y6:Af×Ae)=>
 k4 (y6.1,y6.2)) λk7=>
 cond (r2.1==1)
 (ob (As r2.2 [0,33,1]) λr8=>
 ob (Ay r8.2 r8.1) λr9=>
 k7 (r9.2,(⟨r1.1.Id,r9.1,r1.1.At,r1.1.St,r1.1.Cn,r1.1.Fin,r1.1.C,r1.1.T,r1.1.R,r1.1.Last⟩:Ae)))
 (aA (λ(y10:Af×Ae)=>
 k7 (y10.1,y10.2)) λk11=>
 cond (r2.1==2)
 (ob (Db r2.2) λr12=>
 k11 (r12.2,(⟨r1.1.Id,r1.1.Psk,r12.1,r1.1.St,r1.1.Cn,r1.1.Fin,r1.1.C,r1.1.T,r1.1.R,r1.1.Last⟩:Ae)))
 (aA (λ(y13:Af×Ae)=>
 k11 (y13.1,y13.2)) λk14=>
 cond (r2.1==3)
 (ob (Ar r2.2 6) λr15=>
 k14 (r15.2,(⟨r1.1.Id,r1.1.Psk,r1.1.At,sA .i64 r15.1 1,r1.1.Cn,r1.1.Fin,r1.1.C,r1.1.T,r1.1.R,r1.1.Last⟩:Ae)))
 (aA (λ(y16:Af×Ae)=>
 k14 (y16.1,y16.2)) λk17=>
 cond (r2.1==4)
 (ob (As r2.2 [0,11,12]) λr18=>
 ob (Ay r18.2 r18.1) λr19=>
 k17 (r19.2,(⟨r1.1.Id,r1.1.Psk,r1.1.At,r1.1.St,r19.1,r1.1.Fin,r1.1.C,r1.1.T,r1.1.R,r1.1.Last⟩:Ae)))
 (aA (λ(y20:Af×Ae)=>
 k17 (y20.1,y20.2)) λk21=>
 cond (r2.1==5)
 (ob (Jp r2.2) λr22=>
 k21 (r22.2,(⟨r1.1.Id,r1.1.Psk,r1.1.At,r1.1.St,r1.1.Cn,r22.1,r1.1.C,r1.1.T,r1.1.R,r1.1.Last⟩:Ae)))
 (aA (λ(y23:Af×Ae)=>
 k21 (y23.1,y23.2)) λk24=>
 cond (r2.1==6)
 (ob (Kn r2.2) λr25=>
 k24 (r25.2,(⟨r1.1.Id,r1.1.Psk,r1.1.At,r1.1.St,r1.1.Cn,r1.1.Fin,r25.1,r1.1.T,r1.1.R,r1.1.Last⟩:Ae)))
 (aA (λ(y26:Af×Ae)=>
 k24 (y26.1,y26.2)) λk27=>
 cond (r2.1==7)
 (ob (Kr r2.2) λr28=>
 k27 (r28.2,(⟨r1.1.Id,r1.1.Psk,r1.1.At,r1.1.St,r1.1.Cn,r1.1.Fin,r1.1.C,r28.1,r1.1.R,r1.1.Last⟩:Ae)))
 (aA (λ(y29:Af×Ae)=>
 k27 (y29.1,y29.2)) λk30=>
 cond (r2.1==8)
 (ob (Kr r2.2) λr31=>
 k30 (r31.2,(⟨r1.1.Id,r1.1.Psk,r1.1.At,r1.1.St,r1.1.Cn,r1.1.Fin,r1.1.C,r1.1.T,r31.1,r1.1.Last⟩:Ae)))
 (aA (λ(y32:Af×Ae)=>
 k30 (y32.1,y32.2)) λk33=>
 cond (r2.1==9)
 (ob (As r2.2 [(-1),1,1000001]) λr34=>
 k33 (r34.2,(⟨r1.1.Id,r1.1.Psk,r1.1.At,r1.1.St,r1.1.Cn,r1.1.Fin,r1.1.C,r1.1.T,r1.1.R,r34.1⟩:Ae)))
 (aA (λ(y35:Ae)=>
 k33 (r2.2,y35)) λk36=>
 cond (r2.1==10)
 (k36 (⟨r1.1.Id,r1.1.Psk,r1.1.At,r1.1.St,r1.1.Cn,(⟨0,0,[],[],0,[],[],0,0,[],[]⟩:Ab),r1.1.C,r1.1.T,r1.1.R,r1.1.Last⟩:Ae))
 (k36 r1.1)))))))))))
def Jr(a0:Af):=
 ob (Ar a0 3) λr1=>
 aA (λ(y2:(List (List UInt8))×Af)=>
 some (y2.1,y2.2)) λk3=>
 tA FU (λ(x4:(List (List UInt8))×Int×Af) k5=>
 cond (decide (x4.2.1>0))
 (ob (Ar x4.2.2 32) λr6=>
 ob (Ay r6.2 (iA .i64 1 r6.1)) λr7=>
 cond (decide (x4.1.length+[r7.1].length≤bA)) (k5 ((x4.1++[r7.1]),(sA .i64 x4.2.1 1),r7.2)) none)
 (k3 (x4.1,x4.2.2))) ([],(iA .i64 1 r1.1),r1.2)
def Ks(a0:Af):=
 ob (Ar a0 5) λr1=>
 let r2:Ai:=AB r1.1
 ob (Cf r2) λr3=>
 ob (Ar r1.2 6) λr4=>
 ob (Ar r4.2 5) λr5=>
 aA (λ(y6:Af×Aj)=>
 some (y6.2,y6.1)) λk7=>
 tA FU (λ(x8:Int×Int×Af×Aj) k9=>
 cond (decide (x8.2.1>0))
 (ob (Ar x8.2.2.1 7) λr10=>
 let r11:Ai:=AB r10.1
 ob (Ay r10.2 12) λr12=>
 ob (Ek x8.2.2.2 x8.1 r11 r12.1) λr13=>
 ob (Ar r12.2 3) λr14=>
 k9 ((iA .i64 x8.1 r14.1),(sA .i64 x8.2.1 1),r14.2,r13.1))
 (k7 (x8.2.2.1,x8.2.2.2))) (r4.1,r5.1,r5.2,r3)
def Fy(a0:Af):=
 ob (Ay a0 16) λr1=>
 ob (Ar r1.2 2) λr2=>
 ob (Ko r2.2) λr3=>
 ob (Ft r1.1 (iA .i64 1 r2.1) r3.1) λr4=>
 ob (Ay r3.2 16) λr5=>
 ob (As r5.2 [0,5,90]) λr6=>
 ob (Ar r6.2 5) λr7=>
 let r8:Ai:=AB (iA .i64 1 r7.1)
 ob (Fp r5.1 r6.1 r8 r4.1) λr9=>
 ob (Bb r7.2 2) λr10=>
 aA (λ(y11:Af×Ah)=>
 ob (Bb y11.1 2) λr14=>
 aA (λ(y15:Af×Ah)=>
 some (y15.2,y15.1)) λk16=>
 cond (r14.1)
 (ob (Ks r14.2) λr17=>
 k16 (r17.2,(⟨y11.2.Id,y11.2.Cn,y11.2.Sn,y11.2.C,r17.1,y11.2.Tick,y11.2.Last,y11.2.Dead⟩:Ah)))
 (k16 (r14.2,y11.2))) λk12=>
 cond (r10.1)
 (ob (Hv r10.2 1) λr13=>
 k12 (r13.2,(⟨r9.Id,r9.Cn,r13.1.Sn,r13.1,r9.P,r9.Tick,r9.Last,r9.Dead⟩:Ah)))
 (k12 (r10.2,r9))
def Kt(a0:Af):=
 ob (Ar a0 6) λr1=>
 let r2:Ao:=YD (iA .i64 1 r1.1)
 ob (Ar r1.2 6) λr3=>
 aA (λ(y4:Af×Ao)=>
 some (y4.2,y4.1)) λk5=>
 tA FU (λ(x6:Int×Af×Ao) k7=>
 cond (decide (x6.1>0))
 (ob (Fy x6.2.1) λr8=>
 ob (Bi x6.2.2 r8.1) λr9=>
 aA (λ(y10:Bool×Af)=>
 aA (λ(y13:Af×Ao)=>
 k7 ((sA .i64 x6.1 1),y13.1,y13.2)) λk14=>
 cond (y10.1)
 (ob (Ar y10.2 (r9.1.L.length:Int)) λr15=>
 cond (decide (0≤r15.1)&&decide (r15.1<(r9.1.L.length:Int))) (ob (r9.1.L[r15.1.toNat]?) λe16=>
 ob (Ce e16) λr17=>
 cond (decide (0≤r15.1)&&decide (r15.1<(r9.1.L.length:Int))) (ob (r9.1.L[r15.1.toNat]?) λe18=>
 k14 (r15.2,(⟨r9.1.Cap,List.set r9.1.L r15.1.toNat r17⟩:Ao))) none) none)
 (k14 (y10.2,r9.1))) λk11=>
 cond (decide ((r9.1.L.length:Int)>0))
 (ob (Bb r8.2 3) λr12=>
 k11 (r12.1,r12.2))
 (k11 (false,r8.2)))
 (k5 (x6.2.1,x6.2.2))) (r3.1,r3.2,r2)
def Ku(a0:Af)(a1:Int):=
 ob (Ar a0 (iA .i64 a1 1)) λr1=>
 aA (λ(y2:(List Al)×Af)=>
 some (y2.1,y2.2)) λk3=>
 tA FU (λ(x4:(List Al)×Int×Af) k5=>
 cond (decide (x4.2.1>0))
 (ob (Ar x4.2.2 10) λr6=>
 let r7:Ai:=AB r6.1
 ob (As r6.2 [0,1,34,60,999999,1000000]) λr8=>
 ob (Fj x4.1 r7 r8.1) λr9=>
 ob (As r8.2 [0,3,45,102,1000]) λr10=>
 ob (Dp r9 r7 r10.1) λr11=>
 k5 (r11.1,(sA .i64 x4.2.1 1),r10.2))
 (k3 (x4.1,x4.2.2))) ([],r1.1,r1.2)
def Js(a0:Af):=
 ob (Jr a0) λr1=>
 ob (Ay r1.2 8) λr2=>
 ob (Ar r2.2 4) λr3=>
 ob (NR r1.1 r2.1 (iA .i64 1 r3.1)) λr4=>
 ob (Kt r3.2) λr5=>
 aA (λ(y6:Ac)=>
 ob (Ku r5.2 6) λr15=>
 ob (Ar r15.2 30) λr16=>
 some ((⟨y6.Psks,y6.J,(⟨y6.D.Seed,iA .i64 1 r16.1⟩:Au),y6.T,r15.1⟩:Ac),r16.2)) λk7=>
 tA FU (λ(x8:Int×Ac) k9=>
 cond (decide (x8.1<(r5.1.L.length:Int)))
 (cond (decide (0≤x8.1)&&decide (x8.1<(r5.1.L.length:Int))) (ob (r5.1.L[x8.1.toNat]?) λe10=>
 aA (λ(y11:Ac)=>
 k9 ((iA .i64 x8.1 1),y11)) λk12=>
 cond (decide (e10.Id≤(x8.2.Psks.length:Int)))
 (cond (decide (0≤x8.1)&&decide (x8.1<(r5.1.L.length:Int))) (ob (r5.1.L[x8.1.toNat]?) λe13=>
 ob (Bi x8.2.T e13) λr14=>
 k12 (⟨x8.2.Psks,x8.2.J,x8.2.D,r14.1,x8.2.Cr⟩:Ac)) none)
 (k12 x8.2)) none)
 (k7 x8.2)) (0,r4)
def Jt(a0:Af)(a1:List (List UInt8))(a2:List (List UInt8)):=
 ob (Bb a0 2) λr1=>
 cond (r1.1)
 (some (a1,r1.2))
 (some (a2,r1.2))
def Ju(a0:Af):=
 ob (Ay a0 12) λr1=>
 let r2:Ba:=lF r1.1
 ob (Bb r1.2 10) λr3=>
 aA (λ(y4:Af×Ba)=>
 some (y4.2,y4.1)) λk5=>
 cond (r3.1)
 (ob (As r3.2 [0,31,32]) λr6=>
 ob (Ay r6.2 r6.1) λr7=>
 k5 (r7.2,(⟨r7.1⟩:Ba)))
 (k5 (r3.2,r2))
def Jv(a0:Af):=
 ob (Ks a0) λr1=>
 aA (λ(y2:Bool×Af)=>
 cond (y2.1)
 (some (r1.1,y2.2))
 (ob (Ar y2.2 (r1.1.Cands.length:Int)) λr5=>
 ob (Ar r5.2 6) λr6=>
 aA (λ(y7:Af×Aj)=>
 some (y7.2,y7.1)) λk8=>
 cond (r6.1==0)
 (ob (Db r6.2) λr9=>
 k8 (r9.2,(⟨r9.1,r1.1.Cands⟩:Aj)))
 (aA (λ(y10:Af×Aj)=>
 k8 (y10.1,y10.2)) λk11=>
 cond (r6.1==1)
 (ob (Db r6.2) λr12=>
 cond (decide (0≤r5.1)&&decide (r5.1<(r1.1.Cands.length:Int))) (ob (r1.1.Cands[r5.1.toNat]?) λe13=>
 let l14:List Az:=List.set r1.1.Cands r5.1.toNat (⟨r12.1,e13.Draw,e13.Until⟩:Az)
 k11 (r12.2,(⟨r1.1.At,l14⟩:Aj))) none)
 (aA (λ(y15:Af×Aj)=>
 k11 (y15.1,y15.2)) λk16=>
 cond (r6.1==2)
 (ob (Ay r6.2 11) λr17=>
 cond (decide (0≤r5.1)&&decide (r5.1<(r1.1.Cands.length:Int))) (ob (r1.1.Cands[r5.1.toNat]?) λe18=>
 let l19:List Az:=List.set r1.1.Cands r5.1.toNat (⟨e18.A,r17.1,e18.Until⟩:Az)
 k16 (r17.2,(⟨r1.1.At,l19⟩:Aj))) none)
 (aA (λ(y20:Af×Aj)=>
 k16 (y20.1,y20.2)) λk21=>
 cond (r6.1==3)
 (ob (As r6.2 [(-1),1000006,1000007]) λr22=>
 cond (decide (0≤r5.1)&&decide (r5.1<(r1.1.Cands.length:Int))) (ob (r1.1.Cands[r5.1.toNat]?) λe23=>
 let l24:List Az:=List.set r1.1.Cands r5.1.toNat (⟨e23.A,e23.Draw,r22.1⟩:Az)
 k21 (r22.2,(⟨r1.1.At,l24⟩:Aj))) none)
 (aA (λ(y25:Aj)=>
 k21 (r6.2,y25)) λk26=>
 cond (r6.1==4)
 (cond (decide (0≤r5.1)&&decide (r5.1<(r1.1.Cands.length:Int))) (ob (r1.1.Cands[r5.1.toNat]?) λe27=>
 k26 (⟨e27.A,r1.1.Cands⟩:Aj)) none)
 (k26 r1.1))))))) λk3=>
 cond ((r1.1.Cands.length:Int)==0)
 (k3 (true,r1.2))
 (ob (Bb r1.2 2) λr4=>
 k3 (r4.1,r4.2))
def Jw(a0:Af):=
 ob (Fy a0) λr1=>
 ob (Ar r1.2 22) λr2=>
 aA (λ(y3:Af×Ah×Ah)=>
 some (y3.2.1,y3.1)) λk4=>
 cond (r2.1==0)
 (ob (As r2.2 [0,10]) λr5=>
 k4 (r5.2,(⟨r5.1,r1.1.Cn,r1.1.Sn,r1.1.C,r1.1.P,r1.1.Tick,r1.1.Last,r1.1.Dead⟩:Ah),(⟨0,[],[],(⟨0,[],(⟨0,[],0,(⟨0,[]⟩:Aq)⟩:Ax),(⟨0,[],0,(⟨0,[]⟩:Aq)⟩:Ax),false,0,[]⟩:Ak),(⟨(⟨0,0⟩:Ai),[]⟩:Aj),0,0,false⟩:Ah)))
 (aA (λ(y6:Af×Ah×Ah)=>
 k4 (y6.1,y6.2.1,y6.2.2)) λk7=>
 cond (r2.1==1)
 (ob (Ay r2.2 11) λr8=>
 k7 (r8.2,(⟨r1.1.Id,r8.1,r1.1.Sn,r1.1.C,r1.1.P,r1.1.Tick,r1.1.Last,r1.1.Dead⟩:Ah),(⟨0,[],[],(⟨0,[],(⟨0,[],0,(⟨0,[]⟩:Aq)⟩:Ax),(⟨0,[],0,(⟨0,[]⟩:Aq)⟩:Ax),false,0,[]⟩:Ak),(⟨(⟨0,0⟩:Ai),[]⟩:Aj),0,0,false⟩:Ah)))
 (aA (λ(y9:Af×Ah×Ah)=>
 k7 (y9.1,y9.2.1,y9.2.2)) λk10=>
 cond (r2.1==2)
 (ob (As r2.2 [11,12]) λr11=>
 ob (Ay r11.2 r11.1) λr12=>
 k10 (r12.2,(⟨r1.1.Id,r1.1.Cn,r12.1,r1.1.C,r1.1.P,r1.1.Tick,r1.1.Last,r1.1.Dead⟩:Ah),(⟨0,[],[],(⟨0,[],(⟨0,[],0,(⟨0,[]⟩:Aq)⟩:Ax),(⟨0,[],0,(⟨0,[]⟩:Aq)⟩:Ax),false,0,[]⟩:Ak),(⟨(⟨0,0⟩:Ai),[]⟩:Aj),0,0,false⟩:Ah)))
 (aA (λ(y13:Af×Ah×Ah)=>
 k10 (y13.1,y13.2.1,y13.2.2)) λk14=>
 cond (r2.1==3)
 (ob (Kn r2.2) λr15=>
 k14 (r15.2,(⟨r1.1.Id,r1.1.Cn,r1.1.Sn,r15.1,r1.1.P,r1.1.Tick,r1.1.Last,r1.1.Dead⟩:Ah),(⟨0,[],[],(⟨0,[],(⟨0,[],0,(⟨0,[]⟩:Aq)⟩:Ax),(⟨0,[],0,(⟨0,[]⟩:Aq)⟩:Ax),false,0,[]⟩:Ak),(⟨(⟨0,0⟩:Ai),[]⟩:Aj),0,0,false⟩:Ah)))
 (aA (λ(y16:Af×Ah×Ah)=>
 k14 (y16.1,y16.2.1,y16.2.2)) λk17=>
 cond (r2.1==4)
 (ob (Jv r2.2) λr18=>
 k17 (r18.2,(⟨r1.1.Id,r1.1.Cn,r1.1.Sn,r1.1.C,r18.1,r1.1.Tick,r1.1.Last,r1.1.Dead⟩:Ah),(⟨0,[],[],(⟨0,[],(⟨0,[],0,(⟨0,[]⟩:Aq)⟩:Ax),(⟨0,[],0,(⟨0,[]⟩:Aq)⟩:Ax),false,0,[]⟩:Ak),(⟨(⟨0,0⟩:Ai),[]⟩:Aj),0,0,false⟩:Ah)))
 (aA (λ(y19:Af×Ah×Ah)=>
 k17 (y19.1,y19.2.1,y19.2.2)) λk20=>
 cond (r2.1==5)
 (ob (As r2.2 [(-1),1000001]) λr21=>
 k20 (r21.2,(⟨r1.1.Id,r1.1.Cn,r1.1.Sn,r1.1.C,r1.1.P,r21.1,r1.1.Last,r1.1.Dead⟩:Ah),(⟨0,[],[],(⟨0,[],(⟨0,[],0,(⟨0,[]⟩:Aq)⟩:Ax),(⟨0,[],0,(⟨0,[]⟩:Aq)⟩:Ax),false,0,[]⟩:Ak),(⟨(⟨0,0⟩:Ai),[]⟩:Aj),0,0,false⟩:Ah)))
 (aA (λ(y22:Af×Ah×Ah)=>
 k20 (y22.1,y22.2.1,y22.2.2)) λk23=>
 cond (r2.1==6)
 (ob (As r2.2 [(-1),1000001]) λr24=>
 k23 (r24.2,(⟨r1.1.Id,r1.1.Cn,r1.1.Sn,r1.1.C,r1.1.P,r1.1.Tick,r24.1,r1.1.Dead⟩:Ah),(⟨0,[],[],(⟨0,[],(⟨0,[],0,(⟨0,[]⟩:Aq)⟩:Ax),(⟨0,[],0,(⟨0,[]⟩:Aq)⟩:Ax),false,0,[]⟩:Ak),(⟨(⟨0,0⟩:Ai),[]⟩:Aj),0,0,false⟩:Ah)))
 (aA (λ(y25:Ah×Ah)=>
 k23 (r2.2,y25.1,y25.2)) λk26=>
 cond (r2.1==7)
 (k26 ((⟨r1.1.Id,r1.1.Cn,r1.1.Sn,r1.1.C,r1.1.P,r1.1.Tick,r1.1.Last,true⟩:Ah),(⟨0,[],[],(⟨0,[],(⟨0,[],0,(⟨0,[]⟩:Aq)⟩:Ax),(⟨0,[],0,(⟨0,[]⟩:Aq)⟩:Ax),false,0,[]⟩:Ak),(⟨(⟨0,0⟩:Ai),[]⟩:Aj),0,0,false⟩:Ah)))
 (aA (λy27=>
 cond (y27)
 (ob (Ce r1.1) λr29=>
 some (r29,r2.2))
 (k26 (r1.1,(⟨0,[],[],(⟨0,[],(⟨0,[],0,(⟨0,[]⟩:Aq)⟩:Ax),(⟨0,[],0,(⟨0,[]⟩:Aq)⟩:Ax),false,0,[]⟩:Ak),(⟨(⟨0,0⟩:Ai),[]⟩:Aj),0,0,false⟩:Ah)))) λk28=>
 cond (r2.1==8)
 (k28 (r2.1==8))
 (k28 (r2.1==9))))))))))
def Jx(a0:Af):=
 ob (Kt a0) λr1=>
 ob (Ar r1.2 12) λr2=>
 aA (λ(y3:Af×Ao)=>
 some (y3.2,y3.1)) λk4=>
 cond (r2.1==0)
 (ob (As r2.2 [0,1,7]) λr5=>
 k4 (r5.2,(⟨r5.1,r1.1.L⟩:Ao)))
 (aA (λ(y6:Af×Ao)=>
 k4 (y6.1,y6.2)) λk7=>
 cond (r2.1==1)
 (ob (Jw r2.2) λr8=>
 cond (decide (r1.1.L.length+[r8.1].length≤bA)) (k7 (r8.2,(⟨r1.1.Cap,r1.1.L++[r8.1]⟩:Ao))) none)
 (aA (λ(y9:Ao×Af)=>
 k7 (y9.2,y9.1)) λk10=>
 cond (r2.1==2)
 (aA (λ(y11:Ao)=>
 k10 (y11,r2.2)) λk12=>
 cond (decide ((r1.1.L.length:Int)>1))
 (cond (decide (0≤(0:Int))&&decide ((0:Int)<(r1.1.L.length:Int))) (ob (r1.1.L[0]?) λe13=>
 cond (decide (0≤(1:Int))&&decide ((1:Int)<(r1.1.L.length:Int))) (ob (r1.1.L[1]?) λe14=>
 let l15:List Ah:=List.set r1.1.L 1 (⟨e14.Id,e14.Cn,e13.Sn,e14.C,e14.P,e14.Tick,e14.Last,e14.Dead⟩:Ah)
 k12 (⟨r1.1.Cap,l15⟩:Ao)) none) none)
 (k12 r1.1))
 (aA (λ(y16:Af×Ao)=>
 k10 (y16.2,y16.1)) λk17=>
 cond (r2.1==3)
 (ob (Fy r2.2) λr18=>
 ob (Ce r18.1) λr19=>
 ob (As r18.2 [9,12,13]) λr20=>
 aA (λ(y21:Af×Ah×Ao)=>
 k17 (y21.1,y21.2.2)) λk22=>
 tA FU (λ(x23:Int×Af×Ah×Ao) k24=>
 cond (decide (x23.1>(x23.2.2.2.L.length:Int)))
 (ob (Ay x23.2.1 12) λr25=>
 let x26:List Ah:=[(⟨x23.2.2.1.Id,x23.2.2.1.Cn,r25.1,x23.2.2.1.C,x23.2.2.1.P,x23.2.2.1.Tick,x23.2.2.1.Last,x23.2.2.1.Dead⟩:Ah)]
 cond (decide (x23.2.2.2.L.length+x26.length≤bA)) (k24 ((sA .i64 x23.1 1),r25.2,(⟨x23.2.2.1.Id,x23.2.2.1.Cn,r25.1,x23.2.2.1.C,x23.2.2.1.P,x23.2.2.1.Tick,x23.2.2.1.Last,x23.2.2.1.Dead⟩:Ah),(⟨x23.2.2.2.Cap,x23.2.2.2.L++x26⟩:Ao))) none)
 (k22 (x23.2.1,x23.2.2.1,x23.2.2.2))) (r20.1,r20.2,r19,r1.1))
 (k17 (r2.2,r1.1)))))
def Jy(a0:Af):=
 ob (Ku a0 14) λr1=>
 cond ((r1.1.length:Int)==0)
 (some (r1.1,r1.2))
 (ob (Ar r1.2 (r1.1.length:Int)) λr2=>
 ob (Ar r2.2 10) λr3=>
 aA (λ(y4:(List Al)×Af)=>
 some (y4.1,y4.2)) λk5=>
 cond (r3.1==0)
 (ob (Db r3.2) λr6=>
 cond (decide (0≤r2.1)&&decide (r2.1<(r1.1.length:Int))) (ob (r1.1[r2.1.toNat]?) λe7=>
 let l8:List Al:=List.set r1.1 r2.1.toNat (⟨r6.1,e7.Got,e7.Sent⟩:Al)
 k5 (l8,r6.2)) none)
 (aA (λ(y9:(List Al)×Af)=>
 k5 (y9.1,y9.2)) λk10=>
 cond (r3.1==1)
 (ob (As r3.2 [(-1),0,1000001]) λr11=>
 cond (decide (0≤r2.1)&&decide (r2.1<(r1.1.length:Int))) (ob (r1.1[r2.1.toNat]?) λe12=>
 let l13:List Al:=List.set r1.1 r2.1.toNat (⟨e12.A,r11.1,e12.Sent⟩:Al)
 k10 (l13,r11.2)) none)
 (aA (λ(y14:(List Al)×Af)=>
 k10 (y14.1,y14.2)) λk15=>
 cond (r3.1==2)
 (cond (decide (0≤r2.1)&&decide (r2.1<(r1.1.length:Int))) (ob (r1.1[r2.1.toNat]?) λe16=>
 ob (As r3.2 [(-1),0,iA .i64 (OB .i64 3 e16.Got) 1]) λr17=>
 cond (decide (0≤r2.1)&&decide (r2.1<(r1.1.length:Int))) (ob (r1.1[r2.1.toNat]?) λe18=>
 let l19:List Al:=List.set r1.1 r2.1.toNat (⟨e18.A,e18.Got,r17.1⟩:Al)
 k15 (l19,r17.2)) none) none)
 (aA (λ(y20:(List Al))=>
 k15 (y20,r3.2)) λk21=>
 cond (r3.1==3)
 (cond (decide (0≤r2.1)&&decide (r2.1<(r1.1.length:Int))) (ob (r1.1[r2.1.toNat]?) λe22=>
 cond (decide (r1.1.length+[e22].length≤bA)) (k21 (r1.1++[e22])) none) none)
 (k21 r1.1)))))
def Jz(a0:Af):=
 ob (Js a0) λr1=>
 ob (Ar r1.2 16) λr2=>
 aA (λ(y3:Af×Ac)=>
 some (y3.2,y3.1)) λk4=>
 cond (r2.1==0)
 (ob (Jt r2.2 [[],[UInt8.ofNat (1:Int).toNat]] r1.1.Psks) λr5=>
 k4 (r5.2,(⟨r5.1,r1.1.J,r1.1.D,r1.1.T,r1.1.Cr⟩:Ac)))
 (aA (λ(y6:Af×Ac)=>
 k4 (y6.1,y6.2)) λk7=>
 cond (r2.1==1)
 (ob (Ju r2.2) λr8=>
 k7 (r8.2,(⟨r1.1.Psks,r8.1,r1.1.D,r1.1.T,r1.1.Cr⟩:Ac)))
 (aA (λ(y9:Af×Ac)=>
 k7 (y9.1,y9.2)) λk10=>
 cond (r2.1==2)
 (ob (As r2.2 [(-1),9999,10000,10001]) λr11=>
 k10 (r11.2,(⟨r1.1.Psks,r1.1.J,(⟨r1.1.D.Seed,r11.1⟩:Au),r1.1.T,r1.1.Cr⟩:Ac)))
 (aA (λ(y12:Af×Ac)=>
 k10 (y12.1,y12.2)) λk13=>
 cond (r2.1==3)
 (ob (Jx r2.2) λr14=>
 k13 (r14.2,(⟨r1.1.Psks,r1.1.J,r1.1.D,r14.1,r1.1.Cr⟩:Ac)))
 (aA (λ(y15:Af×Ac)=>
 k13 (y15.1,y15.2)) λk16=>
 cond (r2.1==4)
 (ob (Jy r2.2) λr17=>
 k16 (r17.2,(⟨r1.1.Psks,r1.1.J,r1.1.D,r1.1.T,r17.1⟩:Ac)))
 (aA (λ(y18:Ac×Af)=>
 k16 (y18.2,y18.1)) λk19=>
 cond (r2.1==5)
 (cond (decide (r1.1.Psks.length+([[]]:List (List UInt8)).length≤bA)) (k19 ((⟨r1.1.Psks++[[]],r1.1.J,r1.1.D,r1.1.T,r1.1.Cr⟩:Ac),r2.2)) none)
 (aA (λ(y20:Af×Ac)=>
 k19 (y20.2,y20.1)) λk21=>
 cond (r2.1==6)
 (ob (Fy r2.2) λr22=>
 ob (Ce r22.1) λr23=>
 cond (decide (r1.1.T.L.length+[r23].length≤bA)) (k21 (r22.2,(⟨r1.1.Psks,r1.1.J,r1.1.D,(⟨r1.1.T.Cap,r1.1.T.L++[r23]⟩:Ao),r1.1.Cr⟩:Ac))) none)
 (k21 (r2.2,r1.1))))))))
def Ka(a0:Af):=
 ob (Ar a0 32) λr1=>
 ob (Ay r1.2 (iA .i64 1 r1.1)) λr2=>
 ob (Ar r2.2 40) λr3=>
 some ((⟨r2.1,r3.1⟩:Au),r3.2)
def Kb(a0:Af):=
 ob (Ka a0) λr1=>
 ob (Ar r1.2 5) λr2=>
 aA (λ(y3:Af×Au)=>
 some (y3.2,y3.1)) λk4=>
 cond (r2.1==0)
 (ob (As r2.2 [(-1),9999,10000,10001]) λr5=>
 k4 (r5.2,(⟨r1.1.Seed,r5.1⟩:Au)))
 (aA (λ(y6:Af×Au)=>
 k4 (y6.1,y6.2)) λk7=>
 cond (r2.1==1)
 (ob (As r2.2 [0,33,1]) λr8=>
 ob (Ay r8.2 r8.1) λr9=>
 k7 (r9.2,(⟨r9.1,r1.1.N⟩:Au)))
 (k7 (r2.2,r1.1)))
def Kc(a0:Af):=
 ob (Bb a0 3) λr1=>
 cond (r1.1)
 (ob (Ar r1.2 3) λr2=>
 let r3:Ai:=AB r2.1
 ob (Ar r2.2 3) λr4=>
 let r5:Ai:=AB r4.1
 ob (As r4.2 [0,5,45,200]) λr6=>
 ob (Ay r6.2 r6.1) λr7=>
 some ((⟨r3,r5,r7.1⟩:Ap),r7.2))
 (ob (Ar r1.2 3) λr8=>
 let r9:Ai:=AB r8.1
 ob (Ar r8.2 3) λr10=>
 let r11:Ai:=AB r10.1
 ob (Kq r10.2) λr12=>
 ob (Ec r9 r11 r12.1) λr13=>
 some (r13,r12.2))
def Kd(a0:Af):=
 ob (Kc a0) λr1=>
 ob (Ar r1.2 8) λr2=>
 aA (λ(y3:Af×Ap)=>
 some (y3.2,y3.1)) λk4=>
 cond (r2.1==0)
 (ob (Db r2.2) λr5=>
 k4 (r5.2,(⟨r5.1,r1.1.To,r1.1.B⟩:Ap)))
 (aA (λ(y6:Af×Ap)=>
 k4 (y6.1,y6.2)) λk7=>
 cond (r2.1==1)
 (ob (Db r2.2) λr8=>
 k7 (r8.2,(⟨r1.1.From,r8.1,r1.1.B⟩:Ap)))
 (aA (λ(y9:Af×Ap)=>
 k7 (y9.1,y9.2)) λk10=>
 cond (r2.1==2)
 (ob (Ay r2.2 201) λr11=>
 k10 (r11.2,(⟨r1.1.From,r1.1.To,r11.1⟩:Ap)))
 (k10 (r2.2,r1.1))))
def Ke(a0:Af)(a1:Int):=
 ob (Jd a0 a1) λr1=>
 ob (Ar r1.2 30) λr2=>
 aA (λ(y3:Af×Aa)=>
 some (y3.2,y3.1)) λk4=>
 cond (r2.1==0)
 (ob (As r2.2 [(-1),1000000,1000001,999999]) λr5=>
 k4 (r5.2,(⟨r5.1,r1.1.Clients,r1.1.S,r1.1.D,r1.1.Seen,r1.1.Known,r1.1.Notes⟩:Aa)))
 (aA (λ(y6:Af×Aa)=>
 k4 (y6.1,y6.2)) λk7=>
 cond (r2.1==1)
 (ob (Ar r2.2 2) λr8=>
 ob (Jq r8.2) λr9=>
 cond (decide (0≤r8.1)&&decide (r8.1<(r1.1.Clients.length:Int))) (ob (r1.1.Clients[r8.1.toNat]?) λe10=>
 k7 (r9.2,(⟨r1.1.Now,List.set r1.1.Clients r8.1.toNat r9.1,r1.1.S,r1.1.D,r1.1.Seen,r1.1.Known,r1.1.Notes⟩:Aa))) none)
 (aA (λ(y11:Af×Aa)=>
 k7 (y11.1,y11.2)) λk12=>
 cond (r2.1==2)
 (ob (Ar r2.2 2) λr13=>
 cond (decide (0≤(0:Int))&&decide ((0:Int)≤r13.1)&&decide (r13.1≤(r1.1.Clients.length:Int))) (k12 (r13.2,(⟨r1.1.Now,List.take ((r13.1 - 0).toNat) r1.1.Clients,r1.1.S,r1.1.D,r1.1.Seen,r1.1.Known,r1.1.Notes⟩:Aa))) none)
 (aA (λ(y14:Af×Aa)=>
 k12 (y14.1,y14.2)) λk15=>
 cond (r2.1==3)
 (ob (Jz r2.2) λr16=>
 k15 (r16.2,(⟨r1.1.Now,r1.1.Clients,r16.1,r1.1.D,r1.1.Seen,r1.1.Known,r1.1.Notes⟩:Aa)))
 (aA (λ(y17:Af×Aa)=>
 k15 (y17.1,y17.2)) λk18=>
 cond (r2.1==4)
 (ob (Kb r2.2) λr19=>
 k18 (r19.2,(⟨r1.1.Now,r1.1.Clients,r1.1.S,r19.1,r1.1.Seen,r1.1.Known,r1.1.Notes⟩:Aa)))
 (aA (λ(y20:Af×Aa)=>
 k18 (y20.1,y20.2)) λk21=>
 cond (r2.1==5)
 (ob (Kd r2.2) λr22=>
 cond (decide (r1.1.Seen.length+[r22.1].length≤bA)) (k21 (r22.2,(⟨r1.1.Now,r1.1.Clients,r1.1.S,r1.1.D,r1.1.Seen++[r22.1],r1.1.Known,r1.1.Notes⟩:Aa))) none)
 (aA (λ(y23:Af×Aa)=>
 k21 (y23.1,y23.2)) λk24=>
 cond (r2.1==6)
 (ob (As r2.2 [31,32]) λr25=>
 ob (Ay r25.2 r25.1) λr26=>
 cond (decide (r1.1.Known.length+[r26.1].length≤bA)) (k24 (r26.2,(⟨r1.1.Now,r1.1.Clients,r1.1.S,r1.1.D,r1.1.Seen,r1.1.Known++[r26.1],r1.1.Notes⟩:Aa))) none)
 (aA (λ(y27:Af×Aa)=>
 k24 (y27.1,y27.2)) λk28=>
 cond (r2.1==7)
 (ob (Jh r2.2) λr29=>
 cond (decide (r1.1.Notes.length+[r29.1].length≤bA)) (k28 (r29.2,(⟨r1.1.Now,r1.1.Clients,r1.1.S,r1.1.D,r1.1.Seen,r1.1.Known,r1.1.Notes++[r29.1]⟩:Aa))) none)
 (aA (λ(y30:Aa)=>
 k28 (r2.2,y30)) λk31=>
 cond (r2.1==8)
 (cond (decide (0≤(0:Int))&&decide ((0:Int)<(r1.1.Clients.length:Int))) (ob (r1.1.Clients[0]?) λe32=>
 let l33:List Ae:=List.set r1.1.Clients 0 (⟨2,e32.Psk,e32.At,e32.St,e32.Cn,e32.Fin,e32.C,e32.T,e32.R,e32.Last⟩:Ae)
 k31 (⟨r1.1.Now,l33,r1.1.S,r1.1.D,r1.1.Seen,r1.1.Known,r1.1.Notes⟩:Aa)) none)
 (aA (λ(y34:Aa)=>
 k31 y34) λk35=>
 cond (r2.1==9)
 (cond (decide (0≤(0:Int))&&decide ((0:Int)<(r1.1.Clients.length:Int))) (ob (r1.1.Clients[0]?) λe36=>
 let l37:List Ae:=List.set r1.1.Clients 0 (⟨e36.Id,[UInt8.ofNat (1:Int).toNat],e36.At,e36.St,e36.Cn,e36.Fin,e36.C,e36.T,e36.R,e36.Last⟩:Ae)
 k35 (⟨r1.1.Now,l37,r1.1.S,r1.1.D,r1.1.Seen,r1.1.Known,r1.1.Notes⟩:Aa)) none)
 (k35 r1.1))))))))))
end
end Go.D
namespace Go.D
end Go.D
namespace Go.D
def zwW(i:Int):0≤(AB i).Host∧(AB i).Host≤4294967295∧0≤(AB i).Port∧(AB i).Port≤65535:=by
 unfold AB;split
 ·simp only;omega
 ·simp only;omega
def zrT{p:List (List UInt8)}{s:List UInt8}{m:Int}(h:wt p+wt s+1000≤bA):Ok (NR p s m) λr=>wt r≤wt p+wt s+32:=nF h (by
 unfold gO;cases KB (MC p s m)
 ·rw[cond_false];exact Nat.zero_le _
 ·rw[cond_true];exact zbV p s m)
def zxt{c:Af}{l:List Int}(h:mA c)(hl:l≠[]):Ok (As c l) λr=>mA r.2:=(zgP h hl).mono λr hr=>hr.2
end Go.D
namespace Go.D
def zik{a0}(ha:mA a0):Ok (Ko a0) λr=>wt r.1≤60∧mA r.2:=by
 unfold Ko;refine .b (QB ?_ ?_) λr1 NV=> .b (QB ?_ ?_) λr2 eW=> .b (SA ?_) λr3 uW=> .b (QB ?_ ?_) λr4 UV=> .s ?_
 all_goals (try simp only[NB]at *)<;>omega
def ziQ{a0 a1}(ha:mA a0):Ok (Kp a0 a1) λr=>mA r.2:=by
 unfold Kp
 refine .b nN λr1 _=> .b (SA ?_) λr2 eW=> .jt (λy3=> .s ?_)
  λk4 QV=> .l (λx5:Int×Aw=>0≤x5.1∧x5.1≤6) (λx5:Int×Aw=>x5.1.toNat) (λx5 hx5 k6 CW=> .c (λh1=> .b NT λr7 _=>CW _ ?_ ?_)
  λ_=>QV _) ?_ ?_
 all_goals (try simp only[NB]at *)<;>(try simp(disch:=omega) only[DA,LA]at *)<;>omega
set_option maxHeartbeats 4000000 in
theorem zqa{a0}(ha:mA a0):Ok (Jo a0) λr=>wt r.1≤20000∧mA r.2:=by
 (try simp only[N]at ha);have hL:=DB
 unfold Jo;refine Ok.bind (SA ?_) (λr1 NV=>?_)
 ·(try simp only[N]);omega
 (try simp only[N]at NV);refine Ok.bind (SA ?_) (λr2 eW=>?_)
 ·(try simp only[N]);omega
 (try simp only[N]at eW);refine Ok.bind (QB ?_ ?_) (λr3 uW=>?_)
 iterate 2 (·(try have:=DA (a:=1) (b:=r2.1) (by omega) (by omega));(try simp only[N]);omega)
 (try simp only[N]at uW);have G5:=DA (a:=1) (b:=r2.1) (by omega) (by omega);(try simp only[N]at G5);refine Ok.bind (SA ?_) (λr4 UV=>?_)
 ·(try simp only[N]);omega
 (try simp only[N]at UV);have hnr:=zwW (iA .i64 1 r4.1);(try simp only[N]at hnr);refine Ok.bind (zjh ?_ ?_ ?_ ?_) (λr6 vW=>?_)
 iterate 4 (·(try have:=DA (a:=1) (b:=r4.1) (by omega) (by omega));(try have:=DA (a:=1) (b:=r1.1) (by omega) (by omega));(try simp only[N]);omega)
 (try simp only[N]at vW);refine Ok.bind (cB (0) (3) ?_ (by simp) (by decide)) (λr7 HW=>?_)
 ·(try simp only[N]);omega
 (try simp only[N]at HW);refine Ok.cond' (λh1=>?_) (λh1=>?_)
 ·(try simp only[B]at h1);refine Ok.some' ?_;(try simp only[N]);omega
 (try simp only[B]at h1);refine Ok.bind (cB (0) (90) ?_ (by simp) (by decide)) (λr8 sW=>?_)
 ·(try simp only[N]);omega
 (try simp only[N]at sW);refine Ok.bind (QB ?_ ?_) (λr9 QW=>?_)
 iterate 2 (·(try simp only[N]);omega)
 (try simp only[N]at QW);refine Ok.bind (zjF ?_ ?_) (λr10 rW=>?_)
 iterate 2 (·(try simp only[N]);omega)
 (try simp only[N]at rW);refine Ok.bind (SA ?_) (λr11 zW=>?_)
 ·(try simp only[N]);omega
 (try simp only[N]at zW);refine Ok.bind (NT) (λr12 yW=>?_);refine Ok.cond' (λh2=>?_) (λh2=>?_)
 ·(try simp only[B]at h2);refine Ok.some' ?_;(try simp only[N]);omega
 (try simp only[B]at h2);refine Ok.bind (zik ?_) (λr13 eX=>?_)
 ·(try simp only[N]);omega
 (try simp only[N]at eX);refine Ok.bind (zeT ?_ ?_) (λr14 lX=>?_)
 iterate 2 (·(try simp only[N]);omega)
 (try simp only[N]at lX);refine Ok.cond' (λh3=>?_) (λh3=>?_)
 ·(try simp only [B] at h3);refine Ok.bind (SA ?_) (fun r15 NW=>?_)
  ·(try simp only[N]);omega
  (try simp only[N]at NW);refine Ok.join (λy16:Ae=>wt y16≤10000) (λy16 sY=>?_) (λk17 iW=>?_)
  ·(try simp only[N]at sY);refine Ok.join (λy21:Ae=>wt y21≤10000) (λy21 Z0=>?_) (λk22 RW=>?_)
   ·(try simp only[N]at Z0);refine Ok.some' ?_;(try simp only[N]);omega
   refine Ok.condR (λh4=>?_) (λh4=>?_)
   ·(try simp only[B]at h4);refine RW _ ?_;(try simp only[N]);omega
   (try simp only[B]at h4);refine Ok.bind (nN) (λr23 cZ=>?_);refine RW _ ?_;(try simp only[N]);omega
  refine Ok.loopR (λx18:Int×Ae=>0≤x18.1∧x18.1≤5∧wt x18.2≤10000) (λx18=>x18.1.toNat) ?_ ?_ (λx18 H7 k19 FW=>?_)
  iterate 2 (·(try simp only[N]);omega)
  (try simp only[N]at H7);refine Ok.condR (λh5=>?_) (λh5=>?_)
  ·(try simp only[B]at h5);refine iW _ ?_;(try simp only[N]);omega
  (try simp only[B]at h5);refine Ok.bind (NT) (λr20 EY=>?_);refine FW _ ?_ ?_
  iterate 2 (·(try have:=LA (a:=x18.1) (b:=1) (by omega) (by omega));(try simp only[N]);omega)
 (try simp only[B]at h3);refine Ok.bind (zaR) (λr24 uX=>?_);(try simp only[N]at uX);refine Ok.bind (zfB ?_ ?_ ?_) (λr25 vX=>?_)
 iterate 3 (·(try simp only[N]);omega)
 obtain⟨vX,hr25i⟩:=vX;(try simp only[N]at vX);refine Ok.bind (zeT ?_ ?_) (λr26 JX=>?_)
 iterate 2 (·(try simp only[N]);omega)
 (try simp only[N]at JX);refine Ok.bind (KE ?_) (λr27 tY=>?_)
 ·(try simp only[N]);omega
 (try simp only[N]at tY);refine Ok.join (λy28:Af×Ae=>mA y28.1∧wt y28.2≤20000) (λy28 v5=>?_) (λk29 fY=>?_)
 ·(try simp only[N]at v5);refine Ok.some' ?_;(try simp only[N]);omega
 refine Ok.condR (λh6=>?_) (λh6=>?_)
 ·(try simp only[B]at h6);refine fY _ ?_;(try simp only[N]);omega
 (try simp only[B]at h6);refine Ok.bind (zfe ?_) (λr30 o0=>?_)
 ·(try simp only[N]);omega
 (try simp only[N]at o0);refine Ok.join (λy31:Af×Ae=>mA y31.1∧wt y31.2≤20000) (λy31 t5=>?_) (λk32 YY=>?_)
 ·(try simp only[N]at t5);refine fY _ ?_;(try simp only[N]);omega
 refine Ok.condR (λh7=>?_) (λh7=>?_)
 ·(try simp only[B]at h7);refine YY _ ?_;(try simp only[N]);omega
 (try simp only[B]at h7);refine Ok.bind (ziQ ?_) (λr33 B5=>?_)
 ·(try simp only[N]);omega
 (try simp only[N]at B5);refine Ok.join (λy34:Ae=>wt y34≤10000) (λy34 X2=>?_) (λk35 gY=>?_)
 ·(try simp only[N]at X2);refine YY _ ?_;(try simp only[N]);omega
 refine Ok.condR (λh8=>?_) (λh8=>?_)
 ·(try simp only[B]at h8);refine gY _ ?_;(try simp only[N]);omega
 (try simp only[B]at h8);refine Ok.bind (nN) (λr36 W2=>?_);refine gY _ ?_;(try simp only[N]);omega
def zi1{a0}(ha:mA a0):Ok (Kq a0) λr=>wt r.1≤200∧mA r.2:=by
 unfold Kq
 refine .b (SA ?_) λr1 NV=> .j (λy2:Af×Ab=>mA y2.1∧wt y2.2≤200) (λy2 xW=> .s ?_)
  λk3 JV=> .c (λh1=> .b (SA ?_) λr4 UV=> .b (QB ?_ ?_) λr5 RV=>JV _ ?_)
  λh1=> .jt (λy6=> .j (λy8:Af×Ab=>mA y8.1∧wt y8.2≤200) (λy8 d7=>JV _ ?_)
  λk9 jX=> .c (λh2=> .b (QB ?_ ?_) λr10 rW=> .b (QB ?_ ?_) λr11 zW=> .b (cB (0) (1000000) ?_ (by simp) (by decide)) λr12 yW=> .b (QB ?_ ?_) λr13 eX=> .j (λy14:Af×Ab=>mA y14.1∧wt y14.2≤200) (λy14 T2=>jX _ ?_)
  λk15 ZW=> .c (λh3=> .b (SA ?_) λr16 mX=> .b (QB ?_ ?_) λr17 YX=>ZW _ ?_)
  λh3=>ZW _ ?_)
  λh2=> .b (QB ?_ ?_) λr18 ZX=> .b (cB (0) (4294967295) ?_ (by simp) (by decide)) λr19 IX=> .b (cB (0) (281474976710655) ?_ (by simp) (by decide)) λr20 EY=> .b (QB ?_ ?_) λr21 m0=> .b (cB (0) (40) ?_ (by simp) (by decide)) λr22 fX=> .jt (λy23=> .j (λy25:Int=>0≤y25∧y25≤40) (λy25 Y2=> .j (λy27:Int=>0≤y27∧y27≤40) (λy27 n5=> .b (QB ?_ ?_) λr29 tZ=>jX _ ?_)
  λk28 cX=> .c (λh4=>cX _ ?_)
  λh4=>cX _ ?_)
  λk26 iY=> .c (λh5=>iY _ ?_)
  λh5=>iY _ ?_)
  λk24 oW=> .c (λ_=>oW _)
  λ_=>oW _)
  λk7 TV=> .c (λ_=>TV _)
  λ_=>TV _
 all_goals (try simp only[NB]at *)<;>(try simp(disch:=omega) only[DA,LA]at *)<;>omega
def zrl{a0}(ha:mA a0):Ok (Jp a0) λr=>wt r.1≤500∧mA r.2:=by
 unfold Jp
 refine .b (zi1 ?_) λr1 NV=> .b (SA ?_) λr2 eW=> .j (λy3:Af×Ab=>mA y3.1∧wt y3.2≤500) (λy3 LY=> .s ?_)
  λk4 QV=> .c (λh1=> .b (SA ?_) λr5 RV=>QV _ ?_)
  λh1=> .j (λy6:Af×Ab=>mA y6.1∧wt y6.2≤500) (λy6 xX=>QV _ ?_)
  λk7 TV=> .c (λh2=> .b (cB (-1) (10) ?_ (by simp) (by decide)) λr8 sW=>TV _ ?_)
  λh2=> .j (λy9:Af×Ab=>mA y9.1∧wt y9.2≤500) (λy9 yY=>TV _ ?_)
  λk10 OV=> .c (λh3=> .b (cB (0) (13) ?_ (by simp) (by decide)) λr11 zW=> .b (QB ?_ ?_) λr12 yW=>OV _ ?_)
  λh3=> .j (λy13:Af×Ab=>mA y13.1∧wt y13.2≤500) (λy13 EX=>OV _ ?_)
  λk14 SV=> .c (λh4=> .b (cB (0) (13) ?_ (by simp) (by decide)) λr15 NW=> .b (QB ?_ ?_) λr16 mX=>SV _ ?_)
  λh4=> .j (λy17:Af×Ab=>mA y17.1∧wt y17.2≤500) (λy17 vZ=>SV _ ?_)
  λk18 PW=> .c (λh5=> .b (cB (-1) (1000001) ?_ (by simp) (by decide)) λr19 IX=>PW _ ?_)
  λh5=> .j (λy20:Af×Ab=>mA y20.1∧wt y20.2≤500) (λy20 FY=>PW _ ?_)
  λk21 kW=> .c (λh6=> .b (cB (0) (16) ?_ (by simp) (by decide)) λr22 fX=> .b (QB ?_ ?_) λr23 cZ=>kW _ ?_)
  λh6=> .j (λy24:Af×Ab=>mA y24.1∧wt y24.2≤500) (λy24 hy24=>kW _ ?_)
  λk25 C8=> .c (λh7=> .b (cB (0) (16) ?_ (by simp) (by decide)) λr26 JX=> .b (QB ?_ ?_) λr27 tY=>C8 _ ?_)
  λh7=> .j (λy28:Af×Ab=>mA y28.1∧wt y28.2≤500) (λy28 v5=>C8 _ ?_)
  λk29 fY=> .c (λh8=> .b (cB (-1) (4294967296) ?_ (by simp) (by decide)) λr30 o0=>fY _ ?_)
  λh8=> .j (λy31:Af×Ab=>mA y31.1∧wt y31.2≤500) (λy31 t5=>fY _ ?_)
  λk32 YY=> .c (λh9=> .b (cB (-1) (281474976710656) ?_ (by simp) (by decide)) λr33 B5=>YY _ ?_)
  λh9=> .j (λy34:Af×Ab=>mA y34.1∧wt y34.2≤500) (λy34 X2=>YY _ ?_)
  λk35 gY=> .c (λtW=> .b (cB (0) (41) ?_ (by simp) (by decide)) λr36 W2=> .b (QB ?_ ?_) λr37 d5=>gY _ ?_)
  λtW=> .j (λy38:Af×Ab=>mA y38.1∧wt y38.2≤500) (λy38 z5=>gY _ ?_)
  λk39 aZ=> .c (λGW=> .b (cB (0) (17) ?_ (by simp) (by decide)) λr40 hr40=> .b (QB ?_ ?_) λr41 A1=>aZ _ ?_)
  λGW=>aZ _ ?_
 all_goals (try simp only[NB]at *)<;>(try simp(disch:=omega) only[DA,LA]at *)<;>omega
def ziZ{a0}(ha:mA a0):Ok (Kr a0) λr=>mA r.2:=by
 unfold Kr
 refine .b (cB (0) (1000000) ?_ (by simp) (by decide)) λr1 NV=> .b (ziQ ?_) λr2 eW=> .b (SA ?_) λr3 uW=> .j (λy4:Af×Aw=>mA y4.1) (λy4 MY=> .s ?_)
  λk5 dW=> .c (λh1=> .b (cB (-1) (1000009) ?_ (by simp) (by decide)) λr6 vW=>dW _ ?_)
  λh1=> .j (λy7:Af×Aw=>mA y7.1) (λy7 aY=>dW _ ?_)
  λk8 pW=> .c (λh2=> .b (cB (0) (16) ?_ (by simp) (by decide)) λr9 QW=>pW _ ?_)
  λh2=> .j (λy10:Af×Aw=>mA y10.1) (λy10 aX=>pW _ ?_)
  λk11 PV=> .c (λh3=> .b (cB (0) (6) ?_ (by simp) (by decide)) λr12 yW=>PV _ ?_)
  λh3=> .jt (λy13=>PV _ ?_)
  λk14 SV=> .c (λ_=>SV _)
  λ_=>SV _
 all_goals (try simp only[NB]at *)<;>omega
def zq3{a0}(ha:mA a0):Ok (Jq a0) λr=>wt r.1≤30000∧mA r.2:=by
 unfold Jq
 refine .b (zqa ?_) λr1 NV=> .b (SA ?_) λr2 eW=> .j (λy3:Af×Ae=>mA y3.1∧wt y3.2≤30000) (λy3 LY=> .s ?_)
  λk4 QV=> .c (λh1=> .b (cB (0) (10) ?_ (by simp) (by decide)) λr5 RV=>QV _ ?_)
  λh1=> .j (λy6:Af×Ae=>mA y6.1∧wt y6.2≤30000) (λy6 xX=>QV _ ?_)
  λk7 TV=> .c (λh2=> .b (cB (0) (33) ?_ (by simp) (by decide)) λr8 sW=> .b (QB ?_ ?_) λr9 QW=>TV _ ?_)
  λh2=> .j (λy10:Af×Ae=>mA y10.1∧wt y10.2≤30000) (λy10 aX=>TV _ ?_)
  λk11 PV=> .c (λh3=> .b (DN ?_) λr12 yW=>PV _ ?_)
  λh3=> .j (λy13:Af×Ae=>mA y13.1∧wt y13.2≤30000) (λy13 EX=>PV _ ?_)
  λk14 SV=> .c (λh4=> .b (SA ?_) λr15 NW=>SV _ ?_)
  λh4=> .j (λy16:Af×Ae=>mA y16.1∧wt y16.2≤30000) (λy16 sY=>SV _ ?_)
  λk17 iW=> .c (λh5=> .b (cB (0) (12) ?_ (by simp) (by decide)) λr18 ZX=> .b (QB ?_ ?_) λr19 IX=>iW _ ?_)
  λh5=> .j (λy20:Af×Ae=>mA y20.1∧wt y20.2≤30000) (λy20 FY=>iW _ ?_)
  λk21 kW=> .c (λh6=> .b (zrl ?_) λr22 fX=>kW _ ?_)
  λh6=> .j (λy23:Af×Ae=>mA y23.1∧wt y23.2≤30000) (λy23 sZ=>kW _ ?_)
  λk24 oW=> .c (λh7=> .b (ziW ?_) λr25 vX=>oW _ ?_)
  λh7=> .j (λy26:Af×Ae=>mA y26.1∧wt y26.2≤30000) (λy26 Y0=>oW _ ?_)
  λk27 bX=> .c (λh8=> .b (ziZ ?_) λr28 R2=>bX _ ?_)
  λh8=> .j (λy29:Af×Ae=>mA y29.1∧wt y29.2≤30000) (λy29 o7=>bX _ ?_)
  λk30 UY=> .c (λh9=> .b (ziZ ?_) λr31 m5=>UY _ ?_)
  λh9=> .j (λy32:Af×Ae=>mA y32.1∧wt y32.2≤30000) (λy32 Z4=>UY _ ?_)
  λk33 cY=> .c (λtW=> .b (cB (-1) (1000001) ?_ (by simp) (by decide)) λr34 b5=>cY _ ?_)
  λtW=> .j (λy35:Ae=>wt y35≤30000) (λy35 s7=>cY _ ?_)
  λk36 rY=> .c (λGW=>rY _ ?_)
  λGW=>rY _ ?_
 all_goals (try simp only[NB]at *)<;>(try simp(disch:=omega) only[DA,LA]at *)<;>omega
def zqi{a0}(ha:mA a0):Ok (Jr a0) λr=>wt r.1≤200∧mA r.2:=by
 unfold Jr
 refine .b (SA ?_) λr1 NV=> .j (λy2:(List (List UInt8))×Af=>wt y2.1≤200∧mA y2.2) (λy2 xW=> .s ?_)
  λk3 JV=> .l (λx4:(List (List UInt8))×Int×Af=>0≤x4.2.1∧x4.2.1≤3∧wt x4.1+33 *x4.2.1≤99∧mA x4.2.2) (λx4:(List (List UInt8))×Int×Af=>x4.2.1.toNat) (λx4 P5 k5 dW=>have hxw:=zB x4.1; .c (λh1=> .b (SA ?_) λr6 vW=> .b (QB ?_ ?_) λr7 HW=>have hi7:=DA (a:=1) (b:=r6.1) ?_ ?_; .g ?_ (dW _ ?_ ?_))
  λh1=>JV _ ?_) ?_ ?_
 all_goals (try simp only[NB]at *)<;>(try simp(disch:=omega) only[DA,LA]at *)<;>omega
def ziL{a0}(ha:mA a0):Ok (Ks a0) λr=>wt r.1≤8500∧mA r.2:=by
 unfold Ks
 refine .b (SA ?_) λr1 NV=> .b ziA λr3 uW=> .b (SA ?_) λr4 UV=> .b (SA ?_) λr5 RV=> .j (λy6:Af×Aj=>mA y6.1∧wt y6.2≤8500) (λy6 xX=> .s ?_)
  λk7 TV=> .l (λx8:Int×Int×Af×Aj=>0≤x8.2.1∧x8.2.1≤5∧mA x8.2.2.1∧wt x8.2.2.2+1700 *x8.2.1≤8500) (λx8:Int×Int×Af×Aj=>x8.2.1.toNat) (λx8 W4 k9 jX=> .c (λh1=> .b (SA ?_) λr10 rW=> .b (QB ?_ ?_) λr12 yW=> .b (zjg ?_ ?_) λr13 eX=> .b (SA ?_) λr14 lX=>jX _ ?_ ?_)
  λh1=>TV _ ?_) ?_ ?_
 all_goals (try simp only[NB]at *)<;>(try simp(disch:=omega) only[DA,LA]at *)<;>omega
def zaW{a0}(ha:mA a0):Ok (Fy a0) λr=>wt r.1≤12000∧mA r.2:=by
 unfold Fy
 refine .b (QB ?_ ?_) λr1 NV=> .b (SA ?_) λr2 eW=> .b (zik ?_) λr3 uW=> .b (ziw ?_) λr4 UV=> .b (QB ?_ ?_) λr5 RV=> .b (cB (0) (90) ?_ (by simp) (by decide)) λr6 vW=> .b (SA ?_) λr7 HW=> .b (ziT ?_) λr9 QW=> .b (KE ?_) λr10 rW=> .j (λy11:Af×Ah=>mA y11.1∧wt y11.2≤3000) (λy11 XY=> .b (KE ?_) λr14 lX=> .j (λy15:Af×Ah=>mA y15.1∧wt y15.2≤12000) (λy15 ZZ=> .s ?_)
  λk16 OW=> .c (λh1=> .b (ziL ?_) λr17 YX=>OW _ ?_)
  λh1=>OW _ ?_)
  λk12 jW=> .c (λh2=> .b (zfe ?_) λr13 eX=>jW _ ?_)
  λh2=>jW _ ?_
 all_goals (try simp only[NB]at *)<;>(try simp(disch:=omega) only[DA,LA]at *)<;>omega
def ziF{a0}(ha:mA a0):Ok (Kt a0) λr=>wt r.1≤80000∧r.1.L.length≤6∧mA r.2:=by
 unfold Kt
 refine .b (SA ?_) λr1 NV=>have ht:=zcA (iA .i64 1 r1.1);have L2:=zB (YD (iA .i64 1 r1.1)).L; .b (SA ?_) λr3 uW=> .j (λy4:Af×Ao=>mA y4.1∧wt y4.2≤80000∧y4.2.L.length≤6) (λy4 MY=> .s ?_)
  λk5 dW=> .l (λx6:Int×Af×Ao=>0≤x6.1∧x6.1≤6∧mA x6.2.1∧wt x6.2.2+12001 *x6.1≤80000∧x6.2.2.L.length+x6.1≤6) (λx6:Int×Af×Ao=>x6.1.toNat) (λx6 b7 k7 TV=> .c (λh1=> .b (zaW ?_) λr8 sW=> .b (zfg ?_ ?_) λr9 QW=> .j (λy10:Bool×Af=>mA y10.2∧(y10.1=false∨0<r9.1.L.length)) (λy10 aX=> .j (λy13:Af×Ao=>mA y13.1∧wt y13.2≤wt r9.1∧y13.2.L.length≤r9.1.L.length) (λy13 EX=>TV _ ?_ ?_)
  λk14 SV=> .c (λh2=>have Z1:=aX.2.resolve_left (by rw[h2];decide); .b (SA ?_) λr15 NW=> .h ?_ (.bg ?_ λe16 qZ NZ=> .b (zR ?_) λr17 YX=>have n9:=mS (x:=r17) qZ; .h ?_ (.m qZ (SV _ ?_))))
  λh2=>SV _ ?_)
  λk11 PV=> .c (λh3=> .b (KE ?_) λr12 yW=>PV _ ?_)
  λh3=>PV _ ?_)
  λh1=>dW _ ?_) ?_ ?_
 all_goals (try simp only[NB,eq_self,true_or]at *)<;>(try simp(disch:=omega) only[DA,LA]at *)<;>omega
def ziI{a0 a1}(ha:mA a0)(hb:0≤a1∧a1≤100):Ok (Ku a0 a1) λr=>wt r.1≤102∧mA r.2:=by
 unfold Ku;refine have hi:=DA (a:=a1) (b:=1) ?_ ?_;
 .b (SA ?_) λr1 NV=> .j (λy2:(List Al)×Af=>wt y2.1≤102∧mA y2.2) (λy2 xW=> .s ?_)
  λk3 JV=> .l (λx4:(List Al)×Int×Af=>0≤x4.2.1∧x4.2.1≤101∧wt x4.1+x4.2.1≤102∧mA x4.2.2) (λx4:(List Al)×Int×Af=>x4.2.1.toNat) (λx4 P5 k5 dW=> .c (λh1=> .b (SA ?_) λr6 vW=> .b (cB (0) (1000000) ?_ (by simp) (by decide)) λr8 sW=> .b (zjz ?_) λr9 QW=> .b (cB (0) (1000) ?_ (by simp) (by decide)) λr10 rW=> .b (zjo ?_) λr11 zW=>dW _ ?_ ?_)
  λh1=>JV _ ?_) ?_ ?_
 all_goals (try simp only[NB]at *)<;>(try simp(disch:=omega) only[DA,LA]at *)<;>omega
def zp4{a0}(ha:mA a0):Ok (Js a0) λr=>wt r.1≤700000∧mA r.2:=by
 unfold Js
 refine .b (zqi ?_) λr1 NV=> .b (QB ?_ ?_) λr2 eW=> .b (SA ?_) λr3 uW=> .b (zrT ?_) λr4 UV=> .b (ziF ?_) λr5 RV=> .j (λy6:Ac=>wt y6≤600000) (λy6 xX=> .b (ziI ?_ ?_) λr15 NW=> .b (SA ?_) λr16 mX=> .s ?_)
  λk7 TV=> .l (λx8:Int×Ac=>0≤x8.1∧x8.1≤(r5.1.L.length:Int)∧wt x8.2≤1300+80001 *x8.1) (λx8:Int×Ac=>((r5.1.L.length:Int) - x8.1).toNat) (λx8 W4 k9 jX=> .c (λh1=> .h ?_ (.bg ?_ λe10 qY wX=> .j (λy11:Ac=>wt y11≤1300+80001 *x8.1+80001) (λy11 XY=>jX _ ?_ ?_)
  λk12 jW=> .c (λh2=> .h ?_ (.bg ?_ λe13 D8 V3=> .b (zfg ?_ ?_) λr14 lX=>jW _ ?_))
  λh2=>jW _ ?_))
  λh1=>TV _ ?_) ?_ ?_
 all_goals (try simp only[NB]at *)<;>(try simp(disch:=omega) only[DA,LA]at *)<;>omega
def zrg{a0 a1 a2}(ha:mA a0):Ok (Jt a0 a1 a2) λr=>wt r.1≤wt a1+wt a2∧mA r.2:=by
 unfold Jt
 refine .b (KE ?_) λr1 NV=> .c (λh1=> .s ?_)
  λh1=> .s ?_
 all_goals (try simp only[NB]at *)<;>omega
def zqV{a0}(ha:mA a0):Ok (Ju a0) λr=>wt r.1≤40∧mA r.2:=by
 unfold Ju
 refine .b (QB ?_ ?_) λr1 NV=>have hj:=BS r1.1; .b (KE ?_) λr3 uW=> .j (λy4:Af×Ba=>mA y4.1∧wt y4.2≤40) (λy4 MY=> .s ?_)
  λk5 dW=> .c (λh1=> .b (cB (0) (32) ?_ (by simp) (by decide)) λr6 vW=> .b (QB ?_ ?_) λr7 HW=>dW _ ?_)
  λh1=>dW _ ?_
 all_goals (try simp only[NB]at *)<;>omega
def zqA{a0}(ha:mA a0):Ok (Jv a0) λr=>wt r.1≤30000∧mA r.2:=by
 unfold Jv
 refine .b (ziL ?_) λr1 NV=> .j (λy2:Bool×Af=>mA y2.2∧(y2.1=true∨0<r1.1.Cands.length)) (λy2 xW=> .c (λh1=> .s ?_)
  λh1=>have Z1:=xW.2.resolve_left (by rw[h1];decide); .b (SA ?_) λr5 RV=> .b (SA ?_) λr6 vW=> .j (λy7:Af×Aj=>mA y7.1∧wt y7.2≤30000) (λy7 aY=> .s ?_)
  λk8 pW=> .c (λh2=> .b (DN ?_) λr9 QW=>pW _ ?_)
  λh2=> .j (λy10:Af×Aj=>mA y10.1∧wt y10.2≤30000) (λy10 aX=>pW _ ?_)
  λk11 PV=> .c (λh3=> .b (DN ?_) λr12 yW=> .h ?_ (.bg ?_ λe13 D8 V3=>PV _ (have:=EC r1.1.Cands r5.1.toNat (⟨r12.1,e13.Draw,e13.Until⟩:Az);?_)))
  λh3=> .j (λy15:Af×Aj=>mA y15.1∧wt y15.2≤30000) (λy15 ZZ=>PV _ ?_)
  λk16 OW=> .c (λh4=> .b (QB ?_ ?_) λr17 YX=> .h ?_ (.bg ?_ λe18 o5 z1=>OW _ (have:=EC r1.1.Cands r5.1.toNat (⟨e18.A,r17.1,e18.Until⟩:Az);?_)))
  λh4=> .j (λy20:Af×Aj=>mA y20.1∧wt y20.2≤30000) (λy20 FY=>OW _ ?_)
  λk21 kW=> .c (λh5=> .b (cB (-1) (1000007) ?_ (by simp) (by decide)) λr22 fX=> .h ?_ (.bg ?_ λe23 A7 T3=>kW _ (have:=EC r1.1.Cands r5.1.toNat (⟨e23.A,e23.Draw,r22.1⟩:Az);?_)))
  λh5=> .j (λy25:Aj=>wt y25≤30000) (λy25 Y2=>kW _ ?_)
  λk26 iY=> .c (λh6=> .h ?_ (.bg ?_ λe27 Y7 U3=>iY _ ?_))
  λh6=>iY _ ?_)
  λk3 JV=> .c (λh7=>JV _ ?_)
  λh7=> .b (KE ?_) λr4 UV=>JV _ ?_
 all_goals (try simp only[NB,eq_self,true_or]at *)<;>omega
def zqU{a0}(ha:mA a0):Ok (Jw a0) λr=>wt r.1≤100000∧mA r.2:=by
 unfold Jw
 refine .b (zaW ?_) λr1 NV=> .b (SA ?_) λr2 eW=> .j (λy3:Af×Ah×Ah=>mA y3.1∧wt y3.2.1≤100000) (λy3 LY=> .s ?_)
  λk4 QV=> .c (λh1=> .b (cB (0) (10) ?_ (by simp) (by decide)) λr5 RV=>QV _ ?_)
  λh1=> .j (λy6:Af×Ah×Ah=>mA y6.1∧wt y6.2.1≤100000) (λy6 xX=>QV _ ?_)
  λk7 TV=> .c (λh2=> .b (QB ?_ ?_) λr8 sW=>TV _ ?_)
  λh2=> .j (λy9:Af×Ah×Ah=>mA y9.1∧wt y9.2.1≤100000) (λy9 yY=>TV _ ?_)
  λk10 OV=> .c (λh3=> .b (cB (11) (12) ?_ (by simp) (by decide)) λr11 zW=> .b (QB ?_ ?_) λr12 yW=>OV _ ?_)
  λh3=> .j (λy13:Af×Ah×Ah=>mA y13.1∧wt y13.2.1≤100000) (λy13 EX=>OV _ ?_)
  λk14 SV=> .c (λh4=> .b (ziW ?_) λr15 NW=>SV _ ?_)
  λh4=> .j (λy16:Af×Ah×Ah=>mA y16.1∧wt y16.2.1≤100000) (λy16 sY=>SV _ ?_)
  λk17 iW=> .c (λh5=> .b (zqA ?_) λr18 ZX=>iW _ ?_)
  λh5=> .j (λy19:Af×Ah×Ah=>mA y19.1∧wt y19.2.1≤100000) (λy19 hy19=>iW _ ?_)
  λk20 eY=> .c (λh6=> .b (cB (-1) (1000001) ?_ (by simp) (by decide)) λr21 m0=>eY _ ?_)
  λh6=> .j (λy22:Af×Ah×Ah=>mA y22.1∧wt y22.2.1≤100000) (λy22 Y4=>eY _ ?_)
  λk23 bY=> .c (λh7=> .b (cB (-1) (1000001) ?_ (by simp) (by decide)) λr24 uX=>bY _ ?_)
  λh7=> .j (λy25:Ah×Ah=>wt y25.1≤100000) (λy25 Y2=>bY _ ?_)
  λk26 iY=> .c (λh8=>iY _ ?_)
  λh8=> .jt (λy27=> .c (λh9=> .b (zR ?_) λr29 tZ=> .s ?_)
  λh9=>iY _ ?_)
  λk28 cX=> .c (λ_=>cX _)
  λ_=>cX _
 all_goals (try simp only[NB]at *)<;>omega
def zq5{a0}(ha:mA a0):Ok (Jx a0) λr=>wt r.1≤1000000∧mA r.2:=by
 unfold Jx
 refine .b (ziF ?_) λr1 NV=>have hlw:=zB r1.1.L; .b (SA ?_) λr2 eW=> .j (λy3:Af×Ao=>mA y3.1∧wt y3.2≤1000000) (λy3 LY=> .s ?_)
  λk4 QV=> .c (λh1=> .b (cB (0) (7) ?_ (by simp) (by decide)) λr5 RV=>QV _ ?_)
  λh1=> .j (λy6:Af×Ao=>mA y6.1∧wt y6.2≤1000000) (λy6 xX=>QV _ ?_)
  λk7 TV=> .c (λh2=> .b (zqU ?_) λr8 sW=> .g ?_ (TV _ ?_))
  λh2=> .j (λy9:Ao×Af=>wt y9.1≤1000000∧mA y9.2) (λy9 yY=>TV _ ?_)
  λk10 OV=> .c (λh3=> .j (λy11:Ao=>wt y11≤1000000) (λy11 XY=>OV _ ?_)
  λk12 jW=> .c (λh4=> .h ?_ (.bg ?_ λe13 D8 V3=> .h ?_ (.bg ?_ λe14 YZ SY=>jW _ (have:=EC r1.1.L 1 (⟨e14.Id,e14.Cn,e13.Sn,e14.C,e14.P,e14.Tick,e14.Last,e14.Dead⟩:Ah);?_))))
  λh4=>jW _ ?_)
  λh3=> .j (λy16:Af×Ao=>mA y16.1∧wt y16.2≤1000000) (λy16 sY=>OV _ ?_)
  λk17 iW=> .c (λh5=> .b (zaW ?_) λr18 ZX=> .b (zR ?_) λr19 IX=> .b (cB (9) (13) ?_ (by simp) (by decide)) λr20 EY=> .j (λy21:Af×Ah×Ao=>mA y21.1∧wt y21.2.2≤1000000) (λy21 Z0=>iW _ ?_)
  λk22 RW=> .l (λx23:Int×Af×Ah×Ao=>0≤x23.1∧x23.1≤13∧mA x23.2.1∧wt x23.2.2.1+12 *x23.1≤20000∧wt x23.2.2.2+30000 *x23.1≤600000) (λx23:Int×Af×Ah×Ao=>x23.1.toNat) (λx23 hx23 k24 oW=>have hxw:=zB x23.2.2.2.L; .c (λh6=> .b (QB ?_ ?_) λr25 vX=> .g ?_ (oW _ ?_ ?_))
  λh6=>RW _ ?_) ?_ ?_)
  λh5=>iW _ ?_
 all_goals (try simp only[NB]at *)<;>(try simp(disch:=omega) only[DA,LA]at *)<;>omega
def zqR{a0}(ha:mA a0):Ok (Jy a0) λr=>wt r.1≤10000∧mA r.2:=by
 unfold Jy
 refine .b (ziI ?_ ?_) λr1 NV=>have hlw:=zB r1.1; .c (λh1=> .s ?_)
  λh1=> .b (SA ?_) λr2 eW=> .b (SA ?_) λr3 uW=> .j (λy4:(List Al)×Af=>wt y4.1≤10000∧mA y4.2) (λy4 MY=> .s ?_)
  λk5 dW=> .c (λh2=> .b (DN ?_) λr6 vW=> .h ?_ (.bg ?_ λe7 MZ pY=>dW _ (have:=EC r1.1 r2.1.toNat (⟨r6.1,e7.Got,e7.Sent⟩:Al);?_)))
  λh2=> .j (λy9:(List Al)×Af=>wt y9.1≤10000∧mA y9.2) (λy9 yY=>dW _ ?_)
  λk10 OV=> .c (λh3=> .b (cB (-1) (1000001) ?_ (by simp) (by decide)) λr11 zW=> .h ?_ (.bg ?_ λe12 he12 t7=>OV _ (have:=EC r1.1 r2.1.toNat (⟨e12.A,r11.1,e12.Sent⟩:Al);?_)))
  λh3=> .j (λy14:(List Al)×Af=>wt y14.1≤10000∧mA y14.2) (λy14 T2=>OV _ ?_)
  λk15 ZW=> .c (λh4=> .h ?_ (.bg ?_ λe16 qZ NZ=> .b (zxt ?_ (by simp)) λr17 YX=> .h ?_ (.bg ?_ λe18 o5 z1=>ZW _ (have:=EC r1.1 r2.1.toNat (⟨e18.A,e18.Got,r17.1⟩:Al);?_))))
  λh4=> .j (λy20:(List Al)=>wt y20≤10000) (λy20 FY=>ZW _ ?_)
  λk21 kW=> .c (λh5=> .h ?_ (.bg ?_ λe22 wZ L1=> .g ?_ (kW _ ?_)))
  λh5=>kW _ ?_
 all_goals (try simp only[NB]at *)<;>(try simp(disch:=omega) only[DA,LA]at *)<;>omega
def zqq{a0}(ha:mA a0):Ok (Ka a0) λr=>wt r.1≤40∧mA r.2:=by
 unfold Ka;refine .b (SA ?_) λr1 NV=> .b (QB ?_ ?_) λr2 eW=>have hi2:=DA (a:=1) (b:=r1.1) ?_ ?_; .b (SA ?_) λr3 uW=> .s ?_
 all_goals (try simp only[NB]at *)<;>(try simp(disch:=omega) only[DA,LA]at *)<;>omega
def zqE{a0}(ha:mA a0):Ok (Kb a0) λr=>wt r.1≤100∧mA r.2:=by
 unfold Kb
 refine .b (zqq ?_) λr1 NV=> .b (SA ?_) λr2 eW=> .j (λy3:Af×Au=>mA y3.1∧wt y3.2≤100) (λy3 LY=> .s ?_)
  λk4 QV=> .c (λh1=> .b (cB (-1) (10001) ?_ (by simp) (by decide)) λr5 RV=>QV _ ?_)
  λh1=> .j (λy6:Af×Au=>mA y6.1∧wt y6.2≤100) (λy6 xX=>QV _ ?_)
  λk7 TV=> .c (λh2=> .b (cB (0) (33) ?_ (by simp) (by decide)) λr8 sW=> .b (QB ?_ ?_) λr9 QW=>TV _ ?_)
  λh2=>TV _ ?_
 all_goals (try simp only[NB]at *)<;>omega
def zqF{a0}(ha:mA a0):Ok (Jz a0) λr=>wt r.1≤3000000∧mA r.2:=by
 unfold Jz
 refine .b (zp4 ?_) λr1 NV=>have CZ:=zB r1.1.Psks;have L2:=zB r1.1.T.L; .b (SA ?_) λr2 eW=> .j (λy3:Af×Ac=>mA y3.1∧wt y3.2≤3000000) (λy3 LY=> .s ?_)
  λk4 QV=> .c (λh1=> .b (zrg ?_) λr5 RV=>QV _ ?_)
  λh1=> .j (λy6:Af×Ac=>mA y6.1∧wt y6.2≤3000000) (λy6 xX=>QV _ ?_)
  λk7 TV=> .c (λh2=> .b (zqV ?_) λr8 sW=>TV _ ?_)
  λh2=> .j (λy9:Af×Ac=>mA y9.1∧wt y9.2≤3000000) (λy9 yY=>TV _ ?_)
  λk10 OV=> .c (λh3=> .b (cB (-1) (10001) ?_ (by simp) (by decide)) λr11 zW=>OV _ ?_)
  λh3=> .j (λy12:Af×Ac=>mA y12.1∧wt y12.2≤3000000) (λy12 HX=>OV _ ?_)
  λk13 XV=> .c (λh4=> .b (zq5 ?_) λr14 lX=>XV _ ?_)
  λh4=> .j (λy15:Af×Ac=>mA y15.1∧wt y15.2≤3000000) (λy15 ZZ=>XV _ ?_)
  λk16 OW=> .c (λh5=> .b (zqR ?_) λr17 YX=>OW _ ?_)
  λh5=> .j (λy18:Ac×Af=>wt y18.1≤3000000∧mA y18.2) (λy18 z0=>OW _ ?_)
  λk19 FW=> .c (λh6=> .g ?_ (FW _ ?_))
  λh6=> .j (λy20:Af×Ac=>mA y20.1∧wt y20.2≤3000000) (λy20 FY=>FW _ ?_)
  λk21 kW=> .c (λh7=> .b (zaW ?_) λr22 fX=> .b (zR ?_) λr23 cZ=> .g ?_ (kW _ ?_))
  λh7=>kW _ ?_
 all_goals (try simp only[NB]at *)<;>omega
def zqh{a0}(ha:mA a0):Ok (Kc a0) λr=>wt r.1≤300∧mA r.2:=by
 unfold Kc
 refine .b (KE ?_) λr1 NV=> .c (λh1=> .b (SA ?_) λr2 eW=> .b (SA ?_) λr4 UV=> .b (cB (0) (200) ?_ (by simp) (by decide)) λr6 vW=> .b (QB ?_ ?_) λr7 HW=> .s ?_)
  λh1=> .b (SA ?_) λr8 sW=> .b (SA ?_) λr10 rW=> .b (zi1 ?_) λr12 yW=> .b (zeZ ?_) λr13 eX=> .s ?_
 all_goals (try simp only[NB]at *)<;>omega
def zqS{a0}(ha:mA a0):Ok (Kd a0) λr=>wt r.1≤600∧mA r.2:=by
 unfold Kd
 refine .b (zqh ?_) λr1 NV=> .b (SA ?_) λr2 eW=> .j (λy3:Af×Ap=>mA y3.1∧wt y3.2≤600) (λy3 LY=> .s ?_)
  λk4 QV=> .c (λh1=> .b (DN ?_) λr5 RV=>QV _ ?_)
  λh1=> .j (λy6:Af×Ap=>mA y6.1∧wt y6.2≤600) (λy6 xX=>QV _ ?_)
  λk7 TV=> .c (λh2=> .b (DN ?_) λr8 sW=>TV _ ?_)
  λh2=> .j (λy9:Af×Ap=>mA y9.1∧wt y9.2≤600) (λy9 yY=>TV _ ?_)
  λk10 OV=> .c (λh3=> .b (QB ?_ ?_) λr11 zW=>OV _ ?_)
  λh3=>OV _ ?_
 all_goals (try simp only[NB]at *)<;>omega
end Go.D
namespace Go.D
def zq4{a0 a1}(ha:mA a0)(hb:a1≤40):Ok (Ke a0 a1) λr=>wt r.1≤800000000∧mA r.2:=by
 unfold Ke
 refine .b (zpP ?_ ?_) λr1 NV=>have D3:=zB r1.1.Seen;have m4:=zB r1.1.Known;have fW:=zB r1.1.Notes; .b (SA ?_) λr2 eW=> .j (λy3:Af×Aa=>mA y3.1∧wt y3.2≤800000000) (λy3 LY=> .s ?_)
  λk4 QV=> .c (λh1=> .b (cB (-1) (1000001) ?_ (by simp) (by decide)) λr5 RV=>QV _ ?_)
  λh1=> .j (λy6:Af×Aa=>mA y6.1∧wt y6.2≤800000000) (λy6 xX=>QV _ ?_)
  λk7 TV=> .c (λh2=> .b (SA ?_) λr8 sW=> .b (zq3 ?_) λr9 QW=> .h ?_ (.bg ?_ λe10 qY wX=>TV _ (have:=EC r1.1.Clients r8.1.toNat r9.1;?_)))
  λh2=> .j (λy11:Af×Aa=>mA y11.1∧wt y11.2≤800000000) (λy11 XY=>TV _ ?_)
  λk12 jW=> .c (λh3=> .b (SA ?_) λr13 eX=> .h ?_ (jW _ (have:=wD r1.1.Clients ((r13.1 - 0).toNat);?_)))
  λh3=> .j (λy14:Af×Aa=>mA y14.1∧wt y14.2≤800000000) (λy14 T2=>jW _ ?_)
  λk15 ZW=> .c (λh4=> .b (zqF ?_) λr16 mX=>ZW _ ?_)
  λh4=> .j (λy17:Af×Aa=>mA y17.1∧wt y17.2≤800000000) (λy17 vZ=>ZW _ ?_)
  λk18 PW=> .c (λh5=> .b (zqE ?_) λr19 IX=>PW _ ?_)
  λh5=> .j (λy20:Af×Aa=>mA y20.1∧wt y20.2≤800000000) (λy20 FY=>PW _ ?_)
  λk21 kW=> .c (λh6=> .b (zqS ?_) λr22 fX=> .g ?_ (kW _ ?_))
  λh6=> .j (λy23:Af×Aa=>mA y23.1∧wt y23.2≤800000000) (λy23 sZ=>kW _ ?_)
  λk24 oW=> .c (λh7=> .b (cB (31) (32) ?_ (by simp) (by decide)) λr25 vX=> .b (QB ?_ ?_) λr26 JX=> .g ?_ (oW _ ?_))
  λh7=> .j (λy27:Af×Aa=>mA y27.1∧wt y27.2≤800000000) (λy27 n5=>oW _ ?_)
  λk28 cX=> .c (λh8=> .b (zqQ ?_) λr29 tZ=> .g ?_ (cX _ ?_))
  λh8=> .j (λy30:Aa=>wt y30≤800000000) (λy30 hy30=>cX _ ?_)
  λk31 bZ=> .c (λh9=> .h ?_ (.bg ?_ λe32 b8 d8=>bZ _ (have:=EC r1.1.Clients 0 (⟨2,e32.Psk,e32.At,e32.St,e32.Cn,e32.Fin,e32.C,e32.T,e32.R,e32.Last⟩:Ae);?_)))
  λh9=> .j (λy34:Aa=>wt y34≤800000000) (λy34 X2=>bZ _ ?_)
  λk35 gY=> .c (λtW=> .h ?_ (.bg ?_ λe36 he36 he36w=>gY _ (have:=EC r1.1.Clients 0 (⟨e36.Id,[UInt8.ofNat (1:Int).toNat],e36.At,e36.St,e36.Cn,e36.Fin,e36.C,e36.T,e36.R,e36.Last⟩:Ae);?_)))
  λtW=>gY _ ?_
 all_goals (try simp only[NB]at *)<;>omega
end Go.D

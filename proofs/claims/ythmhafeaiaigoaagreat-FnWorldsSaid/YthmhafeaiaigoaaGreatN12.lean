/-
 Sizes of the program's data.
-/
import Derived.Test.YthmhafeaiaigoaaGreatN10
set_option linter.all false
namespace Go.D
end Go.D
namespace Go.D
end Go.D
namespace Go.D
open Option renaming bind→ob
noncomputable section
def Kh(a0:Af):=
 ob (Ay a0 12) λr1=>
 ob (Ay r1.2 12) λr2=>
 ob (Ar r2.2 300) λr3=>
 ob (Ay r3.2 16) λr4=>
 some ((⟨2,0,r1.1,r2.1,r3.1,r4.1,[],0,0,[],[]⟩:Ab),r4.2)
def Ki(a0:Af)(a1:Int):=
 ob (Bf a1) λr1=>
 ob (Ar a0 6) λr2=>
 aA (λ(y3:Aw)=>
 some (y3,r2.2)) λk4=>
 sA FU (λ(x5:Int×Aw) k6=>
 cond (decide (x5.1>0))
 (ob (Cv x5.2 x5.2.Due) λr7=>
 k6 ((qA .i64 x5.1 1),r7.1))
 (k4 x5.2)) (r2.1,r1)
def Jg(a0:Af):=
 ob (Ar a0 3) λr1=>
 ob (Ar r1.2 32) λr2=>
 ob (Ay r2.2 (iA .i64 1 r2.1)) λr3=>
 ob (Ar r3.2 5) λr4=>
 let r5:Ah:=vB (iA .i64 1 r4.1)
 ob (XI (iA .i64 1 r1.1) r3.1 r5) λr6=>
 ob (As r4.2 [0,1,2,2,3,3,3,3]) λr7=>
 cond (r7.1==0)
 (some (r6,r7.2))
 (ob (As r7.2 [0,0,5,90]) λr8=>
 ob (Ay r8.2 12) λr9=>
 ob (Fc r6 r8.1 r9.1) λr10=>
 ob (Ar r9.2 3) λr11=>
 ob (Cv r10.1.T (iA .i64 r8.1 r11.1)) λr12=>
 cond (r7.1==1)
 (some ((⟨r10.1.Id,r10.1.Psk,r10.1.At,r10.1.St,r10.1.Cn,r10.1.Fin,r10.1.C,r12.1,r10.1.R,r10.1.Last⟩:Ad),r11.2))
 (ob (Kh r11.2) λr13=>
 ob (En (⟨r10.1.Id,r10.1.Psk,r10.1.At,r10.1.St,r10.1.Cn,r10.1.Fin,r10.1.C,r12.1,r10.1.R,r10.1.Last⟩:Ad) r8.1 (⟨r13.1.Kind,r13.1.Id,r10.1.Cn,r13.1.Sn,r13.1.Tick,r13.1.Cookie,r13.1.Proof,r13.1.Epoch,r13.1.Seq,r13.1.Body,r13.1.Tag⟩:Ab)) λr14=>
 cond (r7.1==2)
 (ob (Ar r13.2 5) λr15=>
 aA (λ(y16:Ad)=>
 aA (λ(y21:Ad)=>
 some (y21,r15.2)) λk22=>
 cond (!y16.T.On)
 (ob (Bf r8.1) λr23=>
 k22 (⟨y16.Id,y16.Psk,y16.At,y16.St,y16.Cn,y16.Fin,y16.C,r23,y16.R,y16.Last⟩:Ad))
 (k22 y16)) λk17=>
 sA FU (λ(x18:Int×Ad) k19=>
 cond (decide (x18.1>0))
 (ob (Cv x18.2.T x18.2.T.Due) λr20=>
 k19 ((qA .i64 x18.1 1),(⟨x18.2.Id,x18.2.Psk,x18.2.At,x18.2.St,x18.2.Cn,x18.2.Fin,x18.2.C,r20.1,x18.2.R,x18.2.Last⟩:Ad)))
 (k17 x18.2)) (r15.1,r14.1))
 (ob (Bk 0) λr24=>
 ob (Eb r14.1.C.Cur.Key 1 r14.1.C.Sn 0 0 8 r24) λr25=>
 ob (En r14.1 r8.1 r25.1) λr26=>
 ob (Bb r13.2 2) λr27=>
 aA (λ(y28:Af×Ad)=>
 some (y28.2,y28.1)) λk29=>
 cond (r27.1)
 (ob (Hu r27.2 0) λr30=>
 aA (λ(y31:Af×Ad)=>
 k29 (y31.1,y31.2)) λk32=>
 cond (decide ((r30.1.Next.length:Int)>0))
 (ob (Ki r30.2 r8.1) λr33=>
 aA (λ(y34:Ad)=>
 k32 (r33.2,y34)) λk35=>
 cond (!r33.1.On)
 (ob (Bf r8.1) λr36=>
 k35 (⟨r26.1.Id,r26.1.Psk,r26.1.At,r26.1.St,r26.1.Cn,r26.1.Fin,r30.1,r26.1.T,r36,r26.1.Last⟩:Ad))
 (k35 (⟨r26.1.Id,r26.1.Psk,r26.1.At,r26.1.St,r26.1.Cn,r26.1.Fin,r30.1,r26.1.T,r33.1,r26.1.Last⟩:Ad)))
 (k32 (r30.2,(⟨r26.1.Id,r26.1.Psk,r26.1.At,r26.1.St,r26.1.Cn,r26.1.Fin,r30.1,r26.1.T,r26.1.R,r26.1.Last⟩:Ad))))
 (k29 (r27.2,r26.1)))))
def Kj(a0:Af):=
 ob (Ar a0 8) λr1=>
 aA (λ(y2:Af×Ab)=>
 some (y2.2,y2.1)) λk3=>
 cond ((iA .i64 1 r1.1)==1)
 (ob (Ar r1.2 9) λr4=>
 ob (Ay r4.2 12) λr5=>
 k3 (r5.2,(⟨iA .i64 1 r1.1,iA .i64 1 r4.1,r5.1,[],0,[],[],0,0,[],[]⟩:Ab)))
 (aA (λ(y6:Bool)=>
 aA (λ(y8:Af×Ab)=>
 k3 (y8.1,y8.2)) λk9=>
 cond (y6)
 (ob (Ay r1.2 12) λr10=>
 ob (Ay r10.2 12) λr11=>
 ob (As r11.2 [0,1,300,1000000]) λr12=>
 ob (Ay r12.2 16) λr13=>
 aA (λ(y14:Af×Ab)=>
 k9 (y14.1,y14.2)) λk15=>
 cond ((iA .i64 1 r1.1)==3)
 (ob (Ar r13.2 9) λr16=>
 ob (Ay r16.2 16) λr17=>
 k15 (r17.2,(⟨iA .i64 1 r1.1,iA .i64 1 r16.1,r10.1,r11.1,r12.1,r13.1,r17.1,0,0,[],[]⟩:Ab)))
 (k15 (r13.2,(⟨iA .i64 1 r1.1,0,r10.1,r11.1,r12.1,r13.1,[],0,0,[],[]⟩:Ab))))
 (ob (Ay r1.2 12) λr18=>
 ob (As r18.2 [0,1,2,4294967295]) λr19=>
 ob (As r19.2 [0,1,70000,281474976710655]) λr20=>
 ob (Ay r20.2 16) λr21=>
 ob (As r21.2 [0,1,12,40]) λr22=>
 aA (λ(y23:Bool)=>
 aA (λ(y25:Int)=>
 aA (λ(y27:Int)=>
 ob (Ay r22.2 y27) λr29=>
 k9 (r29.2,(⟨iA .i64 1 r1.1,0,[],r18.1,0,[],[],r19.1,r20.1,r29.1,r21.1⟩:Ab))) λk28=>
 cond (decide ((iA .i64 1 r1.1)≥7))
 (k28 4)
 (k28 y25)) λk26=>
 cond (y23)
 (k26 12)
 (k26 r22.1)) λk24=>
 cond ((iA .i64 1 r1.1)==5)
 (k24 true)
 (k24 ((iA .i64 1 r1.1)==6)))) λk7=>
 cond ((iA .i64 1 r1.1)==2)
 (k7 ((iA .i64 1 r1.1)==2))
 (k7 ((iA .i64 1 r1.1)==3)))
def Jh(a0:Af):=
 ob (Kj a0) λr1=>
 ob (Ar r1.2 22) λr2=>
 aA (λ(y3:Af×Ab)=>
 some (y3.2,y3.1)) λk4=>
 cond (r2.1==0)
 (ob (Ar r2.2 11) λr5=>
 k4 (r5.2,(⟨qA .i64 r5.1 1,r1.1.Id,r1.1.Cn,r1.1.Sn,r1.1.Tick,r1.1.Cookie,r1.1.Proof,r1.1.Epoch,r1.1.Seq,r1.1.Body,r1.1.Tag⟩:Ab)))
 (aA (λ(y6:Af×Ab)=>
 k4 (y6.1,y6.2)) λk7=>
 cond (r2.1==1)
 (ob (As r2.2 [0,1,10,(-1)]) λr8=>
 k7 (r8.2,(⟨r1.1.Kind,r8.1,r1.1.Cn,r1.1.Sn,r1.1.Tick,r1.1.Cookie,r1.1.Proof,r1.1.Epoch,r1.1.Seq,r1.1.Body,r1.1.Tag⟩:Ab)))
 (aA (λ(y9:Af×Ab)=>
 k7 (y9.1,y9.2)) λk10=>
 cond (r2.1==2)
 (ob (As r2.2 [0,11,12,13]) λr11=>
 ob (Ay r11.2 r11.1) λr12=>
 k10 (r12.2,(⟨r1.1.Kind,r1.1.Id,r12.1,r1.1.Sn,r1.1.Tick,r1.1.Cookie,r1.1.Proof,r1.1.Epoch,r1.1.Seq,r1.1.Body,r1.1.Tag⟩:Ab)))
 (aA (λ(y13:Af×Ab)=>
 k10 (y13.1,y13.2)) λk14=>
 cond (r2.1==3)
 (ob (As r2.2 [0,11,12,13]) λr15=>
 ob (Ay r15.2 r15.1) λr16=>
 k14 (r16.2,(⟨r1.1.Kind,r1.1.Id,r1.1.Cn,r16.1,r1.1.Tick,r1.1.Cookie,r1.1.Proof,r1.1.Epoch,r1.1.Seq,r1.1.Body,r1.1.Tag⟩:Ab)))
 (aA (λ(y17:Af×Ab)=>
 k14 (y17.1,y17.2)) λk18=>
 cond (r2.1==4)
 (ob (As r2.2 [(-1),0,1000001]) λr19=>
 k18 (r19.2,(⟨r1.1.Kind,r1.1.Id,r1.1.Cn,r1.1.Sn,r19.1,r1.1.Cookie,r1.1.Proof,r1.1.Epoch,r1.1.Seq,r1.1.Body,r1.1.Tag⟩:Ab)))
 (aA (λ(y20:Af×Ab)=>
 k18 (y20.1,y20.2)) λk21=>
 cond (r2.1==5)
 (ob (As r2.2 [0,15,16]) λr22=>
 ob (Ay r22.2 r22.1) λr23=>
 k21 (r23.2,(⟨r1.1.Kind,r1.1.Id,r1.1.Cn,r1.1.Sn,r1.1.Tick,r23.1,r1.1.Proof,r1.1.Epoch,r1.1.Seq,r1.1.Body,r1.1.Tag⟩:Ab)))
 (aA (λ(y24:Af×Ab)=>
 k21 (y24.1,y24.2)) λk25=>
 cond (r2.1==6)
 (ob (As r2.2 [0,15,16]) λr26=>
 ob (Ay r26.2 r26.1) λr27=>
 k25 (r27.2,(⟨r1.1.Kind,r1.1.Id,r1.1.Cn,r1.1.Sn,r1.1.Tick,r1.1.Cookie,r27.1,r1.1.Epoch,r1.1.Seq,r1.1.Body,r1.1.Tag⟩:Ab)))
 (aA (λ(y28:Af×Ab)=>
 k25 (y28.1,y28.2)) λk29=>
 cond (r2.1==7)
 (ob (As r2.2 [(-1),0,4294967296]) λr30=>
 k29 (r30.2,(⟨r1.1.Kind,r1.1.Id,r1.1.Cn,r1.1.Sn,r1.1.Tick,r1.1.Cookie,r1.1.Proof,r30.1,r1.1.Seq,r1.1.Body,r1.1.Tag⟩:Ab)))
 (aA (λ(y31:Af×Ab)=>
 k29 (y31.1,y31.2)) λk32=>
 cond (r2.1==8)
 (ob (As r2.2 [(-1),0,281474976710656]) λr33=>
 k32 (r33.2,(⟨r1.1.Kind,r1.1.Id,r1.1.Cn,r1.1.Sn,r1.1.Tick,r1.1.Cookie,r1.1.Proof,r1.1.Epoch,r33.1,r1.1.Body,r1.1.Tag⟩:Ab)))
 (aA (λ(y34:Af×Ab)=>
 k32 (y34.1,y34.2)) λk35=>
 cond (r2.1==9)
 (ob (As r2.2 [0,4,12,41]) λr36=>
 ob (Ay r36.2 r36.1) λr37=>
 k35 (r37.2,(⟨r1.1.Kind,r1.1.Id,r1.1.Cn,r1.1.Sn,r1.1.Tick,r1.1.Cookie,r1.1.Proof,r1.1.Epoch,r1.1.Seq,r37.1,r1.1.Tag⟩:Ab)))
 (aA (λ(y38:Af×Ab)=>
 k35 (y38.1,y38.2)) λk39=>
 cond (r2.1==10)
 (ob (As r2.2 [0,15,17]) λr40=>
 ob (Ay r40.2 r40.1) λr41=>
 k39 (r41.2,(⟨r1.1.Kind,r1.1.Id,r1.1.Cn,r1.1.Sn,r1.1.Tick,r1.1.Cookie,r1.1.Proof,r1.1.Epoch,r1.1.Seq,r1.1.Body,r41.1⟩:Ab)))
 (k39 (r2.2,r1.1))))))))))))
def Kk(a0:Af):=
 ob (As a0 [0,5,999990,1000000]) λr1=>
 ob (Ki r1.2 r1.1) λr2=>
 ob (Ar r2.2 10) λr3=>
 aA (λ(y4:Af×Aw)=>
 some (y4.2,y4.1)) λk5=>
 cond (r3.1==0)
 (ob (As r3.2 [(-1),1000008,1000009]) λr6=>
 k5 (r6.2,(⟨r2.1.On,r6.1,r2.1.Wait,r2.1.Tries⟩:Aw)))
 (aA (λ(y7:Af×Aw)=>
 k5 (y7.1,y7.2)) λk8=>
 cond (r3.1==1)
 (ob (As r3.2 [0,1,3,8,16]) λr9=>
 k8 (r9.2,(⟨r2.1.On,r2.1.Due,r9.1,r2.1.Tries⟩:Aw)))
 (aA (λ(y10:Af×Aw)=>
 k8 (y10.1,y10.2)) λk11=>
 cond (r3.1==2)
 (ob (As r3.2 [0,1,5,6]) λr12=>
 k11 (r12.2,(⟨r2.1.On,r2.1.Due,r2.1.Wait,r12.1⟩:Aw)))
 (aA (λ(y13:Aw)=>
 k11 (r3.2,y13)) λk14=>
 cond (r3.1==3)
 (k14 (⟨!r2.1.On,r2.1.Due,r2.1.Wait,r2.1.Tries⟩:Aw))
 (k14 r2.1))))
def Ji(a0:Af):=
 ob (Jg a0) λr1=>
 ob (Ar r1.2 26) λr2=>
 aA (λ(y3:Af×Ad)=>
 some (y3.2,y3.1)) λk4=>
 cond (r2.1==0)
 (ob (As r2.2 [0,10,4]) λr5=>
 k4 (r5.2,(⟨r5.1,r1.1.Psk,r1.1.At,r1.1.St,r1.1.Cn,r1.1.Fin,r1.1.C,r1.1.T,r1.1.R,r1.1.Last⟩:Ad)))
 (aA (λ(y6:Af×Ad)=>
 k4 (y6.1,y6.2)) λk7=>
 cond (r2.1==1)
 (ob (As r2.2 [0,33,1]) λr8=>
 ob (Ay r8.2 r8.1) λr9=>
 k7 (r9.2,(⟨r1.1.Id,r9.1,r1.1.At,r1.1.St,r1.1.Cn,r1.1.Fin,r1.1.C,r1.1.T,r1.1.R,r1.1.Last⟩:Ad)))
 (aA (λ(y10:Af×Ad)=>
 k7 (y10.1,y10.2)) λk11=>
 cond (r2.1==2)
 (ob (Cl r2.2) λr12=>
 k11 (r12.2,(⟨r1.1.Id,r1.1.Psk,r12.1,r1.1.St,r1.1.Cn,r1.1.Fin,r1.1.C,r1.1.T,r1.1.R,r1.1.Last⟩:Ad)))
 (aA (λ(y13:Af×Ad)=>
 k11 (y13.1,y13.2)) λk14=>
 cond (r2.1==3)
 (ob (Ar r2.2 6) λr15=>
 k14 (r15.2,(⟨r1.1.Id,r1.1.Psk,r1.1.At,qA .i64 r15.1 1,r1.1.Cn,r1.1.Fin,r1.1.C,r1.1.T,r1.1.R,r1.1.Last⟩:Ad)))
 (aA (λ(y16:Af×Ad)=>
 k14 (y16.1,y16.2)) λk17=>
 cond (r2.1==4)
 (ob (As r2.2 [0,11,12]) λr18=>
 ob (Ay r18.2 r18.1) λr19=>
 k17 (r19.2,(⟨r1.1.Id,r1.1.Psk,r1.1.At,r1.1.St,r19.1,r1.1.Fin,r1.1.C,r1.1.T,r1.1.R,r1.1.Last⟩:Ad)))
 (aA (λ(y20:Af×Ad)=>
 k17 (y20.1,y20.2)) λk21=>
 cond (r2.1==5)
 (ob (Jh r2.2) λr22=>
 k21 (r22.2,(⟨r1.1.Id,r1.1.Psk,r1.1.At,r1.1.St,r1.1.Cn,r22.1,r1.1.C,r1.1.T,r1.1.R,r1.1.Last⟩:Ad)))
 (aA (λ(y23:Af×Ad)=>
 k21 (y23.1,y23.2)) λk24=>
 cond (r2.1==6)
 (ob (Kg r2.2) λr25=>
 k24 (r25.2,(⟨r1.1.Id,r1.1.Psk,r1.1.At,r1.1.St,r1.1.Cn,r1.1.Fin,r25.1,r1.1.T,r1.1.R,r1.1.Last⟩:Ad)))
 (aA (λ(y26:Af×Ad)=>
 k24 (y26.1,y26.2)) λk27=>
 cond (r2.1==7)
 (ob (Kk r2.2) λr28=>
 k27 (r28.2,(⟨r1.1.Id,r1.1.Psk,r1.1.At,r1.1.St,r1.1.Cn,r1.1.Fin,r1.1.C,r28.1,r1.1.R,r1.1.Last⟩:Ad)))
 (aA (λ(y29:Af×Ad)=>
 k27 (y29.1,y29.2)) λk30=>
 cond (r2.1==8)
 (ob (Kk r2.2) λr31=>
 k30 (r31.2,(⟨r1.1.Id,r1.1.Psk,r1.1.At,r1.1.St,r1.1.Cn,r1.1.Fin,r1.1.C,r1.1.T,r31.1,r1.1.Last⟩:Ad)))
 (aA (λ(y32:Af×Ad)=>
 k30 (y32.1,y32.2)) λk33=>
 cond (r2.1==9)
 (ob (As r2.2 [(-1),1,1000001]) λr34=>
 k33 (r34.2,(⟨r1.1.Id,r1.1.Psk,r1.1.At,r1.1.St,r1.1.Cn,r1.1.Fin,r1.1.C,r1.1.T,r1.1.R,r34.1⟩:Ad)))
 (aA (λ(y35:Ad)=>
 k33 (r2.2,y35)) λk36=>
 cond (r2.1==10)
 (k36 (⟨r1.1.Id,r1.1.Psk,r1.1.At,r1.1.St,r1.1.Cn,(⟨0,0,[],[],0,[],[],0,0,[],[]⟩:Ab),r1.1.C,r1.1.T,r1.1.R,r1.1.Last⟩:Ad))
 (k36 r1.1)))))))))))
def Jj(a0:Af):=
 ob (Ar a0 3) λr1=>
 aA (λ(y2:(List (List UInt8))×Af)=>
 some (y2.1,y2.2)) λk3=>
 sA FU (λ(x4:(List (List UInt8))×Int×Af) k5=>
 cond (decide (x4.2.1>0))
 (ob (Ar x4.2.2 32) λr6=>
 ob (Ay r6.2 (iA .i64 1 r6.1)) λr7=>
 cond (decide (x4.1.length+[r7.1].length≤bA)) (k5 ((x4.1++[r7.1]),(qA .i64 x4.2.1 1),r7.2)) none)
 (k3 (x4.1,x4.2.2))) ([],(iA .i64 1 r1.1),r1.2)
def Kl(a0:Af):=
 ob (Ar a0 5) λr1=>
 let r2:Ah:=vB r1.1
 ob (Cj r2) λr3=>
 ob (Ar r1.2 6) λr4=>
 ob (Ar r4.2 5) λr5=>
 aA (λ(y6:Af×Aj)=>
 some (y6.2,y6.1)) λk7=>
 sA FU (λ(x8:Int×Int×Af×Aj) k9=>
 cond (decide (x8.2.1>0))
 (ob (Ar x8.2.2.1 7) λr10=>
 let r11:Ah:=vB r10.1
 ob (Ay r10.2 12) λr12=>
 ob (Ek x8.2.2.2 x8.1 r11 r12.1) λr13=>
 ob (Ar r12.2 3) λr14=>
 k9 ((iA .i64 x8.1 r14.1),(qA .i64 x8.2.1 1),r14.2,r13.1))
 (k7 (x8.2.2.1,x8.2.2.2))) (r4.1,r5.1,r5.2,r3)
def Fu(a0:Af):=
 ob (Ay a0 16) λr1=>
 ob (Ar r1.2 2) λr2=>
 ob (Kh r2.2) λr3=>
 ob (Fq r1.1 (iA .i64 1 r2.1) r3.1) λr4=>
 ob (Ay r3.2 16) λr5=>
 ob (As r5.2 [0,5,90]) λr6=>
 ob (Ar r6.2 5) λr7=>
 let r8:Ah:=vB (iA .i64 1 r7.1)
 ob (Fm r5.1 r6.1 r8 r4.1) λr9=>
 ob (Bb r7.2 2) λr10=>
 aA (λ(y11:Af×Ai)=>
 ob (Bb y11.1 2) λr14=>
 aA (λ(y15:Af×Ai)=>
 some (y15.2,y15.1)) λk16=>
 cond (r14.1)
 (ob (Kl r14.2) λr17=>
 k16 (r17.2,(⟨y11.2.Id,y11.2.Cn,y11.2.Sn,y11.2.C,r17.1,y11.2.Tick,y11.2.Last,y11.2.Dead⟩:Ai)))
 (k16 (r14.2,y11.2))) λk12=>
 cond (r10.1)
 (ob (Hu r10.2 1) λr13=>
 k12 (r13.2,(⟨r9.Id,r9.Cn,r13.1.Sn,r13.1,r9.P,r9.Tick,r9.Last,r9.Dead⟩:Ai)))
 (k12 (r10.2,r9))
def Km(a0:Af):=
 ob (Ar a0 6) λr1=>
 let r2:Ap:=lE (iA .i64 1 r1.1)
 ob (Ar r1.2 6) λr3=>
 aA (λ(y4:Af×Ap)=>
 some (y4.2,y4.1)) λk5=>
 sA FU (λ(x6:Int×Af×Ap) k7=>
 cond (decide (x6.1>0))
 (ob (Fu x6.2.1) λr8=>
 ob (Bi x6.2.2 r8.1) λr9=>
 aA (λ(y10:Bool×Af)=>
 aA (λ(y13:Af×Ap)=>
 k7 ((qA .i64 x6.1 1),y13.1,y13.2)) λk14=>
 cond (y10.1)
 (ob (Ar y10.2 (r9.1.L.length:Int)) λr15=>
 cond (decide (0≤r15.1)&&decide (r15.1<(r9.1.L.length:Int))) (ob (r9.1.L[r15.1.toNat]?) λe16=>
 ob (Ch e16) λr17=>
 cond (decide (0≤r15.1)&&decide (r15.1<(r9.1.L.length:Int))) (ob (r9.1.L[r15.1.toNat]?) λe18=>
 k14 (r15.2,(⟨r9.1.Cap,List.set r9.1.L r15.1.toNat r17⟩:Ap))) none) none)
 (k14 (y10.2,r9.1))) λk11=>
 cond (decide ((r9.1.L.length:Int)>0))
 (ob (Bb r8.2 3) λr12=>
 k11 (r12.1,r12.2))
 (k11 (false,r8.2)))
 (k5 (x6.2.1,x6.2.2))) (r3.1,r3.2,r2)
def Kn(a0:Af)(a1:Int):=
 ob (Ar a0 (iA .i64 a1 1)) λr1=>
 aA (λ(y2:(List Al)×Af)=>
 some (y2.1,y2.2)) λk3=>
 sA FU (λ(x4:(List Al)×Int×Af) k5=>
 cond (decide (x4.2.1>0))
 (ob (Ar x4.2.2 10) λr6=>
 let r7:Ah:=vB r6.1
 ob (As r6.2 [0,1,34,60,999999,1000000]) λr8=>
 ob (Fg x4.1 r7 r8.1) λr9=>
 ob (As r8.2 [0,3,45,102,1000]) λr10=>
 ob (Do r9 r7 r10.1) λr11=>
 k5 (r11.1,(qA .i64 x4.2.1 1),r10.2))
 (k3 (x4.1,x4.2.2))) ([],r1.1,r1.2)
def Jk(a0:Af):=
 ob (Jj a0) λr1=>
 ob (Ay r1.2 8) λr2=>
 ob (Ar r2.2 4) λr3=>
 ob (KR r1.1 r2.1 (iA .i64 1 r3.1)) λr4=>
 ob (Km r3.2) λr5=>
 aA (λ(y6:Ac)=>
 ob (Kn r5.2 6) λr15=>
 ob (Ar r15.2 30) λr16=>
 some ((⟨y6.Psks,y6.J,(⟨y6.D.Seed,iA .i64 1 r16.1⟩:Au),y6.T,r15.1⟩:Ac),r16.2)) λk7=>
 sA FU (λ(x8:Int×Ac) k9=>
 cond (decide (x8.1<(r5.1.L.length:Int)))
 (cond (decide (0≤x8.1)&&decide (x8.1<(r5.1.L.length:Int))) (ob (r5.1.L[x8.1.toNat]?) λe10=>
 aA (λ(y11:Ac)=>
 k9 ((iA .i64 x8.1 1),y11)) λk12=>
 cond (decide (e10.Id≤(x8.2.Psks.length:Int)))
 (cond (decide (0≤x8.1)&&decide (x8.1<(r5.1.L.length:Int))) (ob (r5.1.L[x8.1.toNat]?) λe13=>
 ob (Bi x8.2.T e13) λr14=>
 k12 (⟨x8.2.Psks,x8.2.J,x8.2.D,r14.1,x8.2.Cr⟩:Ac)) none)
 (k12 x8.2)) none)
 (k7 x8.2)) (0,r4)
def Jl(a0:Af)(a1:List (List UInt8))(a2:List (List UInt8)):=
 ob (Bb a0 2) λr1=>
 cond (r1.1)
 (some (a1,r1.2))
 (some (a2,r1.2))
def Jm(a0:Af):=
 ob (Ay a0 12) λr1=>
 let r2:Ba:=eG r1.1
 ob (Bb r1.2 10) λr3=>
 aA (λ(y4:Af×Ba)=>
 some (y4.2,y4.1)) λk5=>
 cond (r3.1)
 (ob (As r3.2 [0,31,32]) λr6=>
 ob (Ay r6.2 r6.1) λr7=>
 k5 (r7.2,(⟨r7.1⟩:Ba)))
 (k5 (r3.2,r2))
def Jn(a0:Af):=
 ob (Kl a0) λr1=>
 aA (λ(y2:Bool×Af)=>
 cond (y2.1)
 (some (r1.1,y2.2))
 (ob (Ar y2.2 (r1.1.Cands.length:Int)) λr5=>
 ob (Ar r5.2 6) λr6=>
 aA (λ(y7:Af×Aj)=>
 some (y7.2,y7.1)) λk8=>
 cond (r6.1==0)
 (ob (Cl r6.2) λr9=>
 k8 (r9.2,(⟨r9.1,r1.1.Cands⟩:Aj)))
 (aA (λ(y10:Af×Aj)=>
 k8 (y10.1,y10.2)) λk11=>
 cond (r6.1==1)
 (ob (Cl r6.2) λr12=>
 cond (decide (0≤r5.1)&&decide (r5.1<(r1.1.Cands.length:Int))) (ob (r1.1.Cands[r5.1.toNat]?) λe13=>
 let l14:List Az:=List.set r1.1.Cands r5.1.toNat (⟨r12.1,e13.Draw,e13.Until⟩:Az)
 k11 (r12.2,(⟨r1.1.At,l14⟩:Aj))) none)
 (aA (λ(y15:Af×Aj)=>
 k11 (y15.1,y15.2)) λk16=>
 cond (r6.1==2)
 (ob (Ay r6.2 11) λr17=>
 cond (decide (0≤r5.1)&&decide (r5.1<(r1.1.Cands.length:Int))) (ob (r1.1.Cands[r5.1.toNat]?) λe18=>
 let l19:List Az:=List.set r1.1.Cands r5.1.toNat (⟨e18.A,r17.1,e18.Until⟩:Az)
 k16 (r17.2,(⟨r1.1.At,l19⟩:Aj))) none)
 (aA (λ(y20:Af×Aj)=>
 k16 (y20.1,y20.2)) λk21=>
 cond (r6.1==3)
 (ob (As r6.2 [(-1),1000006,1000007]) λr22=>
 cond (decide (0≤r5.1)&&decide (r5.1<(r1.1.Cands.length:Int))) (ob (r1.1.Cands[r5.1.toNat]?) λe23=>
 let l24:List Az:=List.set r1.1.Cands r5.1.toNat (⟨e23.A,e23.Draw,r22.1⟩:Az)
 k21 (r22.2,(⟨r1.1.At,l24⟩:Aj))) none)
 (aA (λ(y25:Aj)=>
 k21 (r6.2,y25)) λk26=>
 cond (r6.1==4)
 (cond (decide (0≤r5.1)&&decide (r5.1<(r1.1.Cands.length:Int))) (ob (r1.1.Cands[r5.1.toNat]?) λe27=>
 k26 (⟨e27.A,r1.1.Cands⟩:Aj)) none)
 (k26 r1.1))))))) λk3=>
 cond ((r1.1.Cands.length:Int)==0)
 (k3 (true,r1.2))
 (ob (Bb r1.2 2) λr4=>
 k3 (r4.1,r4.2))
def Jo(a0:Af):=
 ob (Fu a0) λr1=>
 ob (Ar r1.2 22) λr2=>
 aA (λ(y3:Af×Ai×Ai)=>
 some (y3.2.1,y3.1)) λk4=>
 cond (r2.1==0)
 (ob (As r2.2 [0,10]) λr5=>
 k4 (r5.2,(⟨r5.1,r1.1.Cn,r1.1.Sn,r1.1.C,r1.1.P,r1.1.Tick,r1.1.Last,r1.1.Dead⟩:Ai),(⟨0,[],[],(⟨0,[],(⟨0,[],0,(⟨0,[]⟩:Aq)⟩:Ax),(⟨0,[],0,(⟨0,[]⟩:Aq)⟩:Ax),false,0,[]⟩:Ak),(⟨(⟨0,0⟩:Ah),[]⟩:Aj),0,0,false⟩:Ai)))
 (aA (λ(y6:Af×Ai×Ai)=>
 k4 (y6.1,y6.2.1,y6.2.2)) λk7=>
 cond (r2.1==1)
 (ob (Ay r2.2 11) λr8=>
 k7 (r8.2,(⟨r1.1.Id,r8.1,r1.1.Sn,r1.1.C,r1.1.P,r1.1.Tick,r1.1.Last,r1.1.Dead⟩:Ai),(⟨0,[],[],(⟨0,[],(⟨0,[],0,(⟨0,[]⟩:Aq)⟩:Ax),(⟨0,[],0,(⟨0,[]⟩:Aq)⟩:Ax),false,0,[]⟩:Ak),(⟨(⟨0,0⟩:Ah),[]⟩:Aj),0,0,false⟩:Ai)))
 (aA (λ(y9:Af×Ai×Ai)=>
 k7 (y9.1,y9.2.1,y9.2.2)) λk10=>
 cond (r2.1==2)
 (ob (As r2.2 [11,12]) λr11=>
 ob (Ay r11.2 r11.1) λr12=>
 k10 (r12.2,(⟨r1.1.Id,r1.1.Cn,r12.1,r1.1.C,r1.1.P,r1.1.Tick,r1.1.Last,r1.1.Dead⟩:Ai),(⟨0,[],[],(⟨0,[],(⟨0,[],0,(⟨0,[]⟩:Aq)⟩:Ax),(⟨0,[],0,(⟨0,[]⟩:Aq)⟩:Ax),false,0,[]⟩:Ak),(⟨(⟨0,0⟩:Ah),[]⟩:Aj),0,0,false⟩:Ai)))
 (aA (λ(y13:Af×Ai×Ai)=>
 k10 (y13.1,y13.2.1,y13.2.2)) λk14=>
 cond (r2.1==3)
 (ob (Kg r2.2) λr15=>
 k14 (r15.2,(⟨r1.1.Id,r1.1.Cn,r1.1.Sn,r15.1,r1.1.P,r1.1.Tick,r1.1.Last,r1.1.Dead⟩:Ai),(⟨0,[],[],(⟨0,[],(⟨0,[],0,(⟨0,[]⟩:Aq)⟩:Ax),(⟨0,[],0,(⟨0,[]⟩:Aq)⟩:Ax),false,0,[]⟩:Ak),(⟨(⟨0,0⟩:Ah),[]⟩:Aj),0,0,false⟩:Ai)))
 (aA (λ(y16:Af×Ai×Ai)=>
 k14 (y16.1,y16.2.1,y16.2.2)) λk17=>
 cond (r2.1==4)
 (ob (Jn r2.2) λr18=>
 k17 (r18.2,(⟨r1.1.Id,r1.1.Cn,r1.1.Sn,r1.1.C,r18.1,r1.1.Tick,r1.1.Last,r1.1.Dead⟩:Ai),(⟨0,[],[],(⟨0,[],(⟨0,[],0,(⟨0,[]⟩:Aq)⟩:Ax),(⟨0,[],0,(⟨0,[]⟩:Aq)⟩:Ax),false,0,[]⟩:Ak),(⟨(⟨0,0⟩:Ah),[]⟩:Aj),0,0,false⟩:Ai)))
 (aA (λ(y19:Af×Ai×Ai)=>
 k17 (y19.1,y19.2.1,y19.2.2)) λk20=>
 cond (r2.1==5)
 (ob (As r2.2 [(-1),1000001]) λr21=>
 k20 (r21.2,(⟨r1.1.Id,r1.1.Cn,r1.1.Sn,r1.1.C,r1.1.P,r21.1,r1.1.Last,r1.1.Dead⟩:Ai),(⟨0,[],[],(⟨0,[],(⟨0,[],0,(⟨0,[]⟩:Aq)⟩:Ax),(⟨0,[],0,(⟨0,[]⟩:Aq)⟩:Ax),false,0,[]⟩:Ak),(⟨(⟨0,0⟩:Ah),[]⟩:Aj),0,0,false⟩:Ai)))
 (aA (λ(y22:Af×Ai×Ai)=>
 k20 (y22.1,y22.2.1,y22.2.2)) λk23=>
 cond (r2.1==6)
 (ob (As r2.2 [(-1),1000001]) λr24=>
 k23 (r24.2,(⟨r1.1.Id,r1.1.Cn,r1.1.Sn,r1.1.C,r1.1.P,r1.1.Tick,r24.1,r1.1.Dead⟩:Ai),(⟨0,[],[],(⟨0,[],(⟨0,[],0,(⟨0,[]⟩:Aq)⟩:Ax),(⟨0,[],0,(⟨0,[]⟩:Aq)⟩:Ax),false,0,[]⟩:Ak),(⟨(⟨0,0⟩:Ah),[]⟩:Aj),0,0,false⟩:Ai)))
 (aA (λ(y25:Ai×Ai)=>
 k23 (r2.2,y25.1,y25.2)) λk26=>
 cond (r2.1==7)
 (k26 ((⟨r1.1.Id,r1.1.Cn,r1.1.Sn,r1.1.C,r1.1.P,r1.1.Tick,r1.1.Last,true⟩:Ai),(⟨0,[],[],(⟨0,[],(⟨0,[],0,(⟨0,[]⟩:Aq)⟩:Ax),(⟨0,[],0,(⟨0,[]⟩:Aq)⟩:Ax),false,0,[]⟩:Ak),(⟨(⟨0,0⟩:Ah),[]⟩:Aj),0,0,false⟩:Ai)))
 (aA (λy27=>
 cond (y27)
 (ob (Ch r1.1) λr29=>
 some (r29,r2.2))
 (k26 (r1.1,(⟨0,[],[],(⟨0,[],(⟨0,[],0,(⟨0,[]⟩:Aq)⟩:Ax),(⟨0,[],0,(⟨0,[]⟩:Aq)⟩:Ax),false,0,[]⟩:Ak),(⟨(⟨0,0⟩:Ah),[]⟩:Aj),0,0,false⟩:Ai)))) λk28=>
 cond (r2.1==8)
 (k28 (r2.1==8))
 (k28 (r2.1==9))))))))))
def Jp(a0:Af):=
 ob (Km a0) λr1=>
 ob (Ar r1.2 12) λr2=>
 aA (λ(y3:Af×Ap)=>
 some (y3.2,y3.1)) λk4=>
 cond (r2.1==0)
 (ob (As r2.2 [0,1,7]) λr5=>
 k4 (r5.2,(⟨r5.1,r1.1.L⟩:Ap)))
 (aA (λ(y6:Af×Ap)=>
 k4 (y6.1,y6.2)) λk7=>
 cond (r2.1==1)
 (ob (Jo r2.2) λr8=>
 cond (decide (r1.1.L.length+[r8.1].length≤bA)) (k7 (r8.2,(⟨r1.1.Cap,r1.1.L++[r8.1]⟩:Ap))) none)
 (aA (λ(y9:Ap×Af)=>
 k7 (y9.2,y9.1)) λk10=>
 cond (r2.1==2)
 (aA (λ(y11:Ap)=>
 k10 (y11,r2.2)) λk12=>
 cond (decide ((r1.1.L.length:Int)>1))
 (cond (decide (0≤(0:Int))&&decide ((0:Int)<(r1.1.L.length:Int))) (ob (r1.1.L[0]?) λe13=>
 cond (decide (0≤(1:Int))&&decide ((1:Int)<(r1.1.L.length:Int))) (ob (r1.1.L[1]?) λe14=>
 let l15:List Ai:=List.set r1.1.L 1 (⟨e14.Id,e14.Cn,e13.Sn,e14.C,e14.P,e14.Tick,e14.Last,e14.Dead⟩:Ai)
 k12 (⟨r1.1.Cap,l15⟩:Ap)) none) none)
 (k12 r1.1))
 (aA (λ(y16:Af×Ap)=>
 k10 (y16.2,y16.1)) λk17=>
 cond (r2.1==3)
 (ob (Fu r2.2) λr18=>
 ob (Ch r18.1) λr19=>
 ob (As r18.2 [9,12,13]) λr20=>
 aA (λ(y21:Af×Ai×Ap)=>
 k17 (y21.1,y21.2.2)) λk22=>
 sA FU (λ(x23:Int×Af×Ai×Ap) k24=>
 cond (decide (x23.1>(x23.2.2.2.L.length:Int)))
 (ob (Ay x23.2.1 12) λr25=>
 let x26:List Ai:=[(⟨x23.2.2.1.Id,x23.2.2.1.Cn,r25.1,x23.2.2.1.C,x23.2.2.1.P,x23.2.2.1.Tick,x23.2.2.1.Last,x23.2.2.1.Dead⟩:Ai)]
 cond (decide (x23.2.2.2.L.length+x26.length≤bA)) (k24 ((qA .i64 x23.1 1),r25.2,(⟨x23.2.2.1.Id,x23.2.2.1.Cn,r25.1,x23.2.2.1.C,x23.2.2.1.P,x23.2.2.1.Tick,x23.2.2.1.Last,x23.2.2.1.Dead⟩:Ai),(⟨x23.2.2.2.Cap,x23.2.2.2.L++x26⟩:Ap))) none)
 (k22 (x23.2.1,x23.2.2.1,x23.2.2.2))) (r20.1,r20.2,r19,r1.1))
 (k17 (r2.2,r1.1)))))
def Jq(a0:Af):=
 ob (Kn a0 14) λr1=>
 cond ((r1.1.length:Int)==0)
 (some (r1.1,r1.2))
 (ob (Ar r1.2 (r1.1.length:Int)) λr2=>
 ob (Ar r2.2 10) λr3=>
 aA (λ(y4:(List Al)×Af)=>
 some (y4.1,y4.2)) λk5=>
 cond (r3.1==0)
 (ob (Cl r3.2) λr6=>
 cond (decide (0≤r2.1)&&decide (r2.1<(r1.1.length:Int))) (ob (r1.1[r2.1.toNat]?) λe7=>
 let l8:List Al:=List.set r1.1 r2.1.toNat (⟨r6.1,e7.Got,e7.Sent⟩:Al)
 k5 (l8,r6.2)) none)
 (aA (λ(y9:(List Al)×Af)=>
 k5 (y9.1,y9.2)) λk10=>
 cond (r3.1==1)
 (ob (As r3.2 [(-1),0,1000001]) λr11=>
 cond (decide (0≤r2.1)&&decide (r2.1<(r1.1.length:Int))) (ob (r1.1[r2.1.toNat]?) λe12=>
 let l13:List Al:=List.set r1.1 r2.1.toNat (⟨e12.A,r11.1,e12.Sent⟩:Al)
 k10 (l13,r11.2)) none)
 (aA (λ(y14:(List Al)×Af)=>
 k10 (y14.1,y14.2)) λk15=>
 cond (r3.1==2)
 (cond (decide (0≤r2.1)&&decide (r2.1<(r1.1.length:Int))) (ob (r1.1[r2.1.toNat]?) λe16=>
 ob (As r3.2 [(-1),0,iA .i64 (XB .i64 3 e16.Got) 1]) λr17=>
 cond (decide (0≤r2.1)&&decide (r2.1<(r1.1.length:Int))) (ob (r1.1[r2.1.toNat]?) λe18=>
 let l19:List Al:=List.set r1.1 r2.1.toNat (⟨e18.A,e18.Got,r17.1⟩:Al)
 k15 (l19,r17.2)) none) none)
 (aA (λ(y20:(List Al))=>
 k15 (y20,r3.2)) λk21=>
 cond (r3.1==3)
 (cond (decide (0≤r2.1)&&decide (r2.1<(r1.1.length:Int))) (ob (r1.1[r2.1.toNat]?) λe22=>
 cond (decide (r1.1.length+[e22].length≤bA)) (k21 (r1.1++[e22])) none) none)
 (k21 r1.1)))))
def Jr(a0:Af):=
 ob (Jk a0) λr1=>
 ob (Ar r1.2 16) λr2=>
 aA (λ(y3:Af×Ac)=>
 some (y3.2,y3.1)) λk4=>
 cond (r2.1==0)
 (ob (Jl r2.2 [[],[UInt8.ofNat (1:Int).toNat]] r1.1.Psks) λr5=>
 k4 (r5.2,(⟨r5.1,r1.1.J,r1.1.D,r1.1.T,r1.1.Cr⟩:Ac)))
 (aA (λ(y6:Af×Ac)=>
 k4 (y6.1,y6.2)) λk7=>
 cond (r2.1==1)
 (ob (Jm r2.2) λr8=>
 k7 (r8.2,(⟨r1.1.Psks,r8.1,r1.1.D,r1.1.T,r1.1.Cr⟩:Ac)))
 (aA (λ(y9:Af×Ac)=>
 k7 (y9.1,y9.2)) λk10=>
 cond (r2.1==2)
 (ob (As r2.2 [(-1),9999,10000,10001]) λr11=>
 k10 (r11.2,(⟨r1.1.Psks,r1.1.J,(⟨r1.1.D.Seed,r11.1⟩:Au),r1.1.T,r1.1.Cr⟩:Ac)))
 (aA (λ(y12:Af×Ac)=>
 k10 (y12.1,y12.2)) λk13=>
 cond (r2.1==3)
 (ob (Jp r2.2) λr14=>
 k13 (r14.2,(⟨r1.1.Psks,r1.1.J,r1.1.D,r14.1,r1.1.Cr⟩:Ac)))
 (aA (λ(y15:Af×Ac)=>
 k13 (y15.1,y15.2)) λk16=>
 cond (r2.1==4)
 (ob (Jq r2.2) λr17=>
 k16 (r17.2,(⟨r1.1.Psks,r1.1.J,r1.1.D,r1.1.T,r17.1⟩:Ac)))
 (aA (λ(y18:Ac×Af)=>
 k16 (y18.2,y18.1)) λk19=>
 cond (r2.1==5)
 (cond (decide (r1.1.Psks.length+([[]]:List (List UInt8)).length≤bA)) (k19 ((⟨r1.1.Psks++[[]],r1.1.J,r1.1.D,r1.1.T,r1.1.Cr⟩:Ac),r2.2)) none)
 (aA (λ(y20:Af×Ac)=>
 k19 (y20.2,y20.1)) λk21=>
 cond (r2.1==6)
 (ob (Fu r2.2) λr22=>
 ob (Ch r22.1) λr23=>
 cond (decide (r1.1.T.L.length+[r23].length≤bA)) (k21 (r22.2,(⟨r1.1.Psks,r1.1.J,r1.1.D,(⟨r1.1.T.Cap,r1.1.T.L++[r23]⟩:Ap),r1.1.Cr⟩:Ac))) none)
 (k21 (r2.2,r1.1))))))))
def Js(a0:Af):=
 ob (Ar a0 32) λr1=>
 ob (Ay r1.2 (iA .i64 1 r1.1)) λr2=>
 ob (Ar r2.2 40) λr3=>
 some ((⟨r2.1,r3.1⟩:Au),r3.2)
def Jt(a0:Af):=
 ob (Js a0) λr1=>
 ob (Ar r1.2 5) λr2=>
 aA (λ(y3:Af×Au)=>
 some (y3.2,y3.1)) λk4=>
 cond (r2.1==0)
 (ob (As r2.2 [(-1),9999,10000,10001]) λr5=>
 k4 (r5.2,(⟨r1.1.Seed,r5.1⟩:Au)))
 (aA (λ(y6:Af×Au)=>
 k4 (y6.1,y6.2)) λk7=>
 cond (r2.1==1)
 (ob (As r2.2 [0,33,1]) λr8=>
 ob (Ay r8.2 r8.1) λr9=>
 k7 (r9.2,(⟨r9.1,r1.1.N⟩:Au)))
 (k7 (r2.2,r1.1)))
def Ju(a0:Af):=
 ob (Bb a0 3) λr1=>
 cond (r1.1)
 (ob (Ar r1.2 3) λr2=>
 let r3:Ah:=vB r2.1
 ob (Ar r2.2 3) λr4=>
 let r5:Ah:=vB r4.1
 ob (As r4.2 [0,5,45,200]) λr6=>
 ob (Ay r6.2 r6.1) λr7=>
 some ((⟨r3,r5,r7.1⟩:Am),r7.2))
 (ob (Ar r1.2 3) λr8=>
 let r9:Ah:=vB r8.1
 ob (Ar r8.2 3) λr10=>
 let r11:Ah:=vB r10.1
 ob (Kj r10.2) λr12=>
 ob (Ec r9 r11 r12.1) λr13=>
 some (r13,r12.2))
def Jv(a0:Af):=
 ob (Ju a0) λr1=>
 ob (Ar r1.2 8) λr2=>
 aA (λ(y3:Af×Am)=>
 some (y3.2,y3.1)) λk4=>
 cond (r2.1==0)
 (ob (Cl r2.2) λr5=>
 k4 (r5.2,(⟨r5.1,r1.1.To,r1.1.B⟩:Am)))
 (aA (λ(y6:Af×Am)=>
 k4 (y6.1,y6.2)) λk7=>
 cond (r2.1==1)
 (ob (Cl r2.2) λr8=>
 k7 (r8.2,(⟨r1.1.From,r8.1,r1.1.B⟩:Am)))
 (aA (λ(y9:Af×Am)=>
 k7 (y9.1,y9.2)) λk10=>
 cond (r2.1==2)
 (ob (Ay r2.2 201) λr11=>
 k10 (r11.2,(⟨r1.1.From,r1.1.To,r11.1⟩:Am)))
 (k10 (r2.2,r1.1))))
def Jw(a0:Af)(a1:Int):=
 ob (Hr a0 a1) λr1=>
 ob (Ar r1.2 30) λr2=>
 aA (λ(y3:Af×Aa)=>
 some (y3.2,y3.1)) λk4=>
 cond (r2.1==0)
 (ob (As r2.2 [(-1),1000000,1000001,999999]) λr5=>
 k4 (r5.2,(⟨r5.1,r1.1.Clients,r1.1.S,r1.1.D,r1.1.Seen,r1.1.Known,r1.1.Notes⟩:Aa)))
 (aA (λ(y6:Af×Aa)=>
 k4 (y6.1,y6.2)) λk7=>
 cond (r2.1==1)
 (ob (Ar r2.2 2) λr8=>
 ob (Ji r8.2) λr9=>
 cond (decide (0≤r8.1)&&decide (r8.1<(r1.1.Clients.length:Int))) (ob (r1.1.Clients[r8.1.toNat]?) λe10=>
 k7 (r9.2,(⟨r1.1.Now,List.set r1.1.Clients r8.1.toNat r9.1,r1.1.S,r1.1.D,r1.1.Seen,r1.1.Known,r1.1.Notes⟩:Aa))) none)
 (aA (λ(y11:Af×Aa)=>
 k7 (y11.1,y11.2)) λk12=>
 cond (r2.1==2)
 (ob (Ar r2.2 2) λr13=>
 cond (decide (0≤(0:Int))&&decide ((0:Int)≤r13.1)&&decide (r13.1≤(r1.1.Clients.length:Int))) (k12 (r13.2,(⟨r1.1.Now,List.take ((r13.1 - 0).toNat) r1.1.Clients,r1.1.S,r1.1.D,r1.1.Seen,r1.1.Known,r1.1.Notes⟩:Aa))) none)
 (aA (λ(y14:Af×Aa)=>
 k12 (y14.1,y14.2)) λk15=>
 cond (r2.1==3)
 (ob (Jr r2.2) λr16=>
 k15 (r16.2,(⟨r1.1.Now,r1.1.Clients,r16.1,r1.1.D,r1.1.Seen,r1.1.Known,r1.1.Notes⟩:Aa)))
 (aA (λ(y17:Af×Aa)=>
 k15 (y17.1,y17.2)) λk18=>
 cond (r2.1==4)
 (ob (Jt r2.2) λr19=>
 k18 (r19.2,(⟨r1.1.Now,r1.1.Clients,r1.1.S,r19.1,r1.1.Seen,r1.1.Known,r1.1.Notes⟩:Aa)))
 (aA (λ(y20:Af×Aa)=>
 k18 (y20.1,y20.2)) λk21=>
 cond (r2.1==5)
 (ob (Jv r2.2) λr22=>
 cond (decide (r1.1.Seen.length+[r22.1].length≤bA)) (k21 (r22.2,(⟨r1.1.Now,r1.1.Clients,r1.1.S,r1.1.D,r1.1.Seen++[r22.1],r1.1.Known,r1.1.Notes⟩:Aa))) none)
 (aA (λ(y23:Af×Aa)=>
 k21 (y23.1,y23.2)) λk24=>
 cond (r2.1==6)
 (ob (As r2.2 [31,32]) λr25=>
 ob (Ay r25.2 r25.1) λr26=>
 cond (decide (r1.1.Known.length+[r26.1].length≤bA)) (k24 (r26.2,(⟨r1.1.Now,r1.1.Clients,r1.1.S,r1.1.D,r1.1.Seen,r1.1.Known++[r26.1],r1.1.Notes⟩:Aa))) none)
 (aA (λ(y27:Af×Aa)=>
 k24 (y27.1,y27.2)) λk28=>
 cond (r2.1==7)
 (ob (Ja r2.2) λr29=>
 cond (decide (r1.1.Notes.length+[r29.1].length≤bA)) (k28 (r29.2,(⟨r1.1.Now,r1.1.Clients,r1.1.S,r1.1.D,r1.1.Seen,r1.1.Known,r1.1.Notes++[r29.1]⟩:Aa))) none)
 (aA (λ(y30:Aa)=>
 k28 (r2.2,y30)) λk31=>
 cond (r2.1==8)
 (cond (decide (0≤(0:Int))&&decide ((0:Int)<(r1.1.Clients.length:Int))) (ob (r1.1.Clients[0]?) λe32=>
 let l33:List Ad:=List.set r1.1.Clients 0 (⟨2,e32.Psk,e32.At,e32.St,e32.Cn,e32.Fin,e32.C,e32.T,e32.R,e32.Last⟩:Ad)
 k31 (⟨r1.1.Now,l33,r1.1.S,r1.1.D,r1.1.Seen,r1.1.Known,r1.1.Notes⟩:Aa)) none)
 (aA (λ(y34:Aa)=>
 k31 y34) λk35=>
 cond (r2.1==9)
 (cond (decide (0≤(0:Int))&&decide ((0:Int)<(r1.1.Clients.length:Int))) (ob (r1.1.Clients[0]?) λe36=>
 let l37:List Ad:=List.set r1.1.Clients 0 (⟨e36.Id,[UInt8.ofNat (1:Int).toNat],e36.At,e36.St,e36.Cn,e36.Fin,e36.C,e36.T,e36.R,e36.Last⟩:Ad)
 k35 (⟨r1.1.Now,l37,r1.1.S,r1.1.D,r1.1.Seen,r1.1.Known,r1.1.Notes⟩:Aa)) none)
 (k35 r1.1))))))))))
end
end Go.D
namespace Go.D
end Go.D
namespace Go.D
def zwN(i:Int):0≤(vB i).Host∧(vB i).Host≤4294967295∧0≤(vB i).Port∧(vB i).Port≤65535:=by
 unfold vB;split
 ·simp only;omega
 ·simp only;omega
def zrN{p:List (List UInt8)}{s:List UInt8}{m:Int}(h:wt p+wt s+1000≤bA):Ok (KR p s m) λr=>wt r≤wt p+wt s+32:=kF h (by
 unfold dO;cases LB (IC p s m)
 ·rw[cond_false];exact Nat.zero_le _
 ·rw[cond_true];exact zbO p s m)
def zxk{c:Af}{l:List Int}(h:lA c)(hl:l≠[]):Ok (As c l) λr=>lA r.2:=(zgG h hl).mono λr hr=>hr.2
end Go.D
namespace Go.D
def zh9{a0}(ha:lA a0):Ok (Kh a0) λr=>wt r.1≤60∧lA r.2:=by
 unfold Kh;refine .b (HB ?_ ?_) λr1 PV=> .b (HB ?_ ?_) λr2 dW=> .b (NA ?_) λr3 pW=> .b (HB ?_ ?_) λr4 WV=> .s ?_
 all_goals (try simp only[NB]at *)<;>omega
def ziG{a0 a1}(ha:lA a0):Ok (Ki a0 a1) λr=>lA r.2:=by
 unfold Ki
 refine .b nN λr1 _=> .b (NA ?_) λr2 dW=> .jt (λy3=> .s ?_)
  λk4 UV=> .l (λx5:Int×Aw=>0≤x5.1∧x5.1≤6) (λx5:Int×Aw=>x5.1.toNat) (λx5 s9 k6 JW=> .c (λh1=> .b KT λr7 _=>JW _ ?_ ?_)
  λ_=>UV _) ?_ ?_
 all_goals (try simp only[NB]at *)<;>(try simp(disch:=omega) only[AA,IA]at *)<;>omega
set_option maxHeartbeats 4000000 in
theorem zp7{a0}(ha:lA a0):Ok (Jg a0) λr=>wt r.1≤20000∧lA r.2:=by
 (try simp only[N]at ha);have hL:=CB
 unfold Jg;refine Ok.bind (NA ?_) (λr1 PV=>?_)
 ·(try simp only[N]);omega
 (try simp only[N]at PV);refine Ok.bind (NA ?_) (λr2 dW=>?_)
 ·(try simp only[N]);omega
 (try simp only[N]at dW);refine Ok.bind (HB ?_ ?_) (λr3 pW=>?_)
 iterate 2 (·(try have:=AA (a:=1) (b:=r2.1) (by omega) (by omega));(try simp only[N]);omega)
 (try simp only[N]at pW);have M5:=AA (a:=1) (b:=r2.1) (by omega) (by omega);(try simp only[N]at M5);refine Ok.bind (NA ?_) (λr4 WV=>?_)
 ·(try simp only[N]);omega
 (try simp only[N]at WV);have hnr:=zwN (iA .i64 1 r4.1);(try simp only[N]at hnr);refine Ok.bind (zi9 ?_ ?_ ?_ ?_) (λr6 xW=>?_)
 iterate 4 (·(try have:=AA (a:=1) (b:=r4.1) (by omega) (by omega));(try have:=AA (a:=1) (b:=r1.1) (by omega) (by omega));(try simp only[N]);omega)
 (try simp only[N]at xW);refine Ok.bind (aB (0) (3) ?_ (by simp) (by decide)) (λr7 MW=>?_)
 ·(try simp only[N]);omega
 (try simp only[N]at MW);refine Ok.cond' (λh1=>?_) (λh1=>?_)
 ·(try simp only[B]at h1);refine Ok.some' ?_;(try simp only[N]);omega
 (try simp only[B]at h1);refine Ok.bind (aB (0) (90) ?_ (by simp) (by decide)) (λr8 zW=>?_)
 ·(try simp only[N]);omega
 (try simp only[N]at zW);refine Ok.bind (HB ?_ ?_) (λr9 UW=>?_)
 iterate 2 (·(try simp only[N]);omega)
 (try simp only[N]at UW);refine Ok.bind (zjy ?_ ?_) (λr10 sW=>?_)
 iterate 2 (·(try simp only[N]);omega)
 (try simp only[N]at sW);refine Ok.bind (NA ?_) (λr11 AW=>?_)
 ·(try simp only[N]);omega
 (try simp only[N]at AW);refine Ok.bind (KT) (λr12 BW=>?_);refine Ok.cond' (λh2=>?_) (λh2=>?_)
 ·(try simp only[B]at h2);refine Ok.some' ?_;(try simp only[N]);omega
 (try simp only[B]at h2);refine Ok.bind (zh9 ?_) (λr13 iX=>?_)
 ·(try simp only[N]);omega
 (try simp only[N]at iX);refine Ok.bind (zeF ?_ ?_) (λr14 qX=>?_)
 iterate 2 (·(try simp only[N]);omega)
 (try simp only[N]at qX);refine Ok.cond' (λh3=>?_) (λh3=>?_)
 ·(try simp only [B] at h3);refine Ok.bind (NA ?_) (fun r15 SW=>?_)
  ·(try simp only[N]);omega
  (try simp only[N]at SW);refine Ok.join (λy16:Ad=>wt y16≤10000) (λy16 vY=>?_) (λk17 nW=>?_)
  ·(try simp only[N]at vY);refine Ok.join (λy21:Ad=>wt y21≤10000) (λy21 D1=>?_) (λk22 XW=>?_)
   ·(try simp only[N]at D1);refine Ok.some' ?_;(try simp only[N]);omega
   refine Ok.condR (λh4=>?_) (λh4=>?_)
   ·(try simp only[B]at h4);refine XW _ ?_;(try simp only[N]);omega
   (try simp only[B]at h4);refine Ok.bind (nN) (λr23 gZ=>?_);refine XW _ ?_;(try simp only[N]);omega
  refine Ok.loopR (λx18:Int×Ad=>0≤x18.1∧x18.1≤5∧wt x18.2≤10000) (λx18=>x18.1.toNat) ?_ ?_ (λx18 K7 k19 CW=>?_)
  iterate 2 (·(try simp only[N]);omega)
  (try simp only[N]at K7);refine Ok.condR (λh5=>?_) (λh5=>?_)
  ·(try simp only[B]at h5);refine nW _ ?_;(try simp only[N]);omega
  (try simp only[B]at h5);refine Ok.bind (KT) (λr20 IY=>?_);refine CW _ ?_ ?_
  iterate 2 (·(try have:=IA (a:=x18.1) (b:=1) (by omega) (by omega));(try simp only[N]);omega)
 (try simp only[B]at h3);refine Ok.bind (zaL) (λr24 yX=>?_);(try simp only[N]at yX);refine Ok.bind (zfq ?_ ?_ ?_) (λr25 zX=>?_)
 iterate 3 (·(try simp only[N]);omega)
 obtain⟨zX,hr25i⟩:=zX;(try simp only[N]at zX);refine Ok.bind (zeF ?_ ?_) (λr26 KX=>?_)
 iterate 2 (·(try simp only[N]);omega)
 (try simp only[N]at KX);refine Ok.bind (sE ?_) (λr27 xY=>?_)
 ·(try simp only[N]);omega
 (try simp only[N]at xY);refine Ok.join (λy28:Af×Ad=>lA y28.1∧wt y28.2≤20000) (λy28 C5=>?_) (λk29 jY=>?_)
 ·(try simp only[N]at C5);refine Ok.some' ?_;(try simp only[N]);omega
 refine Ok.condR (λh6=>?_) (λh6=>?_)
 ·(try simp only[B]at h6);refine jY _ ?_;(try simp only[N]);omega
 (try simp only[B]at h6);refine Ok.bind (ze1 ?_) (λr30 C0=>?_)
 ·(try simp only[N]);omega
 (try simp only[N]at C0);refine Ok.join (λy31:Af×Ad=>lA y31.1∧wt y31.2≤20000) (λy31 B5=>?_) (λk32 wY=>?_)
 ·(try simp only[N]at B5);refine jY _ ?_;(try simp only[N]);omega
 refine Ok.condR (λh7=>?_) (λh7=>?_)
 ·(try simp only[B]at h7);refine wY _ ?_;(try simp only[N]);omega
 (try simp only[B]at h7);refine Ok.bind (ziG ?_) (λr33 F5=>?_)
 ·(try simp only[N]);omega
 (try simp only[N]at F5);refine Ok.join (λy34:Ad=>wt y34≤10000) (λy34 z3=>?_) (λk35 kY=>?_)
 ·(try simp only[N]at z3);refine wY _ ?_;(try simp only[N]);omega
 refine Ok.condR (λh8=>?_) (λh8=>?_)
 ·(try simp only[B]at h8);refine kY _ ?_;(try simp only[N]);omega
 (try simp only[B]at h8);refine Ok.bind (nN) (λr36 o3=>?_);refine kY _ ?_;(try simp only[N]);omega
def ziS{a0}(ha:lA a0):Ok (Kj a0) λr=>wt r.1≤200∧lA r.2:=by
 unfold Kj
 refine .b (NA ?_) λr1 PV=> .j (λy2:Af×Ab=>lA y2.1∧wt y2.2≤200) (λy2 wW=> .s ?_)
  λk3 LV=> .c (λh1=> .b (NA ?_) λr4 WV=> .b (HB ?_ ?_) λr5 TV=>LV _ ?_)
  λh1=> .jt (λy6=> .j (λy8:Af×Ab=>lA y8.1∧wt y8.2≤200) (λy8 o7=>LV _ ?_)
  λk9 nX=> .c (λh2=> .b (HB ?_ ?_) λr10 sW=> .b (HB ?_ ?_) λr11 AW=> .b (aB (0) (1000000) ?_ (by simp) (by decide)) λr12 BW=> .b (HB ?_ ?_) λr13 iX=> .j (λy14:Af×Ab=>lA y14.1∧wt y14.2≤200) (λy14 z0=>nX _ ?_)
  λk15 HW=> .c (λh3=> .b (NA ?_) λr16 fX=> .b (HB ?_ ?_) λr17 aY=>HW _ ?_)
  λh3=>HW _ ?_)
  λh2=> .b (HB ?_ ?_) λr18 bY=> .b (aB (0) (4294967295) ?_ (by simp) (by decide)) λr19 HX=> .b (aB (0) (281474976710655) ?_ (by simp) (by decide)) λr20 IY=> .b (HB ?_ ?_) λr21 zZ=> .b (aB (0) (40) ?_ (by simp) (by decide)) λr22 jX=> .jt (λy23=> .j (λy25:Int=>0≤y25∧y25≤40) (λy25 A3=> .j (λy27:Int=>0≤y27∧y27≤40) (λy27 v5=> .b (HB ?_ ?_) λr29 BZ=>nX _ ?_)
  λk28 eX=> .c (λh4=>eX _ ?_)
  λh4=>eX _ ?_)
  λk26 lY=> .c (λh5=>lY _ ?_)
  λh5=>lY _ ?_)
  λk24 cW=> .c (λ_=>cW _)
  λ_=>cW _)
  λk7 VV=> .c (λ_=>VV _)
  λ_=>VV _
 all_goals (try simp only[NB]at *)<;>(try simp(disch:=omega) only[AA,IA]at *)<;>omega
def zrg{a0}(ha:lA a0):Ok (Jh a0) λr=>wt r.1≤500∧lA r.2:=by
 unfold Jh
 refine .b (ziS ?_) λr1 PV=> .b (NA ?_) λr2 dW=> .j (λy3:Af×Ab=>lA y3.1∧wt y3.2≤500) (λy3 QY=> .s ?_)
  λk4 UV=> .c (λh1=> .b (NA ?_) λr5 TV=>UV _ ?_)
  λh1=> .j (λy6:Af×Ab=>lA y6.1∧wt y6.2≤500) (λy6 AX=>UV _ ?_)
  λk7 VV=> .c (λh2=> .b (aB (-1) (10) ?_ (by simp) (by decide)) λr8 zW=>VV _ ?_)
  λh2=> .j (λy9:Af×Ab=>lA y9.1∧wt y9.2≤500) (λy9 WY=>VV _ ?_)
  λk10 SV=> .c (λh3=> .b (aB (0) (13) ?_ (by simp) (by decide)) λr11 AW=> .b (HB ?_ ?_) λr12 BW=>SV _ ?_)
  λh3=> .j (λy13:Af×Ab=>lA y13.1∧wt y13.2≤500) (λy13 kX=>SV _ ?_)
  λk14 RV=> .c (λh4=> .b (aB (0) (13) ?_ (by simp) (by decide)) λr15 SW=> .b (HB ?_ ?_) λr16 fX=>RV _ ?_)
  λh4=> .j (λy17:Af×Ab=>lA y17.1∧wt y17.2≤500) (λy17 iZ=>RV _ ?_)
  λk18 IW=> .c (λh5=> .b (aB (-1) (1000001) ?_ (by simp) (by decide)) λr19 HX=>IW _ ?_)
  λh5=> .j (λy20:Af×Ab=>lA y20.1∧wt y20.2≤500) (λy20 JY=>IW _ ?_)
  λk21 oW=> .c (λh6=> .b (aB (0) (16) ?_ (by simp) (by decide)) λr22 jX=> .b (HB ?_ ?_) λr23 gZ=>oW _ ?_)
  λh6=> .j (λy24:Af×Ab=>lA y24.1∧wt y24.2≤500) (λy24 hy24=>oW _ ?_)
  λk25 E8=> .c (λh7=> .b (aB (0) (16) ?_ (by simp) (by decide)) λr26 KX=> .b (HB ?_ ?_) λr27 xY=>E8 _ ?_)
  λh7=> .j (λy28:Af×Ab=>lA y28.1∧wt y28.2≤500) (λy28 C5=>E8 _ ?_)
  λk29 jY=> .c (λh8=> .b (aB (-1) (4294967296) ?_ (by simp) (by decide)) λr30 C0=>jY _ ?_)
  λh8=> .j (λy31:Af×Ab=>lA y31.1∧wt y31.2≤500) (λy31 B5=>jY _ ?_)
  λk32 wY=> .c (λh9=> .b (aB (-1) (281474976710656) ?_ (by simp) (by decide)) λr33 F5=>wY _ ?_)
  λh9=> .j (λy34:Af×Ab=>lA y34.1∧wt y34.2≤500) (λy34 z3=>wY _ ?_)
  λk35 kY=> .c (λvW=> .b (aB (0) (41) ?_ (by simp) (by decide)) λr36 o3=> .b (HB ?_ ?_) λr37 s5=>kY _ ?_)
  λvW=> .j (λy38:Af×Ab=>lA y38.1∧wt y38.2≤500) (λy38 D5=>kY _ ?_)
  λk39 eZ=> .c (λLW=> .b (aB (0) (17) ?_ (by simp) (by decide)) λr40 hr40=> .b (HB ?_ ?_) λr41 F1=>eZ _ ?_)
  λLW=>eZ _ ?_
 all_goals (try simp only[NB]at *)<;>(try simp(disch:=omega) only[AA,IA]at *)<;>omega
def ziQ{a0}(ha:lA a0):Ok (Kk a0) λr=>lA r.2:=by
 unfold Kk
 refine .b (aB (0) (1000000) ?_ (by simp) (by decide)) λr1 PV=> .b (ziG ?_) λr2 dW=> .b (NA ?_) λr3 pW=> .j (λy4:Af×Aw=>lA y4.1) (λy4 rY=> .s ?_)
  λk5 iW=> .c (λh1=> .b (aB (-1) (1000009) ?_ (by simp) (by decide)) λr6 xW=>iW _ ?_)
  λh1=> .j (λy7:Af×Aw=>lA y7.1) (λy7 DY=>iW _ ?_)
  λk8 uW=> .c (λh2=> .b (aB (0) (16) ?_ (by simp) (by decide)) λr9 UW=>uW _ ?_)
  λh2=> .j (λy10:Af×Aw=>lA y10.1) (λy10 VW=>uW _ ?_)
  λk11 QV=> .c (λh3=> .b (aB (0) (6) ?_ (by simp) (by decide)) λr12 BW=>QV _ ?_)
  λh3=> .jt (λy13=>QV _ ?_)
  λk14 RV=> .c (λ_=>RV _)
  λ_=>RV _
 all_goals (try simp only[NB]at *)<;>omega
def zqY{a0}(ha:lA a0):Ok (Ji a0) λr=>wt r.1≤30000∧lA r.2:=by
 unfold Ji
 refine .b (zp7 ?_) λr1 PV=> .b (NA ?_) λr2 dW=> .j (λy3:Af×Ad=>lA y3.1∧wt y3.2≤30000) (λy3 QY=> .s ?_)
  λk4 UV=> .c (λh1=> .b (aB (0) (10) ?_ (by simp) (by decide)) λr5 TV=>UV _ ?_)
  λh1=> .j (λy6:Af×Ad=>lA y6.1∧wt y6.2≤30000) (λy6 AX=>UV _ ?_)
  λk7 VV=> .c (λh2=> .b (aB (0) (33) ?_ (by simp) (by decide)) λr8 zW=> .b (HB ?_ ?_) λr9 UW=>VV _ ?_)
  λh2=> .j (λy10:Af×Ad=>lA y10.1∧wt y10.2≤30000) (λy10 VW=>VV _ ?_)
  λk11 QV=> .c (λh3=> .b (gM ?_) λr12 BW=>QV _ ?_)
  λh3=> .j (λy13:Af×Ad=>lA y13.1∧wt y13.2≤30000) (λy13 kX=>QV _ ?_)
  λk14 RV=> .c (λh4=> .b (NA ?_) λr15 SW=>RV _ ?_)
  λh4=> .j (λy16:Af×Ad=>lA y16.1∧wt y16.2≤30000) (λy16 vY=>RV _ ?_)
  λk17 nW=> .c (λh5=> .b (aB (0) (12) ?_ (by simp) (by decide)) λr18 bY=> .b (HB ?_ ?_) λr19 HX=>nW _ ?_)
  λh5=> .j (λy20:Af×Ad=>lA y20.1∧wt y20.2≤30000) (λy20 JY=>nW _ ?_)
  λk21 oW=> .c (λh6=> .b (zrg ?_) λr22 jX=>oW _ ?_)
  λh6=> .j (λy23:Af×Ad=>lA y23.1∧wt y23.2≤30000) (λy23 AZ=>oW _ ?_)
  λk24 cW=> .c (λh7=> .b (ziN ?_) λr25 zX=>cW _ ?_)
  λh7=> .j (λy26:Af×Ad=>lA y26.1∧wt y26.2≤30000) (λy26 C1=>cW _ ?_)
  λk27 WW=> .c (λh8=> .b (ziQ ?_) λr28 X2=>WW _ ?_)
  λh8=> .j (λy29:Af×Ad=>lA y29.1∧wt y29.2≤30000) (λy29 v7=>WW _ ?_)
  λk30 uY=> .c (λh9=> .b (ziQ ?_) λr31 t5=>uY _ ?_)
  λh9=> .j (λy32:Af×Ad=>lA y32.1∧wt y32.2≤30000) (λy32 n5=>uY _ ?_)
  λk33 eY=> .c (λvW=> .b (aB (-1) (1000001) ?_ (by simp) (by decide)) λr34 o5=>eY _ ?_)
  λvW=> .j (λy35:Ad=>wt y35≤30000) (λy35 z7=>eY _ ?_)
  λk36 tY=> .c (λLW=>tY _ ?_)
  λLW=>tY _ ?_
 all_goals (try simp only[NB]at *)<;>(try simp(disch:=omega) only[AA,IA]at *)<;>omega
def zqe{a0}(ha:lA a0):Ok (Jj a0) λr=>wt r.1≤200∧lA r.2:=by
 unfold Jj
 refine .b (NA ?_) λr1 PV=> .j (λy2:(List (List UInt8))×Af=>wt y2.1≤200∧lA y2.2) (λy2 wW=> .s ?_)
  λk3 LV=> .l (λx4:(List (List UInt8))×Int×Af=>0≤x4.2.1∧x4.2.1≤3∧wt x4.1+33 *x4.2.1≤99∧lA x4.2.2) (λx4:(List (List UInt8))×Int×Af=>x4.2.1.toNat) (λx4 bZ k5 iW=>have hxw:=tB x4.1; .c (λh1=> .b (NA ?_) λr6 xW=> .b (HB ?_ ?_) λr7 MW=>have hi7:=AA (a:=1) (b:=r6.1) ?_ ?_; .g ?_ (iW _ ?_ ?_))
  λh1=>LV _ ?_) ?_ ?_
 all_goals (try simp only[NB]at *)<;>(try simp(disch:=omega) only[AA,IA]at *)<;>omega
def ziA{a0}(ha:lA a0):Ok (Kl a0) λr=>wt r.1≤8500∧lA r.2:=by
 unfold Kl
 refine .b (NA ?_) λr1 PV=> .b zip λr3 pW=> .b (NA ?_) λr4 WV=> .b (NA ?_) λr5 TV=> .j (λy6:Af×Aj=>lA y6.1∧wt y6.2≤8500) (λy6 AX=> .s ?_)
  λk7 VV=> .l (λx8:Int×Int×Af×Aj=>0≤x8.2.1∧x8.2.1≤5∧lA x8.2.2.1∧wt x8.2.2.2+1700 *x8.2.1≤8500) (λx8:Int×Int×Af×Aj=>x8.2.1.toNat) (λx8 b5 k9 nX=> .c (λh1=> .b (NA ?_) λr10 sW=> .b (HB ?_ ?_) λr12 BW=> .b (zi8 ?_ ?_) λr13 iX=> .b (NA ?_) λr14 qX=>nX _ ?_ ?_)
  λh1=>VV _ ?_) ?_ ?_
 all_goals (try simp only[NB]at *)<;>(try simp(disch:=omega) only[AA,IA]at *)<;>omega
def zaR{a0}(ha:lA a0):Ok (Fu a0) λr=>wt r.1≤12000∧lA r.2:=by
 unfold Fu
 refine .b (HB ?_ ?_) λr1 PV=> .b (NA ?_) λr2 dW=> .b (zh9 ?_) λr3 pW=> .b (zil ?_) λr4 WV=> .b (HB ?_ ?_) λr5 TV=> .b (aB (0) (90) ?_ (by simp) (by decide)) λr6 xW=> .b (NA ?_) λr7 MW=> .b (ziJ ?_) λr9 UW=> .b (sE ?_) λr10 sW=> .j (λy11:Af×Ai=>lA y11.1∧wt y11.2≤3000) (λy11 cZ=> .b (sE ?_) λr14 qX=> .j (λy15:Af×Ai=>lA y15.1∧wt y15.2≤12000) (λy15 B0=> .s ?_)
  λk16 KW=> .c (λh1=> .b (ziA ?_) λr17 aY=>KW _ ?_)
  λh1=>KW _ ?_)
  λk12 jW=> .c (λh2=> .b (ze1 ?_) λr13 iX=>jW _ ?_)
  λh2=>jW _ ?_
 all_goals (try simp only[NB]at *)<;>(try simp(disch:=omega) only[AA,IA]at *)<;>omega
def zit{a0}(ha:lA a0):Ok (Km a0) λr=>wt r.1≤80000∧r.1.L.length≤6∧lA r.2:=by
 unfold Km
 refine .b (NA ?_) λr1 PV=>have ht:=zcs (iA .i64 1 r1.1);have P2:=tB (lE (iA .i64 1 r1.1)).L; .b (NA ?_) λr3 pW=> .j (λy4:Af×Ap=>lA y4.1∧wt y4.2≤80000∧y4.2.L.length≤6) (λy4 rY=> .s ?_)
  λk5 iW=> .l (λx6:Int×Af×Ap=>0≤x6.1∧x6.1≤6∧lA x6.2.1∧wt x6.2.2+12001 *x6.1≤80000∧x6.2.2.L.length+x6.1≤6) (λx6:Int×Af×Ap=>x6.1.toNat) (λx6 n7 k7 VV=> .c (λh1=> .b (zaR ?_) λr8 zW=> .b (ze3 ?_ ?_) λr9 UW=> .j (λy10:Bool×Af=>lA y10.2∧(y10.1=false∨0<r9.1.L.length)) (λy10 VW=> .j (λy13:Af×Ap=>lA y13.1∧wt y13.2≤wt r9.1∧y13.2.L.length≤r9.1.L.length) (λy13 kX=>VV _ ?_ ?_)
  λk14 RV=> .c (λh2=>have O0:=VW.2.resolve_left (by rw[h2];decide); .b (NA ?_) λr15 SW=> .h ?_ (.bg ?_ λe16 xZ SZ=> .b (vR ?_) λr17 aY=>have t9:=mS (x:=r17) xZ; .h ?_ (.m xZ (RV _ ?_))))
  λh2=>RV _ ?_)
  λk11 QV=> .c (λh3=> .b (sE ?_) λr12 BW=>QV _ ?_)
  λh3=>QV _ ?_)
  λh1=>iW _ ?_) ?_ ?_
 all_goals (try simp only[NB,eq_self,true_or]at *)<;>(try simp(disch:=omega) only[AA,IA]at *)<;>omega
def ziw{a0 a1}(ha:lA a0)(hb:0≤a1∧a1≤100):Ok (Kn a0 a1) λr=>wt r.1≤102∧lA r.2:=by
 unfold Kn;refine have hi:=AA (a:=a1) (b:=1) ?_ ?_;
 .b (NA ?_) λr1 PV=> .j (λy2:(List Al)×Af=>wt y2.1≤102∧lA y2.2) (λy2 wW=> .s ?_)
  λk3 LV=> .l (λx4:(List Al)×Int×Af=>0≤x4.2.1∧x4.2.1≤101∧wt x4.1+x4.2.1≤102∧lA x4.2.2) (λx4:(List Al)×Int×Af=>x4.2.1.toNat) (λx4 bZ k5 iW=> .c (λh1=> .b (NA ?_) λr6 xW=> .b (aB (0) (1000000) ?_ (by simp) (by decide)) λr8 zW=> .b (zjt ?_) λr9 UW=> .b (aB (0) (1000) ?_ (by simp) (by decide)) λr10 sW=> .b (zjh ?_) λr11 AW=>iW _ ?_ ?_)
  λh1=>LV _ ?_) ?_ ?_
 all_goals (try simp only[NB]at *)<;>(try simp(disch:=omega) only[AA,IA]at *)<;>omega
def zp1{a0}(ha:lA a0):Ok (Jk a0) λr=>wt r.1≤700000∧lA r.2:=by
 unfold Jk
 refine .b (zqe ?_) λr1 PV=> .b (HB ?_ ?_) λr2 dW=> .b (NA ?_) λr3 pW=> .b (zrN ?_) λr4 WV=> .b (zit ?_) λr5 TV=> .j (λy6:Ac=>wt y6≤600000) (λy6 AX=> .b (ziw ?_ ?_) λr15 SW=> .b (NA ?_) λr16 fX=> .s ?_)
  λk7 VV=> .l (λx8:Int×Ac=>0≤x8.1∧x8.1≤(r5.1.L.length:Int)∧wt x8.2≤1300+80001 *x8.1) (λx8:Int×Ac=>((r5.1.L.length:Int) - x8.1).toNat) (λx8 b5 k9 nX=> .c (λh1=> .h ?_ (.bg ?_ λe10 cY oX=> .j (λy11:Ac=>wt y11≤1300+80001 *x8.1+80001) (λy11 cZ=>nX _ ?_ ?_)
  λk12 jW=> .c (λh2=> .h ?_ (.bg ?_ λe13 G5 Q1=> .b (ze3 ?_ ?_) λr14 qX=>jW _ ?_))
  λh2=>jW _ ?_))
  λh1=>VV _ ?_) ?_ ?_
 all_goals (try simp only[NB]at *)<;>(try simp(disch:=omega) only[AA,IA]at *)<;>omega
def zrb{a0 a1 a2}(ha:lA a0):Ok (Jl a0 a1 a2) λr=>wt r.1≤wt a1+wt a2∧lA r.2:=by
 unfold Jl
 refine .b (sE ?_) λr1 PV=> .c (λh1=> .s ?_)
  λh1=> .s ?_
 all_goals (try simp only[NB]at *)<;>omega
def zqP{a0}(ha:lA a0):Ok (Jm a0) λr=>wt r.1≤40∧lA r.2:=by
 unfold Jm
 refine .b (HB ?_ ?_) λr1 PV=>have hj:=CS r1.1; .b (sE ?_) λr3 pW=> .j (λy4:Af×Ba=>lA y4.1∧wt y4.2≤40) (λy4 rY=> .s ?_)
  λk5 iW=> .c (λh1=> .b (aB (0) (32) ?_ (by simp) (by decide)) λr6 xW=> .b (HB ?_ ?_) λr7 MW=>iW _ ?_)
  λh1=>iW _ ?_
 all_goals (try simp only[NB]at *)<;>omega
def zqu{a0}(ha:lA a0):Ok (Jn a0) λr=>wt r.1≤30000∧lA r.2:=by
 unfold Jn
 refine .b (ziA ?_) λr1 PV=> .j (λy2:Bool×Af=>lA y2.2∧(y2.1=true∨0<r1.1.Cands.length)) (λy2 wW=> .c (λh1=> .s ?_)
  λh1=>have O0:=wW.2.resolve_left (by rw[h1];decide); .b (NA ?_) λr5 TV=> .b (NA ?_) λr6 xW=> .j (λy7:Af×Aj=>lA y7.1∧wt y7.2≤30000) (λy7 DY=> .s ?_)
  λk8 uW=> .c (λh2=> .b (gM ?_) λr9 UW=>uW _ ?_)
  λh2=> .j (λy10:Af×Aj=>lA y10.1∧wt y10.2≤30000) (λy10 VW=>uW _ ?_)
  λk11 QV=> .c (λh3=> .b (gM ?_) λr12 BW=> .h ?_ (.bg ?_ λe13 G5 Q1=>QV _ (have:=BC r1.1.Cands r5.1.toNat (⟨r12.1,e13.Draw,e13.Until⟩:Az);?_)))
  λh3=> .j (λy15:Af×Aj=>lA y15.1∧wt y15.2≤30000) (λy15 B0=>QV _ ?_)
  λk16 KW=> .c (λh4=> .b (HB ?_ ?_) λr17 aY=> .h ?_ (.bg ?_ λe18 z5 E1=>KW _ (have:=BC r1.1.Cands r5.1.toNat (⟨e18.A,r17.1,e18.Until⟩:Az);?_)))
  λh4=> .j (λy20:Af×Aj=>lA y20.1∧wt y20.2≤30000) (λy20 JY=>KW _ ?_)
  λk21 oW=> .c (λh5=> .b (aB (-1) (1000007) ?_ (by simp) (by decide)) λr22 jX=> .h ?_ (.bg ?_ λe23 D7 X3=>oW _ (have:=BC r1.1.Cands r5.1.toNat (⟨e23.A,e23.Draw,r22.1⟩:Az);?_)))
  λh5=> .j (λy25:Aj=>wt y25≤30000) (λy25 A3=>oW _ ?_)
  λk26 lY=> .c (λh6=> .h ?_ (.bg ?_ λe27 d8 Y3=>lY _ ?_))
  λh6=>lY _ ?_)
  λk3 LV=> .c (λh7=>LV _ ?_)
  λh7=> .b (sE ?_) λr4 WV=>LV _ ?_
 all_goals (try simp only[NB,eq_self,true_or]at *)<;>omega
def zqO{a0}(ha:lA a0):Ok (Jo a0) λr=>wt r.1≤100000∧lA r.2:=by
 unfold Jo
 refine .b (zaR ?_) λr1 PV=> .b (NA ?_) λr2 dW=> .j (λy3:Af×Ai×Ai=>lA y3.1∧wt y3.2.1≤100000) (λy3 QY=> .s ?_)
  λk4 UV=> .c (λh1=> .b (aB (0) (10) ?_ (by simp) (by decide)) λr5 TV=>UV _ ?_)
  λh1=> .j (λy6:Af×Ai×Ai=>lA y6.1∧wt y6.2.1≤100000) (λy6 AX=>UV _ ?_)
  λk7 VV=> .c (λh2=> .b (HB ?_ ?_) λr8 zW=>VV _ ?_)
  λh2=> .j (λy9:Af×Ai×Ai=>lA y9.1∧wt y9.2.1≤100000) (λy9 WY=>VV _ ?_)
  λk10 SV=> .c (λh3=> .b (aB (11) (12) ?_ (by simp) (by decide)) λr11 AW=> .b (HB ?_ ?_) λr12 BW=>SV _ ?_)
  λh3=> .j (λy13:Af×Ai×Ai=>lA y13.1∧wt y13.2.1≤100000) (λy13 kX=>SV _ ?_)
  λk14 RV=> .c (λh4=> .b (ziN ?_) λr15 SW=>RV _ ?_)
  λh4=> .j (λy16:Af×Ai×Ai=>lA y16.1∧wt y16.2.1≤100000) (λy16 vY=>RV _ ?_)
  λk17 nW=> .c (λh5=> .b (zqu ?_) λr18 bY=>nW _ ?_)
  λh5=> .j (λy19:Af×Ai×Ai=>lA y19.1∧wt y19.2.1≤100000) (λy19 hy19=>nW _ ?_)
  λk20 iY=> .c (λh6=> .b (aB (-1) (1000001) ?_ (by simp) (by decide)) λr21 zZ=>iY _ ?_)
  λh6=> .j (λy22:Af×Ai×Ai=>lA y22.1∧wt y22.2.1≤100000) (λy22 m5=>iY _ ?_)
  λk23 dY=> .c (λh7=> .b (aB (-1) (1000001) ?_ (by simp) (by decide)) λr24 yX=>dY _ ?_)
  λh7=> .j (λy25:Ai×Ai=>wt y25.1≤100000) (λy25 A3=>dY _ ?_)
  λk26 lY=> .c (λh8=>lY _ ?_)
  λh8=> .jt (λy27=> .c (λh9=> .b (vR ?_) λr29 BZ=> .s ?_)
  λh9=>lY _ ?_)
  λk28 eX=> .c (λ_=>eX _)
  λ_=>eX _
 all_goals (try simp only[NB]at *)<;>omega
def zq0{a0}(ha:lA a0):Ok (Jp a0) λr=>wt r.1≤1000000∧lA r.2:=by
 unfold Jp
 refine .b (zit ?_) λr1 PV=>have hlw:=tB r1.1.L; .b (NA ?_) λr2 dW=> .j (λy3:Af×Ap=>lA y3.1∧wt y3.2≤1000000) (λy3 QY=> .s ?_)
  λk4 UV=> .c (λh1=> .b (aB (0) (7) ?_ (by simp) (by decide)) λr5 TV=>UV _ ?_)
  λh1=> .j (λy6:Af×Ap=>lA y6.1∧wt y6.2≤1000000) (λy6 AX=>UV _ ?_)
  λk7 VV=> .c (λh2=> .b (zqO ?_) λr8 zW=> .g ?_ (VV _ ?_))
  λh2=> .j (λy9:Ap×Af=>wt y9.1≤1000000∧lA y9.2) (λy9 WY=>VV _ ?_)
  λk10 SV=> .c (λh3=> .j (λy11:Ap=>wt y11≤1000000) (λy11 cZ=>SV _ ?_)
  λk12 jW=> .c (λh4=> .h ?_ (.bg ?_ λe13 G5 Q1=> .h ?_ (.bg ?_ λe14 A0 XY=>jW _ (have:=BC r1.1.L 1 (⟨e14.Id,e14.Cn,e13.Sn,e14.C,e14.P,e14.Tick,e14.Last,e14.Dead⟩:Ai);?_))))
  λh4=>jW _ ?_)
  λh3=> .j (λy16:Af×Ap=>lA y16.1∧wt y16.2≤1000000) (λy16 vY=>SV _ ?_)
  λk17 nW=> .c (λh5=> .b (zaR ?_) λr18 bY=> .b (vR ?_) λr19 HX=> .b (aB (9) (13) ?_ (by simp) (by decide)) λr20 IY=> .j (λy21:Af×Ai×Ap=>lA y21.1∧wt y21.2.2≤1000000) (λy21 D1=>nW _ ?_)
  λk22 XW=> .l (λx23:Int×Af×Ai×Ap=>0≤x23.1∧x23.1≤13∧lA x23.2.1∧wt x23.2.2.1+12 *x23.1≤20000∧wt x23.2.2.2+30000 *x23.1≤600000) (λx23:Int×Af×Ai×Ap=>x23.1.toNat) (λx23 hx23 k24 cW=>have hxw:=tB x23.2.2.2.L; .c (λh6=> .b (HB ?_ ?_) λr25 zX=> .g ?_ (cW _ ?_ ?_))
  λh6=>XW _ ?_) ?_ ?_)
  λh5=>nW _ ?_
 all_goals (try simp only[NB]at *)<;>(try simp(disch:=omega) only[AA,IA]at *)<;>omega
def zqL{a0}(ha:lA a0):Ok (Jq a0) λr=>wt r.1≤10000∧lA r.2:=by
 unfold Jq
 refine .b (ziw ?_ ?_) λr1 PV=>have hlw:=tB r1.1; .c (λh1=> .s ?_)
  λh1=> .b (NA ?_) λr2 dW=> .b (NA ?_) λr3 pW=> .j (λy4:(List Al)×Af=>wt y4.1≤10000∧lA y4.2) (λy4 rY=> .s ?_)
  λk5 iW=> .c (λh2=> .b (gM ?_) λr6 xW=> .h ?_ (.bg ?_ λe7 RZ sY=>iW _ (have:=BC r1.1 r2.1.toNat (⟨r6.1,e7.Got,e7.Sent⟩:Al);?_)))
  λh2=> .j (λy9:(List Al)×Af=>wt y9.1≤10000∧lA y9.2) (λy9 WY=>iW _ ?_)
  λk10 SV=> .c (λh3=> .b (aB (-1) (1000001) ?_ (by simp) (by decide)) λr11 AW=> .h ?_ (.bg ?_ λe12 he12 A7=>SV _ (have:=BC r1.1 r2.1.toNat (⟨e12.A,r11.1,e12.Sent⟩:Al);?_)))
  λh3=> .j (λy14:(List Al)×Af=>wt y14.1≤10000∧lA y14.2) (λy14 z0=>SV _ ?_)
  λk15 HW=> .c (λh4=> .h ?_ (.bg ?_ λe16 xZ SZ=> .b (zxk ?_ (by simp)) λr17 aY=> .h ?_ (.bg ?_ λe18 z5 E1=>HW _ (have:=BC r1.1 r2.1.toNat (⟨e18.A,e18.Got,r17.1⟩:Al);?_))))
  λh4=> .j (λy20:(List Al)=>wt y20≤10000) (λy20 JY=>HW _ ?_)
  λk21 oW=> .c (λh5=> .h ?_ (.bg ?_ λe22 CZ R1=> .g ?_ (oW _ ?_)))
  λh5=>oW _ ?_
 all_goals (try simp only[NB]at *)<;>(try simp(disch:=omega) only[AA,IA]at *)<;>omega
def zqm{a0}(ha:lA a0):Ok (Js a0) λr=>wt r.1≤40∧lA r.2:=by
 unfold Js;refine .b (NA ?_) λr1 PV=> .b (HB ?_ ?_) λr2 dW=>have hi2:=AA (a:=1) (b:=r1.1) ?_ ?_; .b (NA ?_) λr3 pW=> .s ?_
 all_goals (try simp only[NB]at *)<;>(try simp(disch:=omega) only[AA,IA]at *)<;>omega
def zqy{a0}(ha:lA a0):Ok (Jt a0) λr=>wt r.1≤100∧lA r.2:=by
 unfold Jt
 refine .b (zqm ?_) λr1 PV=> .b (NA ?_) λr2 dW=> .j (λy3:Af×Au=>lA y3.1∧wt y3.2≤100) (λy3 QY=> .s ?_)
  λk4 UV=> .c (λh1=> .b (aB (-1) (10001) ?_ (by simp) (by decide)) λr5 TV=>UV _ ?_)
  λh1=> .j (λy6:Af×Au=>lA y6.1∧wt y6.2≤100) (λy6 AX=>UV _ ?_)
  λk7 VV=> .c (λh2=> .b (aB (0) (33) ?_ (by simp) (by decide)) λr8 zW=> .b (HB ?_ ?_) λr9 UW=>VV _ ?_)
  λh2=>VV _ ?_
 all_goals (try simp only[NB]at *)<;>omega
def zqz{a0}(ha:lA a0):Ok (Jr a0) λr=>wt r.1≤3000000∧lA r.2:=by
 unfold Jr
 refine .b (zp1 ?_) λr1 PV=>have IZ:=tB r1.1.Psks;have P2:=tB r1.1.T.L; .b (NA ?_) λr2 dW=> .j (λy3:Af×Ac=>lA y3.1∧wt y3.2≤3000000) (λy3 QY=> .s ?_)
  λk4 UV=> .c (λh1=> .b (zrb ?_) λr5 TV=>UV _ ?_)
  λh1=> .j (λy6:Af×Ac=>lA y6.1∧wt y6.2≤3000000) (λy6 AX=>UV _ ?_)
  λk7 VV=> .c (λh2=> .b (zqP ?_) λr8 zW=>VV _ ?_)
  λh2=> .j (λy9:Af×Ac=>lA y9.1∧wt y9.2≤3000000) (λy9 WY=>VV _ ?_)
  λk10 SV=> .c (λh3=> .b (aB (-1) (10001) ?_ (by simp) (by decide)) λr11 AW=>SV _ ?_)
  λh3=> .j (λy12:Af×Ac=>lA y12.1∧wt y12.2≤3000000) (λy12 ZX=>SV _ ?_)
  λk13 aW=> .c (λh4=> .b (zq0 ?_) λr14 qX=>aW _ ?_)
  λh4=> .j (λy15:Af×Ac=>lA y15.1∧wt y15.2≤3000000) (λy15 B0=>aW _ ?_)
  λk16 KW=> .c (λh5=> .b (zqL ?_) λr17 aY=>KW _ ?_)
  λh5=> .j (λy18:Ac×Af=>wt y18.1≤3000000∧lA y18.2) (λy18 D0=>KW _ ?_)
  λk19 CW=> .c (λh6=> .g ?_ (CW _ ?_))
  λh6=> .j (λy20:Af×Ac=>lA y20.1∧wt y20.2≤3000000) (λy20 JY=>CW _ ?_)
  λk21 oW=> .c (λh7=> .b (zaR ?_) λr22 jX=> .b (vR ?_) λr23 gZ=> .g ?_ (oW _ ?_))
  λh7=>oW _ ?_
 all_goals (try simp only[NB]at *)<;>omega
def zqd{a0}(ha:lA a0):Ok (Ju a0) λr=>wt r.1≤300∧lA r.2:=by
 unfold Ju
 refine .b (sE ?_) λr1 PV=> .c (λh1=> .b (NA ?_) λr2 dW=> .b (NA ?_) λr4 WV=> .b (aB (0) (200) ?_ (by simp) (by decide)) λr6 xW=> .b (HB ?_ ?_) λr7 MW=> .s ?_)
  λh1=> .b (NA ?_) λr8 zW=> .b (NA ?_) λr10 sW=> .b (ziS ?_) λr12 BW=> .b (zeM ?_) λr13 iX=> .s ?_
 all_goals (try simp only[NB]at *)<;>omega
def zqM{a0}(ha:lA a0):Ok (Jv a0) λr=>wt r.1≤600∧lA r.2:=by
 unfold Jv
 refine .b (zqd ?_) λr1 PV=> .b (NA ?_) λr2 dW=> .j (λy3:Af×Am=>lA y3.1∧wt y3.2≤600) (λy3 QY=> .s ?_)
  λk4 UV=> .c (λh1=> .b (gM ?_) λr5 TV=>UV _ ?_)
  λh1=> .j (λy6:Af×Am=>lA y6.1∧wt y6.2≤600) (λy6 AX=>UV _ ?_)
  λk7 VV=> .c (λh2=> .b (gM ?_) λr8 zW=>VV _ ?_)
  λh2=> .j (λy9:Af×Am=>lA y9.1∧wt y9.2≤600) (λy9 WY=>VV _ ?_)
  λk10 SV=> .c (λh3=> .b (HB ?_ ?_) λr11 AW=>SV _ ?_)
  λh3=>SV _ ?_
 all_goals (try simp only[NB]at *)<;>omega
end Go.D
namespace Go.D
def zqZ{a0 a1}(ha:lA a0)(hb:a1≤40):Ok (Jw a0 a1) λr=>wt r.1≤800000000∧lA r.2:=by
 unfold Jw
 refine .b (zpK ?_ ?_) λr1 PV=>have L2:=tB r1.1.Seen;have s4:=tB r1.1.Known;have lW:=tB r1.1.Notes; .b (NA ?_) λr2 dW=> .j (λy3:Af×Aa=>lA y3.1∧wt y3.2≤800000000) (λy3 QY=> .s ?_)
  λk4 UV=> .c (λh1=> .b (aB (-1) (1000001) ?_ (by simp) (by decide)) λr5 TV=>UV _ ?_)
  λh1=> .j (λy6:Af×Aa=>lA y6.1∧wt y6.2≤800000000) (λy6 AX=>UV _ ?_)
  λk7 VV=> .c (λh2=> .b (NA ?_) λr8 zW=> .b (zqY ?_) λr9 UW=> .h ?_ (.bg ?_ λe10 cY oX=>VV _ (have:=BC r1.1.Clients r8.1.toNat r9.1;?_)))
  λh2=> .j (λy11:Af×Aa=>lA y11.1∧wt y11.2≤800000000) (λy11 cZ=>VV _ ?_)
  λk12 jW=> .c (λh3=> .b (NA ?_) λr13 iX=> .h ?_ (jW _ (have:=WD r1.1.Clients ((r13.1 - 0).toNat);?_)))
  λh3=> .j (λy14:Af×Aa=>lA y14.1∧wt y14.2≤800000000) (λy14 z0=>jW _ ?_)
  λk15 HW=> .c (λh4=> .b (zqz ?_) λr16 fX=>HW _ ?_)
  λh4=> .j (λy17:Af×Aa=>lA y17.1∧wt y17.2≤800000000) (λy17 iZ=>HW _ ?_)
  λk18 IW=> .c (λh5=> .b (zqy ?_) λr19 HX=>IW _ ?_)
  λh5=> .j (λy20:Af×Aa=>lA y20.1∧wt y20.2≤800000000) (λy20 JY=>IW _ ?_)
  λk21 oW=> .c (λh6=> .b (zqM ?_) λr22 jX=> .g ?_ (oW _ ?_))
  λh6=> .j (λy23:Af×Aa=>lA y23.1∧wt y23.2≤800000000) (λy23 AZ=>oW _ ?_)
  λk24 cW=> .c (λh7=> .b (aB (31) (32) ?_ (by simp) (by decide)) λr25 zX=> .b (HB ?_ ?_) λr26 KX=> .g ?_ (cW _ ?_))
  λh7=> .j (λy27:Af×Aa=>lA y27.1∧wt y27.2≤800000000) (λy27 v5=>cW _ ?_)
  λk28 eX=> .c (λh8=> .b (zqK ?_) λr29 BZ=> .g ?_ (eX _ ?_))
  λh8=> .j (λy30:Aa=>wt y30≤800000000) (λy30 hy30=>eX _ ?_)
  λk31 fZ=> .c (λh9=> .h ?_ (.bg ?_ λe32 j8 m8=>fZ _ (have:=BC r1.1.Clients 0 (⟨2,e32.Psk,e32.At,e32.St,e32.Cn,e32.Fin,e32.C,e32.T,e32.R,e32.Last⟩:Ad);?_)))
  λh9=> .j (λy34:Aa=>wt y34≤800000000) (λy34 z3=>fZ _ ?_)
  λk35 kY=> .c (λvW=> .h ?_ (.bg ?_ λe36 he36 he36w=>kY _ (have:=BC r1.1.Clients 0 (⟨e36.Id,[UInt8.ofNat (1:Int).toNat],e36.At,e36.St,e36.Cn,e36.Fin,e36.C,e36.T,e36.R,e36.Last⟩:Ad);?_)))
  λvW=>kY _ ?_
 all_goals (try simp only[NB]at *)<;>omega
end Go.D

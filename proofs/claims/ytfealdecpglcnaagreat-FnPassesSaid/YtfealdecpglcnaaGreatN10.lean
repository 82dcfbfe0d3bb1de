/-
 Sizes of the program's data.
-/
import Derived.Test.YtfealdecpglcnaaGreatN8g
set_option linter.all false
namespace Go.D
end Go.D
namespace Go.D
end Go.D
namespace Go.D
open Option renaming bind→ob
noncomputable section
def Ja(a0:Af)(a1:Int):=
 ob (As a0 [0,0,0,1000,5000,281474976710000]) λr1=>
 ob (Ar r1.2 (iA .i64 a1 1)) λr2=>
 aA (λ(y3:(List Int)×Af)=>
 ob (Bb y3.2 5) λr13=>
 aA (λ(y14:(List Int)×Af)=>
 some (y14.1,y14.2)) λk15=>
 cond (r13.1)
 (ob (As r13.2 [(-1),281474976710655,281474976710656]) λr16=>
 cond (decide (y3.1.length+[r16.1].length≤bA)) (k15 ((y3.1++[r16.1]),r16.2)) none)
 (k15 (y3.1,r13.2))) λk4=>
 qA FU (λ(x5:(List Int)×Int×Int×Af) k6=>
 cond (decide (x5.2.2.1>0))
 (ob (Bb x5.2.2.2 6) λr7=>
 aA (λ(y8:Int×Af)=>
 ob (Ar y8.2 40) λr11=>
 ob (As r11.2 [0,0,20,1000]) λr12=>
 cond (decide (x5.1.length+[wA .i64 (iA .i64 y8.1 r11.1) r12.1].length≤bA)) (k6 ((x5.1++[wA .i64 (iA .i64 y8.1 r11.1) r12.1]),y8.1,(wA .i64 x5.2.2.1 1),r12.2)) none) λk9=>
 cond (r7.1)
 (ob (As r7.2 [1,32,900,1023,1024,1025,3000]) λr10=>
 k9 ((iA .i64 x5.2.1 r10.1),r10.2))
 (k9 (x5.2.1,r7.2)))
 (k4 (x5.1,x5.2.2.2))) ([],r1.1,r2.1,r2.2)
def Jb(a0:List Int):=
 ob (Fl) λr1=>
 aA (λ(y2:Ap)=>
 some y2) λk3=>
 qA FU (λ(x4:Int×Ap) k5=>
 cond (decide (x4.1<(a0.length:Int)))
 (ob (kA a0 x4.1) λe6=>
 ob (Cf x4.2 e6) λr7=>
 k5 ((iA .i64 x4.1 1),r7.1))
 (k3 x4.2)) (0,r1)
def Ho(a0:Af):=
 ob (Ja a0 12) λr1=>
 ob (Jb r1.1) λr2=>
 some (r2,r1.2)
def Hp(a0:Af)(a1:Int):=
 ob (Ay a0 12) λr1=>
 ob (Ay r1.2 32) λr2=>
 ob (Ee a1 r1.1 r2.1) λr3=>
 ob (As r2.2 [0,0,3,281474976709656,281474976710656]) λr4=>
 ob (Bb r4.2 3) λr5=>
 aA (λ(y6:Af×Ak)=>
 ob (Bb y6.1 2) λr9=>
 aA (λ(y10:Ak×Af)=>
 aA (λ(y20:Bool×Af)=>
 aA (λ(y23:Ak)=>
 some (y23,y20.2)) λk24=>
 cond (y20.1)
 (ob (GE y10.1.Cur.Key [114,101,107,101,121]) λr25=>
 k24 (⟨y10.1.Role,y10.1.Sn,y10.1.Cur,y10.1.Old,y10.1.HasOld,y10.1.Until,r25⟩:Ak))
 (k24 y10.1)) λk21=>
 cond (a1==0)
 (cond (decide (y10.1.Cur.N<4294967295))
 (ob (Bb y10.2 2) λr22=>
 k21 (r22.1,r22.2))
 (k21 (false,y10.2)))
 (k21 (false,y10.2))) λk11=>
 cond (r9.1)
 (ob (As r9.2 [1,1,2,4294967295]) λr12=>
 ob (GE y6.2.Cur.Key [114,101,107,101,121]) λr13=>
 ob (Bz r12.1 r13) λr14=>
 ob (As r12.2 [(-1),0,5,7,1000005]) λr15=>
 aA (λ(y16:Bool)=>
 aA (λ(y18:Ak)=>
 k11 (y18,r15.2)) λk19=>
 cond (y16)
 (k19 (⟨y6.2.Role,y6.2.Sn,r14,(⟨wA .i64 r14.N 1,y6.2.Cur.Key,y6.2.Cur.Seq,y6.2.Cur.Win⟩:Aw),true,5,y6.2.Next⟩:Ak))
 (k19 (⟨y6.2.Role,y6.2.Sn,r14,(⟨wA .i64 r14.N 1,y6.2.Cur.Key,y6.2.Cur.Seq,y6.2.Cur.Win⟩:Aw),true,r15.1,y6.2.Next⟩:Ak))) λk17=>
 cond (a1==0)
 (k17 (decide (r15.1<0)))
 (k17 false))
 (k11 (y6.2,r9.2))) λk7=>
 cond (r5.1)
 (ob (Ho r5.2) λr8=>
 k7 (r8.2,(⟨r3.Role,r3.Sn,(⟨r3.Cur.N,r3.Cur.Key,r4.1,r8.1⟩:Aw),r3.Old,r3.HasOld,r3.Until,r3.Next⟩:Ak)))
 (k7 (r5.2,(⟨r3.Role,r3.Sn,(⟨r3.Cur.N,r3.Cur.Key,r4.1,r3.Cur.Win⟩:Aw),r3.Old,r3.HasOld,r3.Until,r3.Next⟩:Ak)))
def Jc(a0:Af):=
 ob (As a0 [0,0,1,2,4294967295]) λr1=>
 ob (Ay r1.2 32) λr2=>
 ob (Bz r1.1 r2.1) λr3=>
 let x4:List Int:=[0,0,1,5,281474976709655,281474976709656,281474976710655,281474976710656]
 ob (As r2.2 x4) λr5=>
 ob (Bb r5.2 3) λr6=>
 aA (λ(y7:Af×Aw)=>
 some (y7.2,y7.1)) λk8=>
 cond (r6.1)
 (ob (Ho r6.2) λr9=>
 k8 (r9.2,(⟨r3.N,r3.Key,r5.1,r9.1⟩:Aw)))
 (k8 (r6.2,(⟨r3.N,r3.Key,r5.1,r3.Win⟩:Aw)))
def Jd(a0:Af):=
 ob (Ho a0) λr1=>
 ob (Ar r1.2 12) λr2=>
 aA (λ(y3:Af×Ap)=>
 some (y3.2,y3.1)) λk4=>
 cond (r2.1==0)
 (ob (As r2.2 [(-2),(-1),0,700,281474976710656]) λr5=>
 k4 (r5.2,(⟨r5.1,r1.1.Bits⟩:Ap)))
 (aA (λ(y6:Af×Ap)=>
 k4 (y6.1,y6.2)) λk7=>
 cond (r2.1==1)
 (ob (Ar r2.2 32) λr8=>
 ob (As r8.2 [(-1),0,1,4294967295,4294967296]) λr9=>
 cond (decide (0≤r8.1)&&decide (r8.1<(r1.1.Bits.length:Int))) (ob (r1.1.Bits[r8.1.toNat]?) λe10=>
 k7 (r9.2,(⟨r1.1.Top,List.set r1.1.Bits r8.1.toNat r9.1⟩:Ap))) none)
 (aA (λ(y11:Af×Ap)=>
 k7 (y11.1,y11.2)) λk12=>
 cond (r2.1==2)
 (ob (Ar r2.2 32) λr13=>
 cond (decide (0≤(0:Int))&&decide ((0:Int)≤r13.1)&&decide (r13.1≤(r1.1.Bits.length:Int))) (k12 (r13.2,(⟨r1.1.Top,List.take ((r13.1 - 0).toNat) r1.1.Bits⟩:Ap))) none)
 (k12 (r2.2,r1.1))))
def Ka(a0:Af):=
 ob (Jc a0) λr1=>
 ob (Ar r1.2 14) λr2=>
 aA (λ(y3:Af×Aw)=>
 some (y3.2,y3.1)) λk4=>
 cond (r2.1==0)
 (ob (As r2.2 [(-1),4294967296]) λr5=>
 k4 (r5.2,(⟨r5.1,r1.1.Key,r1.1.Seq,r1.1.Win⟩:Aw)))
 (aA (λ(y6:Af×Aw)=>
 k4 (y6.1,y6.2)) λk7=>
 cond (r2.1==1)
 (ob (As r2.2 [0,31,33]) λr8=>
 ob (Ay r8.2 r8.1) λr9=>
 k7 (r9.2,(⟨r1.1.N,r9.1,r1.1.Seq,r1.1.Win⟩:Aw)))
 (aA (λ(y10:Af×Aw)=>
 k7 (y10.1,y10.2)) λk11=>
 cond (r2.1==2)
 (ob (As r2.2 [(-1),281474976710657]) λr12=>
 k11 (r12.2,(⟨r1.1.N,r1.1.Key,r12.1,r1.1.Win⟩:Aw)))
 (aA (λ(y13:Af×Aw)=>
 k11 (y13.1,y13.2)) λk14=>
 cond (r2.1==3)
 (ob (Jd r2.2) λr15=>
 k14 (r15.2,(⟨r1.1.N,r1.1.Key,r1.1.Seq,r15.1⟩:Aw)))
 (k14 (r2.2,r1.1)))))
def Kb(a0:Af):=
 ob (Ar a0 2) λr1=>
 ob (Hp r1.2 r1.1) λr2=>
 ob (Ar r2.2 20) λr3=>
 aA (λ(y4:Af×Ak)=>
 some (y4.2,y4.1)) λk5=>
 cond (r3.1==0)
 (ob (As r3.2 [(-1),0,1,2]) λr6=>
 k5 (r6.2,(⟨r6.1,r2.1.Sn,r2.1.Cur,r2.1.Old,r2.1.HasOld,r2.1.Until,r2.1.Next⟩:Ak)))
 (aA (λ(y7:Af×Ak)=>
 k5 (y7.1,y7.2)) λk8=>
 cond (r3.1==1)
 (ob (Ay r3.2 11) λr9=>
 k8 (r9.2,(⟨r2.1.Role,r9.1,r2.1.Cur,r2.1.Old,r2.1.HasOld,r2.1.Until,r2.1.Next⟩:Ak)))
 (aA (λ(y10:Af×Ak)=>
 k8 (y10.1,y10.2)) λk11=>
 cond (r3.1==2)
 (ob (Ka r3.2) λr12=>
 k11 (r12.2,(⟨r2.1.Role,r2.1.Sn,r12.1,r2.1.Old,r2.1.HasOld,r2.1.Until,r2.1.Next⟩:Ak)))
 (aA (λ(y13:Af×Ak)=>
 k11 (y13.1,y13.2)) λk14=>
 cond (r3.1==3)
 (ob (Ka r3.2) λr15=>
 k14 (r15.2,(⟨r2.1.Role,r2.1.Sn,r2.1.Cur,r15.1,r2.1.HasOld,r2.1.Until,r2.1.Next⟩:Ak)))
 (aA (λ(y16:Ak×Af)=>
 k14 (y16.2,y16.1)) λk17=>
 cond (r3.1==4)
 (k17 ((⟨r2.1.Role,r2.1.Sn,r2.1.Cur,r2.1.Old,!r2.1.HasOld,r2.1.Until,r2.1.Next⟩:Ak),r3.2))
 (aA (λ(y18:Af×Ak)=>
 k17 (y18.2,y18.1)) λk19=>
 cond (r3.1==5)
 (ob (As r3.2 [(-2),(-1),1,1000006]) λr20=>
 k19 (r20.2,(⟨r2.1.Role,r2.1.Sn,r2.1.Cur,r2.1.Old,r2.1.HasOld,r20.1,r2.1.Next⟩:Ak)))
 (aA (λ(y21:Af×Ak)=>
 k19 (y21.1,y21.2)) λk22=>
 cond (r3.1==6)
 (ob (As r3.2 [0,31,32]) λr23=>
 ob (Ay r23.2 r23.1) λr24=>
 k22 (r24.2,(⟨r2.1.Role,r2.1.Sn,r2.1.Cur,r2.1.Old,r2.1.HasOld,r2.1.Until,r24.1⟩:Ak)))
 (k22 (r3.2,r2.1))))))))
end
end Go.D
namespace Go.D
end Go.D
namespace Go.D
end Go.D
namespace Go.D
def zpR{a0 a1}(ha:mA a0)(hb:0≤a1∧a1≤100):Ok (Ja a0 a1) λr=>wt r.1≤300∧mA r.2:=by
 unfold Ja;refine have hi:=DA (a:=a1) (b:=1) ?_ ?_;
 .b (dB (0) (281474976710000) ?_ (by simp) (by decide)) λr1 OV=> .b (TA ?_) λr2 dW=> .j (λy3:(List Int)×Af=>wt y3.1≤200∧mA y3.2) (λy3 vY=> .b (uE ?_) λr13 eX=> .j (λy14:(List Int)×Af=>wt y14.1≤300∧mA y14.2) (λy14 L2=> .s ?_)
  λk15 XW=> .c (λh1=> .b (dB (-1) (281474976710656) ?_ (by simp) (by decide)) λr16 jY=> .g ?_ (XW _ ?_))
  λh1=>XW _ ?_)
  λk4 TV=> .l (λx5:(List Int)×Int×Int×Af=>0≤x5.2.2.1∧x5.2.2.1≤101∧wt x5.1+x5.2.2.1≤110∧mA x5.2.2.2) (λx5:(List Int)×Int×Int×Af=>x5.2.2.1.toNat) (λx5 hx5 k6 QW=> .c (λh2=> .b (uE ?_) λr7 NW=> .j (λy8:Int×Af=>mA y8.2) (λy8 P4=> .b (TA ?_) λr11 AW=> .b (dB (0) (1000) ?_ (by simp) (by decide)) λr12 vW=> .g ?_ (QW _ ?_ ?_))
  λk9 WW=> .c (λh3=> .b (dB (1) (3000) ?_ (by simp) (by decide)) λr10 rW=>WW _ ?_)
  λh3=>WW _ ?_)
  λh2=>TV _ ?_) ?_ ?_
 all_goals (try simp only[NB]at *)<;>(try simp(disch:=omega) only[DA,PA]at *)<;>omega
def zqI{a0}(ha:wt a0≤1000000):Ok (Jb a0) λr=>r.Bits.length=32:=by
 unfold Jb;refine have hw:=JB a0;
 .b zh1 λr1 OV=> .j (λy2:Ap=>y2.Bits.length=32) (λy2 zW=> .s ?_)
  λk3 KV=> .l (λx4:Int×Ap=>0≤x4.1∧x4.1≤(a0.length:Int)∧x4.2.Bits.length=32) (λx4:Int×Ap=>((a0.length:Int) - x4.1).toNat) (λx4 J5 k5 mW=> .c (λh1=> .bi ?_ ?_ λe6 IZ dY=> .b (zh7 ?_) λr7 NW=>mW _ ?_ ?_)
  λh1=>KV _ ?_) ?_ ?_
 all_goals (try simp only[NB]at *)<;>(try simp(disch:=omega) only[DA,PA]at *)<;>omega
def zep{a0}(ha:mA a0):Ok (Ho a0) λr=>r.1.Bits.length=32∧mA r.2:=by
 unfold Ho;refine .b (zpR ?_ ?_) λr1 OV=> .b (zqI ?_) λr2 dW=> .s ?_
 all_goals (try simp only[NB]at *)<;>omega
def zef{a0 a1}(ha:mA a0):Ok (Hp a0 a1) λr=>wt r.1≤1000∧mA r.2:=by
 unfold Hp
 refine .b (MB ?_ ?_) λr1 OV=> .b (MB ?_ ?_) λr2 dW=> .b (zeb ?_ ?_) λr3 tW=> .b (dB (0) (281474976710656) ?_ (by simp) (by decide)) λr4 VV=> .b (uE ?_) λr5 QV=> .j (λy6:Af×Ak=>mA y6.1∧wt y6.2≤300) (λy6 vX=> .b (uE ?_) λr9 dX=> .j (λy10:Ak×Af=>wt y10.1≤600∧mA y10.2) (λy10 yX=> .j (λy20:Bool×Af=>mA y20.2) (λy20 rY=> .j (λy23:Ak=>wt y23≤1000) (λy23 eZ=> .s ?_)
  λk24 pW=> .c (λh1=> .b (XL ?_) λr25 rX=>pW _ ?_)
  λh1=>pW _ ?_)
  λk21 iW=> .c (λh2=> .c (λh3=> .b (uE ?_) λr22 fX=>iW _ ?_)
  λh3=>iW _ ?_)
  λh2=>iW _ ?_)
  λk11 SV=> .c (λh4=> .b (dB (1) (4294967295) ?_ (by simp) (by decide)) λr12 vW=> .b (XL ?_) λr13 eX=> .b (VT ?_) λr14 lX=> .b (dB (-1) (1000005) ?_ (by simp) (by decide)) λr15 GW=> .jt (λy16=> .j (λy18:Ak=>wt y18≤600) (λy18 NZ=>SV _ ?_)
  λk19 DW=> .c (λh5=>DW _ ?_)
  λh5=>DW _ ?_)
  λk17 gW=> .c (λ_=>gW _)
  λ_=>gW _)
  λh4=>SV _ ?_)
  λk7 UV=> .c (λh7=> .b (zep ?_) λr8 OW=>UV _ ?_)
  λh7=>UV _ ?_
 all_goals (try simp only[NB]at *)<;>(try simp(disch:=omega) only[DA,PA]at *)<;>omega
def zq1{a0}(ha:mA a0):Ok (Jc a0) λr=>wt r.1≤300∧mA r.2:=by
 unfold Jc
 refine .b (dB (0) (4294967295) ?_ (by simp) (by decide)) λr1 OV=> .b (MB ?_ ?_) λr2 dW=> .b (VT ?_) λr3 tW=> .b (dB (0) (281474976710656) ?_ (by simp) (by decide)) λr5 QV=> .b (uE ?_) λr6 uW=> .j (λy7:Af×Aw=>mA y7.1∧wt y7.2≤300) (λy7 WZ=> .s ?_)
  λk8 EW=> .c (λh1=> .b (zep ?_) λr9 dX=>EW _ ?_)
  λh1=>EW _ ?_
 all_goals (try simp only[NB]at *)<;>omega
def zqr{a0}(ha:mA a0):Ok (Jd a0) λr=>wt r.1≤100∧mA r.2:=by
 unfold Jd
 refine .b (zep ?_) λr1 OV=> .b (TA ?_) λr2 dW=> .j (λy3:Af×Ap=>mA y3.1∧wt y3.2≤100) (λy3 vY=> .s ?_)
  λk4 TV=> .c (λh1=> .b (dB (-2) (281474976710656) ?_ (by simp) (by decide)) λr5 QV=>TV _ ?_)
  λh1=> .j (λy6:Af×Ap=>mA y6.1∧wt y6.2≤100) (λy6 vX=>TV _ ?_)
  λk7 UV=> .c (λh2=> .b (TA ?_) λr8 OW=> .b (dB (-1) (4294967296) ?_ (by simp) (by decide)) λr9 dX=> .h ?_ (.bg ?_ λe10 qY BX=>UV _ (have:=zC r1.1.Bits r8.1.toNat r9.1;?_)))
  λh2=> .j (λy11:Af×Ap=>mA y11.1∧wt y11.2≤100) (λy11 gZ=>UV _ ?_)
  λk12 wW=> .c (λh3=> .b (TA ?_) λr13 eX=> .h ?_ (wW _ (have:=yG r1.1.Bits ((r13.1 - 0).toNat);?_)))
  λh3=>wW _ ?_
 all_goals (try simp only[NB]at *)<;>omega
def zij{a0}(ha:mA a0):Ok (Ka a0) λr=>wt r.1≤500∧mA r.2:=by
 unfold Ka
 refine .b (zq1 ?_) λr1 OV=> .b (TA ?_) λr2 dW=> .j (λy3:Af×Aw=>mA y3.1∧wt y3.2≤500) (λy3 vY=> .s ?_)
  λk4 TV=> .c (λh1=> .b (dB (-1) (4294967296) ?_ (by simp) (by decide)) λr5 QV=>TV _ ?_)
  λh1=> .j (λy6:Af×Aw=>mA y6.1∧wt y6.2≤500) (λy6 vX=>TV _ ?_)
  λk7 UV=> .c (λh2=> .b (dB (0) (33) ?_ (by simp) (by decide)) λr8 OW=> .b (MB ?_ ?_) λr9 dX=>UV _ ?_)
  λh2=> .j (λy10:Af×Aw=>mA y10.1∧wt y10.2≤500) (λy10 yX=>UV _ ?_)
  λk11 SV=> .c (λh3=> .b (dB (-1) (281474976710657) ?_ (by simp) (by decide)) λr12 vW=>SV _ ?_)
  λh3=> .j (λy13:Af×Aw=>mA y13.1∧wt y13.2≤500) (λy13 gY=>SV _ ?_)
  λk14 RV=> .c (λh4=> .b (zqr ?_) λr15 GW=>RV _ ?_)
  λh4=>RV _ ?_
 all_goals (try simp only[NB]at *)<;>omega
def zhR{a0}(ha:mA a0):Ok (Kb a0) λr=>wt r.1≤2000∧mA r.2:=by
 unfold Kb
 refine .b (TA ?_) λr1 OV=> .b (zef ?_) λr2 dW=> .b (TA ?_) λr3 tW=> .j (λy4:Af×Ak=>mA y4.1∧wt y4.2≤2000) (λy4 dZ=> .s ?_)
  λk5 mW=> .c (λh1=> .b (dB (-1) (2) ?_ (by simp) (by decide)) λr6 uW=>mW _ ?_)
  λh1=> .j (λy7:Af×Ak=>mA y7.1∧wt y7.2≤2000) (λy7 WZ=>mW _ ?_)
  λk8 EW=> .c (λh2=> .b (MB ?_ ?_) λr9 dX=>EW _ ?_)
  λh2=> .j (λy10:Af×Ak=>mA y10.1∧wt y10.2≤2000) (λy10 yX=>EW _ ?_)
  λk11 SV=> .c (λh3=> .b (zij ?_) λr12 vW=>SV _ ?_)
  λh3=> .j (λy13:Af×Ak=>mA y13.1∧wt y13.2≤2000) (λy13 gY=>SV _ ?_)
  λk14 RV=> .c (λh4=> .b (zij ?_) λr15 GW=>RV _ ?_)
  λh4=> .j (λy16:Ak×Af=>wt y16.1≤2000∧mA y16.2) (λy16 iY=>RV _ ?_)
  λk17 gW=> .c (λh5=>gW _ ?_)
  λh5=> .j (λy18:Af×Ak=>mA y18.1∧wt y18.2≤2000) (λy18 NZ=>gW _ ?_)
  λk19 DW=> .c (λh6=> .b (dB (-2) (1000006) ?_ (by simp) (by decide)) λr20 pY=>DW _ ?_)
  λh6=> .j (λy21:Af×Ak=>mA y21.1∧wt y21.2≤2000) (λy21 O0=>DW _ ?_)
  λk22 gX=> .c (λh7=> .b (dB (0) (32) ?_ (by simp) (by decide)) λr23 OY=> .b (MB ?_ ?_) λr24 eY=>gX _ ?_)
  λh7=>gX _ ?_
 all_goals (try simp only[NB]at *)<;>omega
end Go.D

/-
 Sizes of the program's data.
-/
import Derived.Test.YthmhafeaiaigoaaGreatN8g
set_option linter.all false
namespace Go.D
end Go.D
namespace Go.D
end Go.D
namespace Go.D
open Option renaming bind→ob
noncomputable section
def Ke(a0:List UInt8)(a1:Int):=
 let x1:Int:=iA .i64 3 (EC .i64 (a0.length:Int) 12)
 cond (decide (x1>a1))
 (some a1)
 (some x1)
def Jb(a0:List UInt8):=
 ob (Gi a0) λr1=>
 ob (Ke a0 30) λr2=>
 ob (Hr r1 (iA .i64 10 r2)) λr3=>
 some r3.1
def Jc(a0:Af)(a1:Int):=
 ob (As a0 [0,0,0,1000,5000,281474976710000]) λr1=>
 ob (Ar r1.2 (iA .i64 a1 1)) λr2=>
 aA (λ(y3:(List Int)×Af)=>
 ob (Bb y3.2 5) λr13=>
 aA (λ(y14:(List Int)×Af)=>
 some (y14.1,y14.2)) λk15=>
 cond (r13.1)
 (ob (As r13.2 [(-1),281474976710655,281474976710656]) λr16=>
 cond (decide (y3.1.length+[r16.1].length≤bA)) (k15 ((y3.1++[r16.1]),r16.2)) none)
 (k15 (y3.1,r13.2))) λk4=>
 sA FU (λ(x5:(List Int)×Int×Int×Af) k6=>
 cond (decide (x5.2.2.1>0))
 (ob (Bb x5.2.2.2 6) λr7=>
 aA (λ(y8:Int×Af)=>
 ob (Ar y8.2 40) λr11=>
 ob (As r11.2 [0,0,20,1000]) λr12=>
 cond (decide (x5.1.length+[qA .i64 (iA .i64 y8.1 r11.1) r12.1].length≤bA)) (k6 ((x5.1++[qA .i64 (iA .i64 y8.1 r11.1) r12.1]),y8.1,(qA .i64 x5.2.2.1 1),r12.2)) none) λk9=>
 cond (r7.1)
 (ob (As r7.2 [1,32,900,1023,1024,1025,3000]) λr10=>
 k9 ((iA .i64 x5.2.1 r10.1),r10.2))
 (k9 (x5.2.1,r7.2)))
 (k4 (x5.1,x5.2.2.2))) ([],r1.1,r2.1,r2.2)
def Jd(a0:List Int):=
 ob (Fl) λr1=>
 aA (λ(y2:Aq)=>
 some y2) λk3=>
 sA FU (λ(x4:Int×Aq) k5=>
 cond (decide (x4.1<(a0.length:Int)))
 (ob (kA a0 x4.1) λe6=>
 ob (Ck x4.2 e6) λr7=>
 k5 ((iA .i64 x4.1 1),r7.1))
 (k3 x4.2)) (0,r1)
def Ht(a0:Af):=
 ob (Jc a0 12) λr1=>
 ob (Jd r1.1) λr2=>
 some (r2,r1.2)
def Hu(a0:Af)(a1:Int):=
 ob (Ay a0 12) λr1=>
 ob (Ay r1.2 32) λr2=>
 ob (Ei a1 r1.1 r2.1) λr3=>
 ob (As r2.2 [0,0,3,281474976709656,281474976710656]) λr4=>
 ob (Bb r4.2 3) λr5=>
 aA (λ(y6:Af×Ak)=>
 ob (Bb y6.1 2) λr9=>
 aA (λ(y10:Ak×Af)=>
 aA (λ(y20:Bool×Af)=>
 aA (λ(y23:Ak)=>
 some (y23,y20.2)) λk24=>
 cond (y20.1)
 (ob (ME y10.1.Cur.Key [114,101,107,101,121]) λr25=>
 k24 (⟨y10.1.Role,y10.1.Sn,y10.1.Cur,y10.1.Old,y10.1.HasOld,y10.1.Until,r25⟩:Ak))
 (k24 y10.1)) λk21=>
 cond (a1==0)
 (cond (decide (y10.1.Cur.N<4294967295))
 (ob (Bb y10.2 2) λr22=>
 k21 (r22.1,r22.2))
 (k21 (false,y10.2)))
 (k21 (false,y10.2))) λk11=>
 cond (r9.1)
 (ob (As r9.2 [1,1,2,4294967295]) λr12=>
 ob (ME y6.2.Cur.Key [114,101,107,101,121]) λr13=>
 ob (Ca r12.1 r13) λr14=>
 ob (As r12.2 [(-1),0,5,7,1000005]) λr15=>
 aA (λ(y16:Bool)=>
 aA (λ(y18:Ak)=>
 k11 (y18,r15.2)) λk19=>
 cond (y16)
 (k19 (⟨y6.2.Role,y6.2.Sn,r14,(⟨qA .i64 r14.N 1,y6.2.Cur.Key,y6.2.Cur.Seq,y6.2.Cur.Win⟩:Ax),true,5,y6.2.Next⟩:Ak))
 (k19 (⟨y6.2.Role,y6.2.Sn,r14,(⟨qA .i64 r14.N 1,y6.2.Cur.Key,y6.2.Cur.Seq,y6.2.Cur.Win⟩:Ax),true,r15.1,y6.2.Next⟩:Ak))) λk17=>
 cond (a1==0)
 (k17 (decide (r15.1<0)))
 (k17 false))
 (k11 (y6.2,r9.2))) λk7=>
 cond (r5.1)
 (ob (Ht r5.2) λr8=>
 k7 (r8.2,(⟨r3.Role,r3.Sn,(⟨r3.Cur.N,r3.Cur.Key,r4.1,r8.1⟩:Ax),r3.Old,r3.HasOld,r3.Until,r3.Next⟩:Ak)))
 (k7 (r5.2,(⟨r3.Role,r3.Sn,(⟨r3.Cur.N,r3.Cur.Key,r4.1,r3.Cur.Win⟩:Ax),r3.Old,r3.HasOld,r3.Until,r3.Next⟩:Ak)))
def Je(a0:Af):=
 ob (As a0 [0,0,1,2,4294967295]) λr1=>
 ob (Ay r1.2 32) λr2=>
 ob (Ca r1.1 r2.1) λr3=>
 let x4:List Int:=[0,0,1,5,281474976709655,281474976709656,281474976710655,281474976710656]
 ob (As r2.2 x4) λr5=>
 ob (Bb r5.2 3) λr6=>
 aA (λ(y7:Af×Ax)=>
 some (y7.2,y7.1)) λk8=>
 cond (r6.1)
 (ob (Ht r6.2) λr9=>
 k8 (r9.2,(⟨r3.N,r3.Key,r5.1,r9.1⟩:Ax)))
 (k8 (r6.2,(⟨r3.N,r3.Key,r5.1,r3.Win⟩:Ax)))
def Jf(a0:Af):=
 ob (Ht a0) λr1=>
 ob (Ar r1.2 12) λr2=>
 aA (λ(y3:Af×Aq)=>
 some (y3.2,y3.1)) λk4=>
 cond (r2.1==0)
 (ob (As r2.2 [(-2),(-1),0,700,281474976710656]) λr5=>
 k4 (r5.2,(⟨r5.1,r1.1.Bits⟩:Aq)))
 (aA (λ(y6:Af×Aq)=>
 k4 (y6.1,y6.2)) λk7=>
 cond (r2.1==1)
 (ob (Ar r2.2 32) λr8=>
 ob (As r8.2 [(-1),0,1,4294967295,4294967296]) λr9=>
 cond (decide (0≤r8.1)&&decide (r8.1<(r1.1.Bits.length:Int))) (ob (r1.1.Bits[r8.1.toNat]?) λe10=>
 k7 (r9.2,(⟨r1.1.Top,List.set r1.1.Bits r8.1.toNat r9.1⟩:Aq))) none)
 (aA (λ(y11:Af×Aq)=>
 k7 (y11.1,y11.2)) λk12=>
 cond (r2.1==2)
 (ob (Ar r2.2 32) λr13=>
 cond (decide (0≤(0:Int))&&decide ((0:Int)≤r13.1)&&decide (r13.1≤(r1.1.Bits.length:Int))) (k12 (r13.2,(⟨r1.1.Top,List.take ((r13.1 - 0).toNat) r1.1.Bits⟩:Aq))) none)
 (k12 (r2.2,r1.1))))
def Kf(a0:Af):=
 ob (Je a0) λr1=>
 ob (Ar r1.2 14) λr2=>
 aA (λ(y3:Af×Ax)=>
 some (y3.2,y3.1)) λk4=>
 cond (r2.1==0)
 (ob (As r2.2 [(-1),4294967296]) λr5=>
 k4 (r5.2,(⟨r5.1,r1.1.Key,r1.1.Seq,r1.1.Win⟩:Ax)))
 (aA (λ(y6:Af×Ax)=>
 k4 (y6.1,y6.2)) λk7=>
 cond (r2.1==1)
 (ob (As r2.2 [0,31,33]) λr8=>
 ob (Ay r8.2 r8.1) λr9=>
 k7 (r9.2,(⟨r1.1.N,r9.1,r1.1.Seq,r1.1.Win⟩:Ax)))
 (aA (λ(y10:Af×Ax)=>
 k7 (y10.1,y10.2)) λk11=>
 cond (r2.1==2)
 (ob (As r2.2 [(-1),281474976710657]) λr12=>
 k11 (r12.2,(⟨r1.1.N,r1.1.Key,r12.1,r1.1.Win⟩:Ax)))
 (aA (λ(y13:Af×Ax)=>
 k11 (y13.1,y13.2)) λk14=>
 cond (r2.1==3)
 (ob (Jf r2.2) λr15=>
 k14 (r15.2,(⟨r1.1.N,r1.1.Key,r1.1.Seq,r15.1⟩:Ax)))
 (k14 (r2.2,r1.1)))))
def Kg(a0:Af):=
 ob (Ar a0 2) λr1=>
 ob (Hu r1.2 r1.1) λr2=>
 ob (Ar r2.2 20) λr3=>
 aA (λ(y4:Af×Ak)=>
 some (y4.2,y4.1)) λk5=>
 cond (r3.1==0)
 (ob (As r3.2 [(-1),0,1,2]) λr6=>
 k5 (r6.2,(⟨r6.1,r2.1.Sn,r2.1.Cur,r2.1.Old,r2.1.HasOld,r2.1.Until,r2.1.Next⟩:Ak)))
 (aA (λ(y7:Af×Ak)=>
 k5 (y7.1,y7.2)) λk8=>
 cond (r3.1==1)
 (ob (Ay r3.2 11) λr9=>
 k8 (r9.2,(⟨r2.1.Role,r9.1,r2.1.Cur,r2.1.Old,r2.1.HasOld,r2.1.Until,r2.1.Next⟩:Ak)))
 (aA (λ(y10:Af×Ak)=>
 k8 (y10.1,y10.2)) λk11=>
 cond (r3.1==2)
 (ob (Kf r3.2) λr12=>
 k11 (r12.2,(⟨r2.1.Role,r2.1.Sn,r12.1,r2.1.Old,r2.1.HasOld,r2.1.Until,r2.1.Next⟩:Ak)))
 (aA (λ(y13:Af×Ak)=>
 k11 (y13.1,y13.2)) λk14=>
 cond (r3.1==3)
 (ob (Kf r3.2) λr15=>
 k14 (r15.2,(⟨r2.1.Role,r2.1.Sn,r2.1.Cur,r15.1,r2.1.HasOld,r2.1.Until,r2.1.Next⟩:Ak)))
 (aA (λ(y16:Ak×Af)=>
 k14 (y16.2,y16.1)) λk17=>
 cond (r3.1==4)
 (k17 ((⟨r2.1.Role,r2.1.Sn,r2.1.Cur,r2.1.Old,!r2.1.HasOld,r2.1.Until,r2.1.Next⟩:Ak),r3.2))
 (aA (λ(y18:Af×Ak)=>
 k17 (y18.2,y18.1)) λk19=>
 cond (r3.1==5)
 (ob (As r3.2 [(-2),(-1),1,1000006]) λr20=>
 k19 (r20.2,(⟨r2.1.Role,r2.1.Sn,r2.1.Cur,r2.1.Old,r2.1.HasOld,r20.1,r2.1.Next⟩:Ak)))
 (aA (λ(y21:Af×Ak)=>
 k19 (y21.1,y21.2)) λk22=>
 cond (r3.1==6)
 (ob (As r3.2 [0,31,32]) λr23=>
 ob (Ay r23.2 r23.1) λr24=>
 k22 (r24.2,(⟨r2.1.Role,r2.1.Sn,r2.1.Cur,r2.1.Old,r2.1.HasOld,r2.1.Until,r24.1⟩:Ak)))
 (k22 (r3.2,r2.1))))))))
end
end Go.D
namespace Go.D
end Go.D
namespace Go.D
def zwC{n:Nat}(h:n≤1048576):0≤EC .i64 (n:Int) 12∧EC .i64 (n:Int) 12≤1048576:=by
 unfold EC;rw[Int.tdiv_eq_ediv_of_nonneg (by omega),UB (by omega) (by omega)];omega
end Go.D
namespace Go.D
def ziM{a0 a1}(ha:a0.length≤1048576)(hb:0≤a1):Ok (Ke a0 a1) λr=>0≤r∧r≤a1:=by
 unfold Ke;refine have hq:=zwC ha;
 have hi:=AA (a:=3) (b:=EC .i64 (a0.length:Int) 12) ?_ ?_;
 .c (λh1=> .s ?_)
  λh1=> .s ?_
 all_goals (try simp only[NB]at *)<;>(try simp(disch:=omega) only[AA,IA]at *)<;>omega
def zqN{a0 a1}(ha:lA a0)(hb:0≤a1∧a1≤100):Ok (Jc a0 a1) λr=>wt r.1≤300∧lA r.2:=by
 unfold Jc;refine have hi:=AA (a:=a1) (b:=1) ?_ ?_;
 .b (aB (0) (281474976710000) ?_ (by simp) (by decide)) λr1 PV=> .b (NA ?_) λr2 dW=> .j (λy3:(List Int)×Af=>wt y3.1≤200∧lA y3.2) (λy3 QY=> .b (sE ?_) λr13 iX=> .j (λy14:(List Int)×Af=>wt y14.1≤300∧lA y14.2) (λy14 z0=> .s ?_)
  λk15 HW=> .c (λh1=> .b (aB (-1) (281474976710656) ?_ (by simp) (by decide)) λr16 fX=> .g ?_ (HW _ ?_))
  λh1=>HW _ ?_)
  λk4 UV=> .l (λx5:(List Int)×Int×Int×Af=>0≤x5.2.2.1∧x5.2.2.1≤101∧wt x5.1+x5.2.2.1≤110∧lA x5.2.2.2) (λx5:(List Int)×Int×Int×Af=>x5.2.2.1.toNat) (λx5 s9 k6 JW=> .c (λh2=> .b (sE ?_) λr7 MW=> .j (λy8:Int×Af=>lA y8.2) (λy8 o7=> .b (NA ?_) λr11 AW=> .b (aB (0) (1000) ?_ (by simp) (by decide)) λr12 BW=> .g ?_ (JW _ ?_ ?_))
  λk9 nX=> .c (λh3=> .b (aB (1) (3000) ?_ (by simp) (by decide)) λr10 sW=>nX _ ?_)
  λh3=>nX _ ?_)
  λh2=>UV _ ?_) ?_ ?_
 all_goals (try simp only[NB]at *)<;>(try simp(disch:=omega) only[AA,IA]at *)<;>omega
def zrH{a0}(ha:wt a0≤1000000):Ok (Jd a0) λr=>r.Bits.length=32:=by
 unfold Jd;refine have hw:=tB a0;
 .b ziY λr1 PV=> .j (λy2:Aq=>y2.Bits.length=32) (λy2 wW=> .s ?_)
  λk3 LV=> .l (λx4:Int×Aq=>0≤x4.1∧x4.1≤(a0.length:Int)∧x4.2.Bits.length=32) (λx4:Int×Aq=>((a0.length:Int) - x4.1).toNat) (λx4 bZ k5 iW=> .c (λh1=> .bi ?_ ?_ λe6 CY wX=> .b (zi4 ?_) λr7 MW=>iW _ ?_ ?_)
  λh1=>LV _ ?_) ?_ ?_
 all_goals (try simp only[NB]at *)<;>(try simp(disch:=omega) only[AA,IA]at *)<;>omega
def zfb{a0}(ha:lA a0):Ok (Ht a0) λr=>r.1.Bits.length=32∧lA r.2:=by
 unfold Ht;refine .b (zqN ?_ ?_) λr1 PV=> .b (zrH ?_) λr2 dW=> .s ?_
 all_goals (try simp only[NB]at *)<;>omega
def ze1{a0 a1}(ha:lA a0):Ok (Hu a0 a1) λr=>wt r.1≤1000∧lA r.2:=by
 unfold Hu
 refine .b (HB ?_ ?_) λr1 PV=> .b (HB ?_ ?_) λr2 dW=> .b (zeW ?_ ?_) λr3 pW=> .b (aB (0) (281474976710656) ?_ (by simp) (by decide)) λr4 WV=> .b (sE ?_) λr5 TV=> .j (λy6:Af×Ak=>lA y6.1∧wt y6.2≤300) (λy6 AX=> .b (sE ?_) λr9 UW=> .j (λy10:Ak×Af=>wt y10.1≤600∧lA y10.2) (λy10 VW=> .j (λy20:Bool×Af=>lA y20.2) (λy20 JY=> .j (λy23:Ak=>wt y23≤1000) (λy23 AZ=> .s ?_)
  λk24 cW=> .c (λh1=> .b (uM ?_) λr25 zX=>cW _ ?_)
  λh1=>cW _ ?_)
  λk21 oW=> .c (λh2=> .c (λh3=> .b (sE ?_) λr22 jX=>oW _ ?_)
  λh3=>oW _ ?_)
  λh2=>oW _ ?_)
  λk11 QV=> .c (λh4=> .b (aB (1) (4294967295) ?_ (by simp) (by decide)) λr12 BW=> .b (uM ?_) λr13 iX=> .b (zU ?_) λr14 qX=> .b (aB (-1) (1000005) ?_ (by simp) (by decide)) λr15 SW=> .jt (λy16=> .j (λy18:Ak=>wt y18≤600) (λy18 D0=>QV _ ?_)
  λk19 CW=> .c (λh5=>CW _ ?_)
  λh5=>CW _ ?_)
  λk17 nW=> .c (λ_=>nW _)
  λ_=>nW _)
  λh4=>QV _ ?_)
  λk7 VV=> .c (λh7=> .b (zfb ?_) λr8 zW=>VV _ ?_)
  λh7=>VV _ ?_
 all_goals (try simp only[NB]at *)<;>(try simp(disch:=omega) only[AA,IA]at *)<;>omega
def zr0{a0}(ha:lA a0):Ok (Je a0) λr=>wt r.1≤300∧lA r.2:=by
 unfold Je
 refine .b (aB (0) (4294967295) ?_ (by simp) (by decide)) λr1 PV=> .b (HB ?_ ?_) λr2 dW=> .b (zU ?_) λr3 pW=> .b (aB (0) (281474976710656) ?_ (by simp) (by decide)) λr5 TV=> .b (sE ?_) λr6 xW=> .j (λy7:Af×Ax=>lA y7.1∧wt y7.2≤300) (λy7 DY=> .s ?_)
  λk8 uW=> .c (λh1=> .b (zfb ?_) λr9 UW=>uW _ ?_)
  λh1=>uW _ ?_
 all_goals (try simp only[NB]at *)<;>omega
def zrp{a0}(ha:lA a0):Ok (Jf a0) λr=>wt r.1≤100∧lA r.2:=by
 unfold Jf
 refine .b (zfb ?_) λr1 PV=> .b (NA ?_) λr2 dW=> .j (λy3:Af×Aq=>lA y3.1∧wt y3.2≤100) (λy3 QY=> .s ?_)
  λk4 UV=> .c (λh1=> .b (aB (-2) (281474976710656) ?_ (by simp) (by decide)) λr5 TV=>UV _ ?_)
  λh1=> .j (λy6:Af×Aq=>lA y6.1∧wt y6.2≤100) (λy6 AX=>UV _ ?_)
  λk7 VV=> .c (λh2=> .b (NA ?_) λr8 zW=> .b (aB (-1) (4294967296) ?_ (by simp) (by decide)) λr9 UW=> .h ?_ (.bg ?_ λe10 cY oX=>VV _ (have:=BC r1.1.Bits r8.1.toNat r9.1;?_)))
  λh2=> .j (λy11:Af×Aq=>lA y11.1∧wt y11.2≤100) (λy11 cZ=>VV _ ?_)
  λk12 jW=> .c (λh3=> .b (NA ?_) λr13 iX=> .h ?_ (jW _ (have:=WD r1.1.Bits ((r13.1 - 0).toNat);?_)))
  λh3=>jW _ ?_
 all_goals (try simp only[NB]at *)<;>omega
def zjg{a0}(ha:lA a0):Ok (Kf a0) λr=>wt r.1≤500∧lA r.2:=by
 unfold Kf
 refine .b (zr0 ?_) λr1 PV=> .b (NA ?_) λr2 dW=> .j (λy3:Af×Ax=>lA y3.1∧wt y3.2≤500) (λy3 QY=> .s ?_)
  λk4 UV=> .c (λh1=> .b (aB (-1) (4294967296) ?_ (by simp) (by decide)) λr5 TV=>UV _ ?_)
  λh1=> .j (λy6:Af×Ax=>lA y6.1∧wt y6.2≤500) (λy6 AX=>UV _ ?_)
  λk7 VV=> .c (λh2=> .b (aB (0) (33) ?_ (by simp) (by decide)) λr8 zW=> .b (HB ?_ ?_) λr9 UW=>VV _ ?_)
  λh2=> .j (λy10:Af×Ax=>lA y10.1∧wt y10.2≤500) (λy10 VW=>VV _ ?_)
  λk11 QV=> .c (λh3=> .b (aB (-1) (281474976710657) ?_ (by simp) (by decide)) λr12 BW=>QV _ ?_)
  λh3=> .j (λy13:Af×Ax=>lA y13.1∧wt y13.2≤500) (λy13 kX=>QV _ ?_)
  λk14 RV=> .c (λh4=> .b (zrp ?_) λr15 SW=>RV _ ?_)
  λh4=>RV _ ?_
 all_goals (try simp only[NB]at *)<;>omega
def ziN{a0}(ha:lA a0):Ok (Kg a0) λr=>wt r.1≤2000∧lA r.2:=by
 unfold Kg
 refine .b (NA ?_) λr1 PV=> .b (ze1 ?_) λr2 dW=> .b (NA ?_) λr3 pW=> .j (λy4:Af×Ak=>lA y4.1∧wt y4.2≤2000) (λy4 rY=> .s ?_)
  λk5 iW=> .c (λh1=> .b (aB (-1) (2) ?_ (by simp) (by decide)) λr6 xW=>iW _ ?_)
  λh1=> .j (λy7:Af×Ak=>lA y7.1∧wt y7.2≤2000) (λy7 DY=>iW _ ?_)
  λk8 uW=> .c (λh2=> .b (HB ?_ ?_) λr9 UW=>uW _ ?_)
  λh2=> .j (λy10:Af×Ak=>lA y10.1∧wt y10.2≤2000) (λy10 VW=>uW _ ?_)
  λk11 QV=> .c (λh3=> .b (zjg ?_) λr12 BW=>QV _ ?_)
  λh3=> .j (λy13:Af×Ak=>lA y13.1∧wt y13.2≤2000) (λy13 kX=>QV _ ?_)
  λk14 RV=> .c (λh4=> .b (zjg ?_) λr15 SW=>RV _ ?_)
  λh4=> .j (λy16:Ak×Af=>wt y16.1≤2000∧lA y16.2) (λy16 vY=>RV _ ?_)
  λk17 nW=> .c (λh5=>nW _ ?_)
  λh5=> .j (λy18:Af×Ak=>lA y18.1∧wt y18.2≤2000) (λy18 D0=>nW _ ?_)
  λk19 CW=> .c (λh6=> .b (aB (-2) (1000006) ?_ (by simp) (by decide)) λr20 IY=>CW _ ?_)
  λh6=> .j (λy21:Af×Ak=>lA y21.1∧wt y21.2≤2000) (λy21 D1=>CW _ ?_)
  λk22 XW=> .c (λh7=> .b (aB (0) (32) ?_ (by simp) (by decide)) λr23 gZ=> .b (HB ?_ ?_) λr24 yX=>XW _ ?_)
  λh7=>XW _ ?_
 all_goals (try simp only[NB]at *)<;>omega
end Go.D

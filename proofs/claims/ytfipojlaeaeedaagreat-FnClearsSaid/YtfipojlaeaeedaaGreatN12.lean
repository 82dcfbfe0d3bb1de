/-
 Sizes of the program's data.
-/
import Derived.Test.YtfipojlaeaeedaaGreatN10
set_option linter.all false
namespace Go.D
end Go.D
namespace Go.D
end Go.D
namespace Go.D
open Option renaming bind→ob
noncomputable section
def Jo(a0:Ah):=
 ob (Ap a0 5) λr1=>
 let r2:Ae:=uB r1.1
 ob (Df r2) λr3=>
 ob (Ap r1.2 6) λr4=>
 ob (Ap r4.2 5) λr5=>
 aA (λ(y6:Ah×Aj)=>
 some (y6.2,y6.1)) λk7=>
 uA FU (λ(x8:Int×Int×Ah×Aj) k9=>
 cond (decide (x8.2.1>0))
 (ob (Ap x8.2.2.1 7) λr10=>
 let r11:Ae:=uB r10.1
 ob (Bb r10.2 12) λr12=>
 ob (Dk x8.2.2.2 x8.1 r11 r12.1) λr13=>
 ob (Ap r12.2 3) λr14=>
 k9 ((iA .i64 x8.1 r14.1),(oA .i64 x8.2.1 1),r14.2,r13.1))
 (k7 (x8.2.2.1,x8.2.2.2))) (r4.1,r5.1,r5.2,r3)
def Do(a0:Ah)(a1:Int):=
 ob (Ap a0 (iA .i64 a1 1)) λr1=>
 aA (λ(y2:(List Ag)×Ah)=>
 some (y2.1,y2.2)) λk3=>
 uA FU (λ(x4:(List Ag)×Int×Ah) k5=>
 cond (decide (x4.2.1>0))
 (ob (Ap x4.2.2 10) λr6=>
 let r7:Ae:=uB r6.1
 ob (Ax r6.2 [0,1,34,60,999999,1000000]) λr8=>
 ob (Cu x4.1 r7 r8.1) λr9=>
 ob (Ax r8.2 [0,3,45,102,1000]) λr10=>
 ob (Dl r9 r7 r10.1) λr11=>
 k5 (r11.1,(oA .i64 x4.2.1 1),r10.2))
 (k3 (x4.1,x4.2.2))) ([],r1.1,r1.2)
def Jp(a0:Ah):=
 ob (Do a0 14) λr1=>
 cond ((r1.1.length:Int)==0)
 (some (r1.1,r1.2))
 (ob (Ap r1.2 (r1.1.length:Int)) λr2=>
 ob (Ap r2.2 10) λr3=>
 aA (λ(y4:(List Ag)×Ah)=>
 some (y4.1,y4.2)) λk5=>
 cond (r3.1==0)
 (ob (Jn r3.2) λr6=>
 cond (decide (0≤r2.1)&&decide (r2.1<(r1.1.length:Int))) (ob (r1.1[r2.1.toNat]?) λe7=>
 let l8:List Ag:=List.set r1.1 r2.1.toNat (⟨r6.1,e7.Got,e7.Sent⟩:Ag)
 k5 (l8,r6.2)) none)
 (aA (λ(y9:(List Ag)×Ah)=>
 k5 (y9.1,y9.2)) λk10=>
 cond (r3.1==1)
 (ob (Ax r3.2 [(-1),0,1000001]) λr11=>
 cond (decide (0≤r2.1)&&decide (r2.1<(r1.1.length:Int))) (ob (r1.1[r2.1.toNat]?) λe12=>
 let l13:List Ag:=List.set r1.1 r2.1.toNat (⟨e12.A,r11.1,e12.Sent⟩:Ag)
 k10 (l13,r11.2)) none)
 (aA (λ(y14:(List Ag)×Ah)=>
 k10 (y14.1,y14.2)) λk15=>
 cond (r3.1==2)
 (cond (decide (0≤r2.1)&&decide (r2.1<(r1.1.length:Int))) (ob (r1.1[r2.1.toNat]?) λe16=>
 ob (Ax r3.2 [(-1),0,iA .i64 (BB .i64 3 e16.Got) 1]) λr17=>
 cond (decide (0≤r2.1)&&decide (r2.1<(r1.1.length:Int))) (ob (r1.1[r2.1.toNat]?) λe18=>
 let l19:List Ag:=List.set r1.1 r2.1.toNat (⟨e18.A,e18.Got,r17.1⟩:Ag)
 k15 (l19,r17.2)) none) none)
 (aA (λ(y20:(List Ag))=>
 k15 (y20,r3.2)) λk21=>
 cond (r3.1==3)
 (cond (decide (0≤r2.1)&&decide (r2.1<(r1.1.length:Int))) (ob (r1.1[r2.1.toNat]?) λe22=>
 cond (decide (r1.1.length+[e22].length≤bA)) (k21 (r1.1++[e22])) none) none)
 (k21 r1.1)))))
end
end Go.D
namespace Go.D
end Go.D
namespace Go.D
def znv{c:Ah}{l:List Int}(h:GA c)(hl:l≠[]):Ok (Ax c l) λr=>GA r.2:=(zbj h hl).mono λr hr=>hr.2
end Go.D
namespace Go.D
def zhV{a0}(ha:GA a0):Ok (Jo a0) λr=>wt r.1≤8500∧GA r.2:=by
 unfold Jo
 refine .b (zB ?_) λr1 WV=> .b zcl λr3 wW=> .b (zB ?_) λr4 bW=> .b (zB ?_) λr5 NW=> .j (λy6:Ah×Aj=>GA y6.1∧wt y6.2≤8500) (λy6 K3=> .s ?_)
  λk7 tX=> .l (λx8:Int×Int×Ah×Aj=>0≤x8.2.1∧x8.2.1≤5∧GA x8.2.2.1∧wt x8.2.2.2+1700 *x8.2.1≤8500) (λx8:Int×Int×Ah×Aj=>x8.2.1.toNat) (λx8 A9 k9 uX=> .c (λh1=> .b (zB ?_) λr10 QX=> .b (TG ?_ ?_) λr12 MY=> .b (zcH ?_ ?_) λr13 Q2=> .b (zB ?_) λr14 A0=>uX _ ?_ ?_)
  λh1=>tX _ ?_) ?_ ?_
 all_goals (try simp only[NB]at *)<;>(try simp(disch:=omega) only[nB,rB]at *)<;>omega
def zco{a0 a1}(ha:GA a0)(hb:0≤a1∧a1≤100):Ok (Do a0 a1) λr=>wt r.1≤102∧GA r.2:=by
 unfold Do;refine have hi:=nB (a:=a1) (b:=1) ?_ ?_;
 .b (zB ?_) λr1 WV=> .j (λy2:(List Ag)×Ah=>wt y2.1≤102∧GA y2.2) (λy2 AW=> .s ?_)
  λk3 OV=> .l (λx4:(List Ag)×Int×Ah=>0≤x4.2.1∧x4.2.1≤101∧wt x4.1+x4.2.1≤102∧GA x4.2.2) (λx4:(List Ag)×Int×Ah=>x4.2.1.toNat) (λx4 hx4 k5 SW=> .c (λh1=> .b (zB ?_) λr6 dX=> .b (DE (0) (1000000) ?_ (by simp) (by decide)) λr8 KZ=> .b (zcV ?_) λr9 Z4=> .b (DE (0) (1000) ?_ (by simp) (by decide)) λr10 QX=> .b (zcM ?_) λr11 kZ=>SW _ ?_ ?_)
  λh1=>OV _ ?_) ?_ ?_
 all_goals (try simp only[NB]at *)<;>(try simp(disch:=omega) only[nB,rB]at *)<;>omega
def zig{a0}(ha:GA a0):Ok (Jp a0) λr=>wt r.1≤10000∧GA r.2:=by
 unfold Jp
 refine .b (zco ?_ ?_) λr1 WV=>have hlw:=lC r1.1; .c (λh1=> .s ?_)
  λh1=> .b (zB ?_) λr2 HW=> .b (zB ?_) λr3 wW=> .j (λy4:(List Ag)×Ah=>wt y4.1≤10000∧GA y4.2) (λy4 J2=> .s ?_)
  λk5 SW=> .c (λh2=> .b (zi1 ?_) λr6 dX=> .h ?_ (.bg ?_ λe7 n5 mZ=>SW _ (have:=gC r1.1 r2.1.toNat (⟨r6.1,e7.Got,e7.Sent⟩:Ag);?_)))
  λh2=> .j (λy9:(List Ag)×Ah=>wt y9.1≤10000∧GA y9.2) (λy9 F7=>SW _ ?_)
  λk10 kW=> .c (λh3=> .b (DE (-1) (1000001) ?_ (by simp) (by decide)) λr11 kZ=> .h ?_ (.bg ?_ λe12 M9 D5=>kW _ (have:=gC r1.1 r2.1.toNat (⟨e12.A,r11.1,e12.Sent⟩:Ag);?_)))
  λh3=> .j (λy14:(List Ag)×Ah=>wt y14.1≤10000∧GA y14.2) (λy14 t9=>kW _ ?_)
  λk15 RX=> .c (λh4=> .h ?_ (.bg ?_ λe16 u9 o5=> .b (znv ?_ (by simp)) λr17 d5=> .h ?_ (.bg ?_ λe18 C5 W0=>RX _ (have:=gC r1.1 r2.1.toNat (⟨e18.A,e18.Got,r17.1⟩:Ag);?_))))
  λh4=> .j (λy20:(List Ag)=>wt y20≤10000) (λy20 E5=>RX _ ?_)
  λk21 IX=> .c (λh5=> .h ?_ (.bg ?_ λe22 he22 he22w=> .g ?_ (IX _ ?_)))
  λh5=>IX _ ?_
 all_goals (try simp only[NB]at *)<;>(try simp(disch:=omega) only[nB,rB]at *)<;>omega
end Go.D
namespace Go.D
end Go.D

/-
 The reference's machine comes to an end, and what it gives is small.
-/
import Derived.Test.YthmhafeaiaigoaaGreatN8c
set_option linter.all false
namespace Go.D
def nd(k:Int):Int:=if k≤3 then 0 else if k=4∨k=9 then 1 else if k=10 then 3 else 2
def zzH(k:Int):0≤nd k∧nd k≤3∧(k=4→nd k=1)∧(k=5→nd k=2)∧(k=6→nd k=2)∧(k=7→nd k=2)∧(k=8→nd k=2)∧(k=9→nd k=1)∧(k=10→nd k=3):=by
 unfold nd
 repeat' split
 all_goals omega
def zaZ{a0}(ha:0≤a0∧a0≤10):Ok (Dk a0) λr=>r=nd a0∧0≤nd a0∧nd a0≤3:=by
 have:a0=0∨a0=1∨a0=2∨a0=3∨a0=4∨a0=5∨a0=6∨a0=7∨a0=8∨a0=9∨a0=10:=by omega
 rcases this with rfl | rfl | rfl | rfl | rfl | rfl | rfl | rfl | rfl | rfl | rfl<;>exact⟨_,rfl,by decide⟩
def zjj{a0}(ha:mA a0):Ok (Kk a0) λr=>mA r.2∧r.1.B.length≤32∧1≤r.1.Kind∧r.1.Kind≤10:=by
 unfold Kk
 refine .b (cB (1) (10) ?_ (by simp) (by decide)) λr1 NV=> .j (λy2:Af×Bc=>mA y2.1∧y2.2.B.length≤32∧1≤y2.2.Kind∧y2.2.Kind≤10) (λy2 xW=> .b (SA ?_) λr6 vW=> .b (cB (0) (16) ?_ (by simp) (by decide)) λr7 HW=> .s ?_)
  λk3 JV=> .c (λh1=> .b (cB (0) (32) ?_ (by simp) (by decide)) λr4 UV=> .b (QB ?_ ?_) λr5 RV=>JV _ ?_)
  λh1=>JV _ ?_
 all_goals (try simp only[NB]at *)<;>omega
def zpx{a0 a1}(ha:mA a0)(hb:0<a1∧a1≤20):Ok (Iz a0 a1) λr=>mA r.2∧wt r.1≤1000:=by
 unfold Iz
 refine .b (SA ?_) λr1 NV=> .j (λy2:(List Bc)×Int×Af=>mA y2.2.2∧wt y2.1≤700∧y2.2.1≤21) (λy2 xW=> .j (λy16:(List Bc)=>wt y16≤1000) (λy16 sY=> .s ?_)
  λk17 iW=> .l (λx18:(List Bc)×Int=>wt x18.1+x18.2≤730∧wt x18.1≤729∧x18.2≤30) (λx18:(List Bc)×Int=>x18.2.toNat) (λx18 H7 k19 FW=> .c (λh1=> .g ?_ (FW _ ?_ ?_))
  λh1=>iW _ ?_) ?_ ?_)
  λk3 JV=> .l (λx4:(List Bc)×Int×Int×Af=>0≤x4.2.2.1∧x4.2.2.1≤20∧wt x4.1+33 *x4.2.2.1≤660∧x4.2.1+x4.2.2.1≤20∧ -2 *20≤x4.2.1 - 2 *x4.2.2.1∧mA x4.2.2.2) (λx4:(List Bc)×Int×Int×Af=>x4.2.2.1.toNat) (λx4 P5 k5 dW=> .c (λh2=> .b (zjj ?_) λr6 vW=> .j (λy7:Af×Bc=>mA y7.1∧y7.2.B.length≤32∧1≤y7.2.Kind∧y7.2.Kind≤10) (λy7 aY=> .b (zaZ ?_) λr15 NW=> .g ?_ (dW _ ?_ ?_))
  λk8 pW=> .l (λx9:Int×Af×Bc=>0≤x9.1∧x9.1≤6∧mA x9.2.1∧x9.2.2.B.length≤32∧1≤x9.2.2.Kind∧x9.2.2.Kind≤10) (λx9:Int×Af×Bc=>(6 - x9.1).toNat) (λx9 hx9 k10 OV=> .j (λy11:Bool=>y11=true→x9.1<6) (λy11 XY=> .c (λh3=>have i4:=XY h3; .b (zjj ?_) λr14 lX=>OV _ ?_ ?_)
  λh3=>pW _ ?_)
  λk12 jW=> .c (λh5=> .b (zaZ ?_) λr13 eX=>jW _ λq6=>?_)
  λ_=>jW _ nofun) ?_ ?_)
  λh2=>JV _ ?_) ?_ ?_
 all_goals (try simp only[NB]at *)<;>(try simp(disch:=omega) only[DA,LA]at *)<;>omega
def zqJ{a0}(ha:mA a0):Ok (Ja a0) λr=>mA r.2.2∧r.2.1.length≤40:=by
 unfold Ja
 refine .b (SA ?_) λr1 NV=> .c (λh1=> .b (SA ?_) λr2 eW=> .b (QB ?_ ?_) λr3 uW=> .s ?_)
  λh1=> .c (λh2=> .b (SA ?_) λr4 UV=> .b (QB ?_ ?_) λr5 RV=> .s ?_)
  λh2=> .b (cB (0) (40) ?_ (by simp) (by decide)) λr6 vW=> .b (QB ?_ ?_) λr7 HW=> .s ?_
 all_goals (try simp only[NB]at *)<;>(try simp(disch:=omega) only[DA,LA]at *)<;>omega
def zqs{a0 a1 a2 a3}(ha:mA a0)(hb:wt a1≤900000000)(hc:2≤a1.Clients.length):Ok (Jc a0 a1 a2 a3) λr=>wt r.1≤3000∧mA r.2.1:=by
 unfold Jc;refine have uY:=zB a1.Known;
 .b (SA ?_) λr1 NV=> .b (SA ?_) λr2 eW=> .b (SA ?_) λr3 uW=> .j (λy4:Bool×Af=>mA y4.2) (λy4 MY=> .c (λh1=> .s ?_)
  λh1=> .j (λy7:Bool×Af=>mA y7.2) (λy7 aY=> .c (λh2=> .s ?_)
  λh2=> .b (SA ?_) λr11 zW=> .jt (λy12=> .j (λy16:Am×Af×Am=>wt y16.1≤3000∧mA y16.2.1) (λy16 sY=> .s ?_)
  λk17 iW=> .c (λh3=> .b (SA ?_) λr18 ZX=> .b (QB ?_ ?_) λr19 IX=>iW _ ?_)
  λh3=> .jt (λy20=> .j (λy22:Am×Af×Am=>wt y22.1≤3000∧mA y22.2.1) (λy22 Y4=>iW _ ?_)
  λk23 bY=> .c (λh4=> .b (SA ?_) λr24 uX=> .b (SA ?_) λr25 vX=> .b (QB ?_ ?_) λr26 JX=>bY _ ?_)
  λh4=> .jt (λy27=> .j (λy29:Am×Af×Am=>wt y29.1≤3000∧mA y29.2.1) (λy29 o7=>bY _ ?_)
  λk30 UY=> .c (λh5=>UY _ ?_)
  λh5=> .j (λy31:Am×Af×Am=>wt y31.1≤3000∧mA y31.2.1) (λy31 t5=>UY _ ?_)
  λk32 YY=> .c (λh6=>YY _ ?_)
  λh6=> .jt (λy33=> .j (λy35:Am×Af×Am=>wt y35.1≤3000∧mA y35.2.1) (λy35 s7=>YY _ ?_)
  λk36 rY=> .c (λh7=>rY _ ?_)
  λh7=> .b (SA ?_) λr37 d5=> .b (SA ?_) λr38 hr38=> .j (λy39:Bool×Af=>mA y39.2) (λy39 hy39=> .j (λy42:Af×Am=>mA y42.1∧wt y42.2≤500) (λy42 V2=> .b (SA ?_) λr46 hr46=> .c (λh8=> .s ?_)
  λh8=> .b (SA ?_) λr47 hr47=> .jt (λy48=> .j (λy50:Am×Af=>wt y50.1≤3000∧mA y50.2) (λy50 hy50=>rY _ ?_)
  λk51 D1=> .c (λh9=> .b (zpx ?_ ?_) λr52 hr52=> .j (λy53:Af×Am=>mA y53.1∧wt y53.2≤3000) (λy53 hy53=>D1 _ ?_)
  λk54 I7=> .c (λtW=> .b (SA ?_) λr55 hr55=> .bi ?_ ?_ λe56 he56 C7=> .j (λy57:Bool×Af=>mA y57.2) (λy57 hy57=> .j (λy60:(List UInt8)=>y60.length≤900000000) (λy60 J7=> .b (zqJ ?_) λr63 hr63=> .bi ?_ ?_ λe64 he64 K7=> .b (SA ?_) λr65 hr65=> .b (SA ?_) λr66 hr66=> .b (SA ?_) λr67 L7=> .b (zrJ ?_ ?_ ?_) λr68 hr68=> .j (λy69:Am=>wt y69≤3000) (λy69 hy69=>I7 _ ?_)
  λk70 E1=> .c (λGW=>E1 _ ?_)
  λGW=>E1 _ ?_)
  λk61 ZY=> .c (λUW=> .bi ?_ ?_ λe62 he62 M7=>ZY _ ?_)
  λUW=>ZY _ ?_)
  λk58 N7=> .c (λnX=>N7 _ ?_)
  λnX=> .b (KE ?_) λr59 O7=>N7 _ ?_)
  λtW=>I7 _ ?_)
  λh9=> .j (λy71:Am×Af=>wt y71.1≤3000∧mA y71.2) (λy71 hy71=>D1 _ ?_)
  λk72 P7=> .c (λjY=>P7 _ ?_)
  λjY=> .j (λy73:Am×Af=>wt y73.1≤3000∧mA y73.2) (λy73 hy73=>P7 _ ?_)
  λk74 Q7=> .c (λHY=>Q7 _ ?_)
  λHY=> .j (λy75:Am×Af=>wt y75.1≤3000∧mA y75.2) (λy75 hy75=>Q7 _ ?_)
  λk76 F1=> .c (λNY=> .b (SA ?_) λr77 hr77=>F1 _ ?_)
  λNY=> .j (λy78:Am×Af=>wt y78.1≤3000∧mA y78.2) (λy78 hy78=>F1 _ ?_)
  λk79 R7=> .c (λxZ=>R7 _ ?_)
  λxZ=> .j (λy80:Am×Af=>wt y80.1≤3000∧mA y80.2) (λy80 hy80=>R7 _ ?_)
  λk81 S7=> .c (λM1=> .b (SA ?_) λr82 hr82=>S7 _ ?_)
  λM1=> .j (λy83:Af×Am=>mA y83.1∧wt y83.2≤3000) (λy83 hy83=>S7 _ ?_)
  λk84 T7=> .c (λOZ=> .b (KE ?_) λr85 hr85=> .j (λy86:Am×Af=>wt y86.1≤3000∧mA y86.2) (λy86 hy86=>T7 _ ?_)
  λk87 U7=> .c (λPZ=> .b (SA ?_) λr88 hr88=>U7 _ ?_)
  λPZ=>U7 _ ?_)
  λOZ=> .j (λy89:Am×Af=>wt y89.1≤3000∧mA y89.2) (λy89 hy89=>T7 _ ?_)
  λk90 I1=> .c (λV1=> .b (cB (2) (4) ?_ (by simp) (by decide)) λr91 hr91=> .b (cB (24) (44) ?_ (by simp) (by decide)) λr92 hr92=>I1 _ ?_)
  λV1=>I1 _ ?_)
  λk49 J1=> .c (λ_=>J1 _)
  λ_=>J1 _)
  λk43 dY=> .c (λH0=> .b (SA ?_) λr44 s5=>dY _ ?_)
  λH0=>dY _ ?_)
  λk40 A0=> .c (λX1=> .b (KE ?_) λr41 A1=>A0 _ ?_)
  λX1=>A0 _ ?_)
  λk34 uZ=> .c (λ_=>uZ _)
  λ_=>uZ _)
  λk28 cX=> .c (λ_=>cX _)
  λ_=>cX _)
  λk21 kW=> .c (λ_=>kW _)
  λ_=>kW _)
  λk13 XV=> .c (λ_=>XV _)
  λH8=> .jt (λy14=>XV _)
  λk15 ZW=> .c (λ_=>ZW _)
  λ_=>ZW _)
  λk8 pW=> .bi ?_ ?_ λe9 LZ CY=> .c (λS5=> .b (KE ?_) λr10 rW=>pW _ ?_)
  λS5=>pW _ ?_)
  λk5 dW=> .c (λT5=> .b (KE ?_) λr6 vW=>dW _ ?_)
  λT5=>dW _ ?_
 all_goals (try simp only[NB]at *)<;>(try simp(disch:=omega) only[DA,LA]at *)<;>omega
def zq1{a0}:Ok (Da a0) λr=>(True)∧(r=true→1≤a0.Kind∧a0.Kind≤10∧a0.B.length≤200∧0≤a0.I∧0≤a0.J):=by
 unfold Da
 refine .j (λy1:Bool=>y1=true→1≤a0.Kind∧a0.Kind≤10∧a0.B.length≤200∧0≤a0.I∧0≤a0.J) (λy1 lW=> .s ⟨trivial,λq1=>have i2:=lW q1;?_⟩)
  λk2 IV=> .c (λh3=> .c (λh4=> .c (λh5=>IV _ λq6=>?_)
  λ_=>IV _ nofun)
  λ_=>IV _ nofun)
  λ_=>IV _ nofun
 all_goals (try simp only[NB]at *)<;>omega
def zsb{a0 a1 a2}(ha:wt a0≤300000)(hb:wt a1≤500000000)(hc:wt a2≤500000000):Ok (Fu a0 a1 a2) λr=>r.1.length≤10000:=by
 unfold Fu
 refine .c (λh1=> .s ?_)
  λh1=> .j (λy1:(List (List UInt8))=>wt y1≤3300) (λy1 lW=>have hyw:=zB y1; .c (λh2=> .s ?_)
  λh2=> .h ?_ (.bg ?_ λe71 he71 V7=> .g ?_ (.s ?_)))
  λk2 IV=> .l (λx3:(List (List UInt8))×Int=>0≤x3.2∧x3.2≤(a0.length:Int)∧wt x3.1≤201 *x3.2) (λx3:(List (List UInt8))×Int=>((a0.length:Int) - x3.2).toNat) (λx3 DY k4 QV=>have hpw:=zB x3.1; .c (λh3=> .bi ?_ ?_ λe5 BX tX=>have S4:=zzH e5.Kind; .j (λy6:Bool=>y6=false→1≤e5.Kind∧e5.Kind≤10∧e5.B.length≤200∧0≤e5.I∧0≤e5.J∧nd e5.Kind≤(x3.1.length:Int)) (λy6 xX=> .c (λh4=> .s ?_)
  λh4=>have i5:=xX h4; .b (zaZ ?_) λr10 rW=> .j (λy11:(List UInt8)=>y11.length≤500000000) (λy11 XY=> .j (λy68:Bool=>y68=false→y11.length≤200) (λy68 hy68=> .c (λh6=> .s ?_)
  λh6=>have i7:=hy68 h6; .h ?_ (.g (have:=wD x3.1 ((sA .i64 (x3.1.length:Int) r10 - 0).toNat);?_) (QV _ (have:=wD x3.1 ((sA .i64 (x3.1.length:Int) r10 - 0).toNat);?_) (have:=wD x3.1 ((sA .i64 (x3.1.length:Int) r10 - 0).toNat);?_))))
  λk69 W7=> .c (λ_=>W7 _ nofun)
  λh8=>W7 _ λq9=>?_)
  λk12 jW=> .c (λtW=> .g ?_ (jW _ ?_))
  λtW=> .j (λy13:(List UInt8)=>y13.length≤500000000) (λy13 EX=>jW _ ?_)
  λk14 SV=> .c (λGW=> .c (λUW=> .s ?_)
  λUW=> .bi ?_ ?_ λe15 VY WY=> .g ?_ (SV _ ?_))
  λGW=> .j (λy16:(List UInt8)=>y16.length≤500000000) (λy16 sY=>SV _ ?_)
  λk17 iW=> .c (λnX=> .c (λjY=> .s ?_)
  λjY=> .bi ?_ ?_ λe18 o5 z1=> .g ?_ (iW _ ?_))
  λnX=> .j (λy19:(List UInt8)=>y19.length≤500000000) (λy19 hy19=>iW _ ?_)
  λk20 eY=> .c (λHY=> .h ?_ (.bg ?_ λe21 he21 he21w=> .b (zwS ?_) λr22 fX=> .c (λNY=> .s ?_)
  λNY=>eY _ ?_))
  λHY=> .j (λy23:(List UInt8)=>y23.length≤500000000) (λy23 sZ=>eY _ ?_)
  λk24 oW=> .c (λxZ=> .h ?_ (.bg ?_ λe25 he25 X7=> .g ?_ (.h ?_ (.bg ?_ λe27 Y7 U3=> .g ?_ (oW _ ?_)))))
  λxZ=> .j (λy28:(List UInt8)=>y28.length≤500000000) (λy28 v5=>oW _ ?_)
  λk29 fY=> .c (λM1=> .h ?_ (.bg ?_ λe30 Z7 he30w=> .h ?_ (.bg ?_ λe32 b8 d8=> .c (λOZ=> .s ?_)
  λOZ=> .j (λy33:(List UInt8)=>y33.length≤500000000) (λy33 hy33=>fY _ ?_)
  λk34 uZ=> .l (λx35:(List UInt8)×Int=>0≤x35.2∧x35.2≤(e30.length:Int)∧(x35.1.length:Int)=x35.2) (λx35:(List UInt8)×Int=>((e30.length:Int) - x35.2).toNat) (λx35 hx35 k36 rY=> .h ?_ (.m Z7 (.c (λPZ=> .h ?_ (.m Z7 (.bi ?_ ?_ λe39 he39 he39w=> .h ?_ (.m b8 (.bi ?_ ?_ λe42 he42 he42w=> .g ?_ (rY _ ?_ ?_))))))
  λPZ=>uZ _ ?_))) ?_ ?_)))
  λM1=> .j (λy44:(List UInt8)=>y44.length≤500000000) (λy44 hy44=>fY _ ?_)
  λk45 g8=> .c (λV1=> .h ?_ (.bg ?_ λe46 he46 he46w=> .h ?_ (.bg ?_ λe48 he48 he48w=>have hhm:=iL e46 e48;g8 _ ?_)))
  λV1=> .j (λy50:(List UInt8)=>y50.length≤500000000) (λy50 hy50=>g8 _ ?_)
  λk51 D1=> .c (λW1=> .h ?_ (.bg ?_ λe52 he52 he52w=> .h ?_ (.bg ?_ λe54 he54 he54w=> .b jV λr55 hr55=>D1 _ ?_)))
  λW1=> .j (λy56:(List UInt8)=>y56.length≤500000000) (λy56 hy56=>D1 _ ?_)
  λk57 j8=> .c (λH0=> .h ?_ (.bg ?_ λe58 he58 D7=> .b (rM ?_) λr59 O7=>j8 _ ?_))
  λH0=> .j (λy60:(List UInt8)=>y60.length≤500000000) (λy60 J7=>j8 _ ?_)
  λk61 ZY=> .c (λX1=> .h ?_ (.bg ?_ λe62 he62 M7=> .h ?_ (.bg ?_ λe64 he64 K7=> .h ?_ (.bg ?_ λe66 he66 he66w=> .b (zfN ?_ ?_) λr67 L7=>ZY _ ?_))))
  λX1=>ZY _ ?_)
  λk7 TV=> .b zq1 λr8 ⟨sW,hr8i⟩=> .c (λ_=>TV _ nofun)
  λD5=>have i26:=hr8i (nf D5); .b (zaZ ?_) λr9 QW=>TV _ λq27=>?_)
  λh3=>IV _ ?_) ?_ ?_
 all_goals (try simp only[NB]at *)<;>(try simp(disch:=omega) only[DA,LA]at *)<;>omega
def zjZ{a0 a1}(ha:wt a0≤1000000000):Ok (Fw a0 a1) λr=>wt r≤wt a0:=by
 unfold Fw
 refine .m (qA ?_) (.jt (λy2=> .j (λy4:Au=>wt y4≤wt a0) (λy4 MY=> .s ?_)
  λk5 dW=> .c (λh1=>dW _ ?_)
  λh1=>dW _ ?_)
  λk3 JV=> .c (λ_=>JV _)
  λ_=>JV _)
 all_goals (try simp only[NB]at *)<;>omega
def ZP{a0 a1 a2}(ha:wt a0≤1000000000)(hb:wt a1≤1000)(hc:wt a2≤1000000)(hd:TW a0):Ok (Cc a0 a1 a2) λr=>wt r≤wt a0+1003000+wt a2∧wt r.Clients+wt r.S≤wt a0.Clients+wt a0.S∧TW r:=by
 unfold Cc;refine have hw:=zB a1;
 .j (λy1:Aa=>wt y1≤wt a0+1003000∧wt y1.Clients+wt y1.S≤wt a0.Clients+wt a0.S∧TW y1) (λy1 lW=> .g ?_ (.s ?_))
  λk2 IV=> .l (λx3:Int×Aa=>0≤x3.1∧x3.1≤(a1.length:Int)∧wt x3.2≤wt a0+1001 *x3.1∧wt x3.2.Clients+wt x3.2.S≤wt a0.Clients+wt a0.S∧TW x3.2) (λx3:Int×Aa=>((a1.length:Int) - x3.1).toNat) (λx3 DY k4 QV=> .c (λh1=> .j (λy5:Aa=>wt y5≤wt a0+1001 *x3.1+1001∧wt y5.Clients+wt y5.S≤wt a0.Clients+wt a0.S∧TW y5) (λy5 O5=>QV _ ?_ ?_)
  λk6 CW=> .c (λh2=> .bi ?_ ?_ λe7 MZ pY=> .g ?_ (CW _ ?_))
  λh2=>CW _ ?_)
  λh1=>IV _ ?_) ?_ ?_
 all_goals (try simp only[NB]at *)<;>(try simp(disch:=omega) only[DA,LA]at *)<;>omega
def zaP{a0 a1 a2 a3 a4}(ha:wt a0≤900000000)(hb:wt a2≤zh5 a0.Clients a1.toNat+2000)(hc:a3.length≤3)(hd:wt a3≤1000000)(he:wt a4≤1000000)(hf:TW a0)(hg:0≤a1∧a1≤1)(hh:a2.Id=uJ a0.Clients a1.toNat):Ok (Dl a0 a1 a2 a3 a4) λr=>wt r≤wt a0+1006000+wt a4∧wt r.Clients+wt r.S≤wt a0.Clients+wt a0.S+2000∧TW r:=by
 unfold Dl;refine .h ?_ (.bg ?_ λe1 KY m7=>have hwa:=xO KY;have JY:=GM (l:=a0.Clients) (i:=a1.toNat) (x:=a2) (by have:=GG KY;omega) (RM KY) 0;have FX:=GM (l:=a0.Clients) (i:=a1.toNat) (x:=a2) (by have:=GG KY;omega) (RM KY) 1;have n9:=mS (x:=a2) KY; .b (zfd ?_ ?_) λr2 eW=> .b (ZP (have:=EC a0.Clients a1.toNat a2;?_) (have:=EC a0.Clients a1.toNat a2;?_) (have:=EC a0.Clients a1.toNat a2;?_) (have:=EC a0.Clients a1.toNat a2;?_)) λr3 uW=> .s ?_)
 all_goals (try simp only[NB]at *)<;>omega
def zp3{a0 a1 a2 a3}(ha:wt a0≤900000000)(hb:wt a3≤900000000)(hc:TW a0)(hd:0≤a1∧a1≤2):Ok (Ho a0 a1 a2 a3) λr=>wt r.1≤1000∧wt r.2≤wt a0+100000∧wt r.2.Clients+wt r.2.S≤wt a0.Clients+wt a0.S+50000∧TW r.2:=by
 unfold Ho
 refine .c (λh1=> .b (zo3 ?_ ?_) λr1 NV=> .g ?_ (.b (ziK ?_) λr2 eW=> .s ?_))
  λh1=> .b (zis ?_) λr3 uW=> .c (λh2=> .s ?_)
  λh2=> .h ?_ (.bg ?_ λe4 rZ TY=> .b (zeT ?_ ?_) λr5 RV=> .h ?_ (.m rZ (have JY:=GM (l:=a0.Clients) (i:=(sA .i64 a1 1).toNat) (x:=r5.1) (by have:=GG rZ;omega) (RM rZ) 0;have FX:=GM (l:=a0.Clients) (i:=(sA .i64 a1 1).toNat) (x:=r5.1) (by have:=GG rZ;omega) (RM rZ) 1;have n9:=mS (x:=r5.1) rZ; .g ?_ (.b (zfd ?_ ?_) λr7 HW=> .s (have:=EC a0.Clients ((sA .i64 a1 1).toNat) r5.1;?_)))))
 all_goals (try simp only[NB]at *)<;>(try simp(disch:=omega) only[DA,LA]at *)<;>omega
def cU{a0 a1 a2 a3}(ha:wt a0≤800000000)(hb:wt a3≤900000000)(hc:TW a0)(hd:0≤a1∧a1≤2):Ok (Cz a0 a1 a2 a3) λr=>wt r≤wt a0+1200000∧wt r.Clients+wt r.S≤wt a0.Clients+wt a0.S+50000∧TW r:=by
 unfold Cz;refine .b (zp3 ?_ ?_ ?_ ?_) λr1 NV=> .b (ZP ?_ ?_ ?_ ?_) λr2 eW=> .s ?_
 all_goals (try simp only[NB]at *)<;>omega
def ziG{a0 a1}(ha:wt a0≤900000000)(hb:wt a1≤4000000)(hc:TW a0):Ok (Fv a0 a1) λr=>wt r.2≤wt a0+4001000∧wt r.2.Clients+wt r.2.S≤wt a0.Clients+wt a0.S∧TW r.2:=by
 unfold Fv;refine have hk:=zB a0.Known;
 .b (zqO ?_) λr1 NV=>have hl:=zB r1; .c (λh1=> .s ?_)
  λh1=> .g ?_ (.g ?_ (.g ?_ (.s ?_)))
 all_goals (try simp only[NB]at *)<;>(try simp(disch:=omega) only[DA,LA]at *)<;>omega
def zqk{a0}(ha:wt a0≤800000000)(hb:TW a0):Ok (Gz a0) λr=>wt r.1≤1000∧wt r.2≤wt a0+120000∧wt r.2.Clients+wt r.2.S≤wt a0.Clients+wt a0.S+60000∧TW r.2:=by
 unfold Gz
 refine .j (λy1:(List Ap)×Aa=>wt y1.1≤804∧wt y1.2≤wt a0+6000∧wt y1.2.Clients+wt y1.2.S≤wt a0.Clients+wt a0.S∧TW y1.2) (λy1 lW=> .b (zo2 ?_) λr9 QW=> .g ?_ (.s ?_))
  λk2 IV=> .l (λx3:(List Ap)×Int×Aa=>0≤x3.2.1∧x3.2.1≤2∧wt x3.1≤402 *x3.2.1∧wt x3.2.2≤wt a0+3000 *x3.2.1∧wt x3.2.2.Clients+wt x3.2.2.S≤wt a0.Clients+wt a0.S∧TW x3.2.2) (λx3:(List Ap)×Int×Aa=>(2 - x3.2.1).toNat) (λx3 DY k4 QV=> .c (λh1=> .h ?_ (.bg ?_ λe5 BX tX=> .b (zoZ ?_) λr6 vW=> .h ?_ (.m BX (have JY:=GM (l:=x3.2.2.Clients) (i:=x3.2.1.toNat) (x:=r6.1) (by have:=GG BX;omega) (RM BX) 0;have FX:=GM (l:=x3.2.2.Clients) (i:=x3.2.1.toNat) (x:=r6.1) (by have:=GG BX;omega) (RM BX) 1;have n9:=mS (x:=r6.1) BX; .g ?_ (.b (zfd ?_ ?_) λr8 sW=> .g ?_ (QV _ (have:=EC x3.2.2.Clients x3.2.1.toNat r6.1;?_) (have:=EC x3.2.2.Clients x3.2.1.toNat r6.1;?_)))))))
  λh1=>IV _ ?_) ?_ ?_
 all_goals (try simp only[NB]at *)<;>(try simp(disch:=omega) only[DA,LA]at *)<;>omega
set_option maxHeartbeats 4000000 in
theorem zjr{a0 a1}(ha:wt a0≤400000000)(hb:wt a0.Clients+wt a0.S≤4000000)(hc:TW a0)(hd:0≤a1.I∧0≤a1.J∧0≤a1.N)(he:wt a1≤300000):Ok (Fx a0 a1) λr=>wt r.2≤wt a0+5100000∧wt r.2.Clients+wt r.2.S≤wt a0.Clients+wt a0.S+61000∧TW r.2:=by
 unfold Fx;refine have hsn:=zB a0.Seen;
 have hd1:=gH (a:=a1.I) (n:=2) ?_ ?_;
 have hd2:=gH (a:=a1.J) (n:=3) ?_ ?_;
 .jt (λy1=> .j (λy3:Ap=>wt y3≤wt a0) (λy3 LY=> .j (λy6:Aa=>wt y6≤wt a0+5100000∧wt y6.Clients+wt y6.S≤wt a0.Clients+wt a0.S+61000∧TW y6) (λy6 xX=> .s ?_)
  λk7 TV=> .c (λh1=> .b (zdJ ?_) λr8 sW=>have hn:wt (LE r8.2)=wt r8.2:=(by simp only[LE,eJ,NE,FA,List.length_nil];omega); .h ?_ (.bg ?_ λe9 LZ CY=>have hie9:=GG LZ;have hve9:=xO LZ; .b (zjF ?_ ?_) λr10 rW=> .c (λh2=> .s ?_)
  λh2=> .m (za1 ?_) (.g ?_ (.b (zaP ?_ ?_ ?_ ?_ ?_ ?_ ?_ ?_) λr12 yW=>TV _ ?_))))
  λh1=> .j (λy13:Aa=>wt y13≤wt a0+5100000∧wt y13.Clients+wt y13.S≤wt a0.Clients+wt a0.S+61000∧TW y13) (λy13 EX=>TV _ ?_)
  λk14 SV=> .c (λh3=> .h ?_ (.bg ?_ λe15 VY WY=>have hie15:=GG VY;have hve15:=xO VY; .b (zo1 ?_ ?_) λr16 mX=> .c (λh4=> .s ?_)
  λh4=> .b (zaP ?_ ?_ ?_ ?_ ?_ ?_ ?_ ?_) λr17 YX=>SV _ ?_))
  λh3=> .j (λy18:Aa=>wt y18≤wt a0+5100000∧wt y18.Clients+wt y18.S≤wt a0.Clients+wt a0.S+61000∧TW y18) (λy18 z0=>SV _ ?_)
  λk19 FW=> .c (λh5=> .b (zpe ?_ ?_) λr20 EY=> .c (λh6=> .s ?_)
  λh6=> .b (ziK ?_) λr21 m0=> .b (ZP ?_ ?_ ?_ ?_) λr22 fX=>FW _ ?_)
  λh5=> .j (λy23:Aa=>wt y23≤wt a0+5100000∧wt y23.Clients+wt y23.S≤wt a0.Clients+wt a0.S+61000∧TW y23) (λy23 sZ=>FW _ ?_)
  λk24 oW=> .c (λh7=> .c (λh8=> .s ?_)
  λh8=> .b (zqk ?_ ?_) λr25 vX=> .b (ZP ?_ ?_ ?_ ?_) λr26 JX=>oW _ ?_)
  λh7=> .j (λy27:Aa=>wt y27≤wt a0+5100000∧wt y27.Clients+wt y27.S≤wt a0.Clients+wt a0.S+61000∧TW y27) (λy27 n5=>oW _ ?_)
  λk28 cX=> .c (λh9=> .h ?_ (.bg ?_ λe29 GY m8=>have hie29:=GG GY;have hve29:=xO GY; .b (zsf ?_) λr31 m5=> .h ?_ (.m GY (have JY:=GM (l:=a0.Clients) (i:=(zA .i64 a1.I 2).toNat) (x:=r31) (by have:=GG GY;omega) (RM GY) 0;have FX:=GM (l:=a0.Clients) (i:=(zA .i64 a1.I 2).toNat) (x:=r31) (by have:=GG GY;omega) (RM GY) 1;have n9:=mS (x:=r31) GY;cX _ (have:=EC a0.Clients ((zA .i64 a1.I 2).toNat) r31;?_)))))
  λh9=> .j (λy33:Aa=>wt y33≤wt a0+5100000∧wt y33.Clients+wt y33.S≤wt a0.Clients+wt a0.S+61000∧TW y33) (λy33 hy33=>cX _ ?_)
  λk34 uZ=> .c (λtW=> .h ?_ (.bg ?_ λe35 n8 he35w=>have hie35:=GG n8;have hve35:=xO n8; .b (zoI ?_) λr36 W2=> .c (λGW=> .s ?_)
  λGW=> .b (zaP ?_ ?_ ?_ ?_ ?_ ?_ ?_ ?_) λr37 d5=>uZ _ ?_))
  λtW=> .j (λy38:Aa=>wt y38≤wt a0+5100000∧wt y38.Clients+wt y38.S≤wt a0.Clients+wt a0.S+61000∧TW y38) (λy38 z5=>uZ _ ?_)
  λk39 aZ=> .c (λUW=> .b (zct ?_ ?_) λr40 hr40=> .c (λnX=> .s ?_)
  λnX=> .b (cU ?_ ?_ ?_ ?_) λr41 A1=>aZ _ ?_)
  λUW=> .j (λy42:Aa=>wt y42≤wt a0+5100000∧wt y42.Clients+wt y42.S≤wt a0.Clients+wt a0.S+61000∧TW y42) (λy42 V2=>aZ _ ?_)
  λk43 dY=> .c (λjY=> .b (cU ?_ ?_ ?_ ?_) λr45 hr45=>dY _ ?_)
  λjY=> .j (λy46:Aa=>wt y46≤wt a0+5100000∧wt y46.Clients+wt y46.S≤wt a0.Clients+wt a0.S+61000∧TW y46) (λy46 hy46=>dY _ ?_)
  λk47 B1=> .c (λHY=> .b (cU ?_ ?_ ?_ ?_) λr48 hr48=>B1 _ ?_)
  λHY=> .j (λy49:Aa=>wt y49≤wt a0+5100000∧wt y49.Clients+wt y49.S≤wt a0.Clients+wt a0.S+61000∧TW y49) (λy49 B7=>B1 _ ?_)
  λk50 C1=> .c (λNY=> .b (zct ?_ ?_) λr51 o8=> .j (λy52:Bool=>y52=false→0≤r51∧0<y3.B.length) (λy52 hy52=> .c (λxZ=> .s ?_)
  λxZ=>have i18:=hy52 xZ;have hd4:=gH (a:=a1.N) (n:=(([]++y3.B).length:Int)) ?_ ?_; .g ?_ (.n ?_ (.h ?_ (.bg ?_ λe55 he55 he55w=> .h ?_ (.bg ?_ λe57 he57 he57w=> .b (cU (have:=EC ([]++y3.B) (zA .i64 a1.N (([]++y3.B).length:Int):Int).toNat (UInt8.ofNat (BB .u8 ((e55.toNat:Nat):Int) (IntKind.wrap .u8 (iA .i64 1 (zA .i64 a1.J 255)):Int):Int).toNat);?_) (have:=EC ([]++y3.B) (zA .i64 a1.N (([]++y3.B).length:Int):Int).toNat (UInt8.ofNat (BB .u8 ((e55.toNat:Nat):Int) (IntKind.wrap .u8 (iA .i64 1 (zA .i64 a1.J 255)):Int):Int).toNat);?_) (have:=EC ([]++y3.B) (zA .i64 a1.N (([]++y3.B).length:Int):Int).toNat (UInt8.ofNat (BB .u8 ((e55.toNat:Nat):Int) (IntKind.wrap .u8 (iA .i64 1 (zA .i64 a1.J 255)):Int):Int).toNat);?_) (have:=EC ([]++y3.B) (zA .i64 a1.N (([]++y3.B).length:Int):Int).toNat (UInt8.ofNat (BB .u8 ((e55.toNat:Nat):Int) (IntKind.wrap .u8 (iA .i64 1 (zA .i64 a1.J 255)):Int):Int).toNat);?_)) λr59 O7=>C1 _ ?_)))))
  λk53 s8=> .c (λ_=>s8 _ nofun)
  λOZ=>s8 _ λq20=>?_)
  λNY=> .j (λy60:Aa=>wt y60≤wt a0+5100000∧wt y60.Clients+wt y60.S≤wt a0.Clients+wt a0.S+61000∧TW y60) (λy60 J7=>C1 _ ?_)
  λk61 ZY=> .c (λV1=> .b (zsb ?_ ?_ ?_) λr62 hr62=> .c (λW1=> .s ?_)
  λW1=> .b (cU ?_ ?_ ?_ ?_) λr64 hr64=>ZY _ ?_)
  λV1=> .j (λy65:Aa=>wt y65≤wt a0+5100000∧wt y65.Clients+wt y65.S≤wt a0.Clients+wt a0.S+61000∧TW y65) (λy65 hy65=>ZY _ ?_)
  λk66 t8=> .c (λH0=> .b (zsi ?_) λr67 L7=>have hl67:=zB r67.2; .c (λX1=> .s ?_)
  λX1=> .b (ZP ?_ ?_ ?_ ?_) λr68 hr68=>t8 _ ?_)
  λH0=> .j (λy69:Aa=>wt y69≤wt a0+5100000∧wt y69.Clients+wt y69.S≤wt a0.Clients+wt a0.S+61000∧TW y69) (λy69 hy69=>t8 _ ?_)
  λk70 E1=> .c (λD5=> .h ?_ (.bg ?_ λe71 he71 V7=> .c (λv9=> .s ?_)
  λv9=> .h ?_ (.bg ?_ λe72 v8 he72w=>have hie72:=GG v8;have hve72:=xO v8; .b (zr4 ?_) λr73 hr73=> .b (zaP ?_ ?_ ?_ ?_ ?_ ?_ ?_ ?_) λr74 hr74=>E1 _ ?_)))
  λD5=> .j (λy75:Aa=>wt y75≤wt a0+5100000∧wt y75.Clients+wt y75.S≤wt a0.Clients+wt a0.S+61000∧TW y75) (λy75 hy75=>E1 _ ?_)
  λk76 F1=> .c (λR5=> .b (zoF ?_) λr77 hr77=> .c (λH8=> .s ?_)
  λH8=> .b (ZP ?_ ?_ ?_ ?_) λr78 hr78=>F1 _ ?_)
  λR5=> .c (λI8=> .j (λy79:Bool×Aa=>wt y79.2≤wt a0+5100000∧wt y79.2.Clients+wt y79.2.S≤wt a0.Clients+wt a0.S+61000∧TW y79.2) (λy79 hy79=> .s ?_)
  λk80 w8=> .h ?_ (.bg ?_ λe81 he81 he81w=> .c (λS5=> .h ?_ (.bg ?_ λe82 z8 he82w=>have hie82:=GG z8;have hve82:=xO z8; .b (ziG ?_ ?_ ?_) λr83 hr83=>w8 _ ?_))
  λS5=>w8 _ ?_))
  λI8=> .c (λT5=> .j (λy84:Bool×Aa=>wt y84.2≤wt a0+5100000∧wt y84.2.Clients+wt y84.2.S≤wt a0.Clients+wt a0.S+61000∧TW y84.2) (λy84 hy84=> .s ?_)
  λk85 A5=> .c (λw9=> .bi ?_ ?_ λe86 he86 he86w=> .c (λz9=> .bi ?_ ?_ λe87 he87 he87w=> .b (ziG ?_ ?_ ?_) λr88 hr88=>A5 _ ?_)
  λz9=>A5 _ ?_)
  λw9=>A5 _ ?_)
  λT5=> .j (λy89:Aa=>wt y89≤wt a0+5100000∧wt y89.Clients+wt y89.S≤wt a0.Clients+wt a0.S+61000∧TW y89) (λy89 hy89=>F1 _ ?_)
  λk90 I1=> .c (λA9=> .j (λy91:Aa=>wt y91≤wt a0+5100000∧wt y91.Clients+wt y91.S≤wt a0.Clients+wt a0.S+61000∧TW y91) (λy91 hy91=>I1 _ ?_)
  λk92 A8=> .c (λB9=> .b (zjZ ?_) λr93 hr93=>A8 _ ?_)
  λB9=> .b (zjZ ?_) λr94 hr94=>A8 _ ?_)
  λA9=>I1 _ ?_)
  λk4 QV=> .c (λC9=> .c (λD9=> .s ?_)
  λD9=>have hd3:=gH (a:=a1.I) (n:=(a0.Seen.length:Int)) ?_ ?_; .n ?_ (.h ?_ (.bg ?_ λe5 BX tX=>QV _ ?_)))
  λC9=>QV _ ?_)
  λk2 IV=> .c (λ_=>IV _)
  λ_=>IV _
 all_goals (try simp only[NB]at *)<;>(try simp(disch:=omega) only[DA,LA]at *)<;>omega
def zqI{a0}(ha:mA a0):Ok (Iy a0) λr=>mA r.2∧wt r.1≤4000∧TW r.1:=by
 unfold Iy;refine .b (QB ?_ ?_) λr1 NV=> .b (QB ?_ ?_) λr2 eW=> .b (QB ?_ ?_) λr3 uW=> .b (SA ?_) λr4 UV=> .b (zsh ?_ ?_) λr5 RV=> .s ?_
 all_goals (try simp only[NB]at *)<;>(try simp(disch:=omega) only[DA,LA]at *)<;>omega
def zij{a0 a1 a2}(ha:mA a0)(hb:a1≤40):Ok (Kl a0 a1 a2) λr=>mA r.2.2.2∧wt r.2.2.1≤400000000∧TW r.2.2.1∧wt r.1≤4000∧wt r.2.1≤200000:=by
 unfold Kl
 refine .b (zqI ?_) λr1 NV=> .cp ?_ (.b (SA ?_) λr3 uW=> .j (λy4:(List Am)×Af×Int×Aa=>mA y4.2.1∧wt y4.2.2.2≤400000000∧TW y4.2.2.2∧wt y4.1≤200000) (λy4 MY=> .s ?_)
  λk5 dW=> .l (λx6:(List Am)×Int×Af×Int×Aa=>0≤x6.2.1∧x6.2.1≤60∧mA x6.2.2.1∧wt x6.1+3001 *x6.2.1≤200000∧TW x6.2.2.2.2∧wt x6.2.2.2.2+5100000 *x6.2.1≤320000000∧wt x6.2.2.2.2.Clients+wt x6.2.2.2.2.S+61000 *x6.2.1≤3700000) (λx6:(List Am)×Int×Af×Int×Aa=>x6.2.1.toNat) (λx6 b7 k7 TV=> .c (λh1=> .b (zqs ?_ ?_ ?_) λr8 sW=> .g ?_ (.cp ?_ (.j (λy10:Bool×Aa=>wt y10.2≤wt x6.2.2.2.2+5100000∧wt y10.2.Clients+wt y10.2.S≤wt x6.2.2.2.2.Clients+wt x6.2.2.2.2.S+61000∧TW y10.2) (λy10 aX=> .j (λy13:Aa×Unit=>wt y13.1≤wt x6.2.2.2.2+5100000∧wt y13.1.Clients+wt y13.1.S≤wt x6.2.2.2.2.Clients+wt x6.2.2.2.2.S+61000∧TW y13.1) (λy13 EX=>TV _ ?_ ?_)
  λk14 SV=> .c (λh2=>SV _ ?_)
  λh2=>SV _ ?_)
  λk11 PV=> .c (λh3=> .c (λh4=>have f5:=lO h4; .b (zjr ?_ ?_ ?_ ?_ ?_) λr12 yW=>PV _ ?_)
  λh4=>PV _ ?_)
  λh3=>PV _ ?_)))
  λh1=>dW _ ?_) ?_ ?_)
 all_goals (try simp only[NB]at *)<;>(try simp(disch:=omega) only[DA,LA]at *)<;>omega
def zpP{a0 a1}(ha:mA a0)(hb:a1≤40):Ok (Jd a0 a1) λr=>mA r.2∧wt r.1≤400000000∧TW r.1:=by
 unfold Jd;refine .b (KE ?_) λr1 NV=> .b (zij ?_ ?_) λr2 eW=> .s ?_
 all_goals (try simp only[NB]at *)<;>omega
end Go.D
namespace Go.D
def ze4{a0}(ha:mA a0):Ok (Ht a0) λr=>r.1.length≤12∧mA r.2:=by
 unfold Ht
 refine .b (SA ?_) λr1 NV=> .j (λy2:(List UInt8)=>y2.length≤12) (λy2 xW=> .s ?_)
  λk3 JV=> .l (λx4:(List UInt8)×Int=>0≤x4.2∧x4.2≤12∧(x4.1.length:Int)≤x4.2) (λx4:(List UInt8)×Int=>(12 - x4.2).toNat) (λx4 P5 k5 dW=> .c (λh1=> .g ?_ (dW _ ?_ ?_))
  λh1=>JV _ ?_) ?_ ?_
 all_goals (try simp only[NB]at *)<;>(try simp(disch:=omega) only[DA,LA]at *)<;>omega
def zqY{a0}(ha:mA a0):Ok (Je a0) λr=>r.1.length≤32∧mA r.2:=by
 unfold Je
 refine .b (SA ?_) λr1 NV=> .j (λy2:(List UInt8)=>y2.length≤32) (λy2 xW=> .s ?_)
  λk3 JV=> .l (λx4:(List UInt8)×Int=>0≤x4.2∧x4.2≤32∧(x4.1.length:Int)≤x4.2) (λx4:(List UInt8)×Int=>(32 - x4.2).toNat) (λx4 P5 k5 dW=> .c (λh1=> .g ?_ (dW _ ?_ ?_))
  λh1=>JV _ ?_) ?_ ?_
 all_goals (try simp only[NB]at *)<;>(try simp(disch:=omega) only[DA,LA]at *)<;>omega
def zqb{a0}(ha:mA a0):Ok (Jf a0) λr=>wt r.1≤100∧mA r.2:=by
 unfold Jf;refine .b (SA ?_) λr1 NV=> .b (SA ?_) λr2 eW=> .b (SA ?_) λr3 uW=> .b (SA ?_) λr4 UV=> .b (SA ?_) λr5 RV=> .b (ze4 ?_) λr6 vW=> .b (ze4 ?_) λr7 HW=> .b (zqY ?_) λr8 sW=> .b (ze4 ?_) λr9 QW=> .b (SA ?_) λr10 rW=> .b (SA ?_) λr12 yW=> .s ?_
 all_goals (try simp only[NB]at *)<;>(try simp(disch:=omega) only[DA,LA]at *)<;>omega
def zqz{a0}(ha:mA a0):Ok (Jg a0) λr=>mA r.2:=by
 unfold Jg
 refine .b (KE ?_) λr1 NV=> .c (λh1=> .b (SA ?_) λr2 eW=> .b (zrd ?_) λr3 uW=> .b (SA ?_) λr4 UV=> .s ?_)
  λh1=> .b (SA ?_) λr5 RV=> .s ?_
 all_goals (try simp only[NB]at *)<;>(try simp(disch:=omega) only[DA,LA]at *)<;>omega
def DN{a0}(ha:mA a0):Ok (Db a0) λr=>mA r.2:=by
 unfold Db
 refine .b (zqz ?_) λr1 NV=> .b (SA ?_) λr2 eW=> .j (λy3:Af×Ai=>mA y3.1) (λy3 LY=> .s ?_)
  λk4 QV=> .c (λh1=> .b (zrG ?_) λr5 RV=>QV _ ?_)
  λh1=> .j (λy6:Af×Ai=>mA y6.1) (λy6 xX=>QV _ ?_)
  λk7 TV=> .c (λh2=> .b (cB (-1) (65536) ?_ (by simp) (by decide)) λr8 sW=>TV _ ?_)
  λh2=>TV _ ?_
 all_goals (try simp only[NB]at *)<;>omega
def zqQ{a0}(ha:mA a0):Ok (Jh a0) λr=>wt r.1≤250∧mA r.2:=by
 unfold Jh
 refine .b (zqb ?_) λr1 NV=> .b (SA ?_) λr2 eW=> .j (λy3:Af×Ad=>mA y3.1∧wt y3.2≤250) (λy3 LY=> .s ?_)
  λk4 QV=> .c (λh1=> .b (cB (-1) (18) ?_ (by simp) (by decide)) λr5 RV=>QV _ ?_)
  λh1=> .j (λy6:Af×Ad=>mA y6.1∧wt y6.2≤250) (λy6 xX=>QV _ ?_)
  λk7 TV=> .c (λh2=> .b (cB (-1) (10) ?_ (by simp) (by decide)) λr8 sW=>TV _ ?_)
  λh2=> .j (λy9:Af×Ad=>mA y9.1∧wt y9.2≤250) (λy9 yY=>TV _ ?_)
  λk10 OV=> .c (λh3=> .b (cB (-1) (2) ?_ (by simp) (by decide)) λr11 zW=>OV _ ?_)
  λh3=> .j (λy12:Af×Ad=>mA y12.1∧wt y12.2≤250) (λy12 HX=>OV _ ?_)
  λk13 XV=> .c (λh4=> .b (cB (0) (11) ?_ (by simp) (by decide)) λr14 lX=> .b (QB ?_ ?_) λr15 NW=>XV _ ?_)
  λh4=> .j (λy16:Af×Ad=>mA y16.1∧wt y16.2≤250) (λy16 sY=>XV _ ?_)
  λk17 iW=> .c (λh5=> .b (cB (0) (13) ?_ (by simp) (by decide)) λr18 ZX=> .b (QB ?_ ?_) λr19 IX=>iW _ ?_)
  λh5=> .j (λy20:Af×Ad=>mA y20.1∧wt y20.2≤250) (λy20 FY=>iW _ ?_)
  λk21 kW=> .c (λh6=> .b (cB (-1) (4294967296) ?_ (by simp) (by decide)) λr22 fX=>kW _ ?_)
  λh6=> .j (λy23:Af×Ad=>mA y23.1∧wt y23.2≤250) (λy23 sZ=>kW _ ?_)
  λk24 oW=> .c (λh7=> .b (cB (-1) (281474976710656) ?_ (by simp) (by decide)) λr25 vX=>oW _ ?_)
  λh7=> .j (λy26:Af×Ad=>mA y26.1∧wt y26.2≤250) (λy26 Y0=>oW _ ?_)
  λk27 bX=> .c (λh8=> .b (cB (0) (101) ?_ (by simp) (by decide)) λr28 R2=> .b (QB ?_ ?_) λr29 tZ=>bX _ ?_)
  λh8=> .j (λy30:Af×Ad=>mA y30.1∧wt y30.2≤250) (λy30 hy30=>bX _ ?_)
  λk31 bZ=> .c (λh9=> .b (cB (0) (31) ?_ (by simp) (by decide)) λr32 hr32=> .b (QB ?_ ?_) λr33 B5=>bZ _ ?_)
  λh9=> .j (λy34:Af×Ad=>mA y34.1∧wt y34.2≤250) (λy34 X2=>bZ _ ?_)
  λk35 gY=> .c (λtW=> .b (DN ?_) λr36 W2=>gY _ ?_)
  λtW=> .j (λy37:Af×Ad=>mA y37.1∧wt y37.2≤250) (λy37 hy37=>gY _ ?_)
  λk38 B8=> .c (λGW=> .b (cB (-1) (1000001) ?_ (by simp) (by decide)) λr39 hr39=>B8 _ ?_)
  λGW=>B8 _ ?_
 all_goals (try simp only[NB]at *)<;>omega
end Go.D
namespace Go.D
def zxq{b:List UInt8}{n:Int}(hn:0≤n∧n≤1000)(h:b.length≤1048576):Ok (Ji b n) λr=>0≤r∧r≤255:=by
 unfold Ji;refine Ok.cond' (λh1=>?_) (λh1=>?_)
 ·simp only[B]at h1;refine Ok.bind (Ok.idx hn.1 h1) (λe he=> .some' ?_);have:=UInt8.toNat_lt e;rw[MB (by omega) (by omega)];omega
 ·have e1:OB .i64 n 31=n *31:=MB (by omega) (by omega);have e2:OB .i64 (b.length:Int) 7=(b.length:Int) *7:=MB (by omega) (by omega);refine .some' ?_;rw[e1,e2,DA (by omega) (by omega)];have:=gH (a:=n *31+(b.length:Int) *7) (n:=256) (by omega) (by omega);omega
end Go.D

/-
 The reference's machine comes to an end, and what it gives is small.
-/
import Derived.Test.YtfealdecpglcnaaGreatN8c
set_option linter.all false
namespace Go.D
def nd(k:Int):Int:=if k≤3 then 0 else if k=4∨k=9 then 1 else if k=10 then 3 else 2
def zyz(k:Int):0≤nd k∧nd k≤3∧(k=4→nd k=1)∧(k=5→nd k=2)∧(k=6→nd k=2)∧(k=7→nd k=2)∧(k=8→nd k=2)∧(k=9→nd k=1)∧(k=10→nd k=3):=by
 unfold nd
 repeat' split
 all_goals omega
def zan{a0}(ha:0≤a0∧a0≤10):Ok (Df a0) λr=>r=nd a0∧0≤nd a0∧nd a0≤3:=by
 have:a0=0∨a0=1∨a0=2∨a0=3∨a0=4∨a0=5∨a0=6∨a0=7∨a0=8∨a0=9∨a0=10:=by omega
 rcases this with rfl | rfl | rfl | rfl | rfl | rfl | rfl | rfl | rfl | rfl | rfl<;>exact⟨_,rfl,by decide⟩
def zif{a0}(ha:mA a0):Ok (Jy a0) λr=>mA r.2∧r.1.B.length≤32∧1≤r.1.Kind∧r.1.Kind≤10:=by
 unfold Jy
 refine .b (dB (1) (10) ?_ (by simp) (by decide)) λr1 OV=> .j (λy2:Af×Bc=>mA y2.1∧y2.2.B.length≤32∧1≤y2.2.Kind∧y2.2.Kind≤10) (λy2 zW=> .b (TA ?_) λr6 uW=> .b (dB (0) (16) ?_ (by simp) (by decide)) λr7 NW=> .s ?_)
  λk3 KV=> .c (λh1=> .b (dB (0) (32) ?_ (by simp) (by decide)) λr4 VV=> .b (MB ?_ ?_) λr5 QV=>KV _ ?_)
  λh1=>KV _ ?_
 all_goals (try simp only[NB]at *)<;>omega
def zov{a0 a1}(ha:mA a0)(hb:0<a1∧a1≤20):Ok (Io a0 a1) λr=>mA r.2∧wt r.1≤1000:=by
 unfold Io
 refine .b (TA ?_) λr1 OV=> .j (λy2:(List Bc)×Int×Af=>mA y2.2.2∧wt y2.1≤700∧y2.2.1≤21) (λy2 zW=> .j (λy16:(List Bc)=>wt y16≤1000) (λy16 iY=> .s ?_)
  λk17 gW=> .l (λx18:(List Bc)×Int=>wt x18.1+x18.2≤730∧wt x18.1≤729∧x18.2≤30) (λx18:(List Bc)×Int=>x18.2.toNat) (λx18 s7 k19 DW=> .c (λh1=> .g ?_ (DW _ ?_ ?_))
  λh1=>gW _ ?_) ?_ ?_)
  λk3 KV=> .l (λx4:(List Bc)×Int×Int×Af=>0≤x4.2.2.1∧x4.2.2.1≤20∧wt x4.1+33 *x4.2.2.1≤660∧x4.2.1+x4.2.2.1≤20∧ -2 *20≤x4.2.1 - 2 *x4.2.2.1∧mA x4.2.2.2) (λx4:(List Bc)×Int×Int×Af=>x4.2.2.1.toNat) (λx4 J5 k5 mW=> .c (λh2=> .b (zif ?_) λr6 uW=> .j (λy7:Af×Bc=>mA y7.1∧y7.2.B.length≤32∧1≤y7.2.Kind∧y7.2.Kind≤10) (λy7 WZ=> .b (zan ?_) λr15 GW=> .g ?_ (mW _ ?_ ?_))
  λk8 EW=> .l (λx9:Int×Af×Bc=>0≤x9.1∧x9.1≤6∧mA x9.2.1∧x9.2.2.B.length≤32∧1≤x9.2.2.Kind∧x9.2.2.Kind≤10) (λx9:Int×Af×Bc=>(6 - x9.1).toNat) (λx9 hx9 k10 PV=> .j (λy11:Bool=>y11=true→x9.1<6) (λy11 gZ=> .c (λh3=>have i4:=gZ h3; .b (zif ?_) λr14 lX=>PV _ ?_ ?_)
  λh3=>EW _ ?_)
  λk12 wW=> .c (λh5=> .b (zan ?_) λr13 eX=>wW _ λq6=>?_)
  λ_=>wW _ nofun) ?_ ?_)
  λh2=>KV _ ?_) ?_ ?_
 all_goals (try simp only[NB]at *)<;>(try simp(disch:=omega) only[DA,PA]at *)<;>omega
def zpH{a0}(ha:mA a0):Ok (Ip a0) λr=>mA r.2.2∧r.2.1.length≤40:=by
 unfold Ip
 refine .b (TA ?_) λr1 OV=> .c (λh1=> .b (TA ?_) λr2 dW=> .b (MB ?_ ?_) λr3 tW=> .s ?_)
  λh1=> .c (λh2=> .b (TA ?_) λr4 VV=> .b (MB ?_ ?_) λr5 QV=> .s ?_)
  λh2=> .b (dB (0) (40) ?_ (by simp) (by decide)) λr6 uW=> .b (MB ?_ ?_) λr7 NW=> .s ?_
 all_goals (try simp only[NB]at *)<;>(try simp(disch:=omega) only[DA,PA]at *)<;>omega
def zps{a0 a1 a2 a3}(ha:mA a0)(hb:wt a1≤900000000)(hc:2≤a1.Clients.length):Ok (Ir a0 a1 a2 a3) λr=>wt r.1≤3000∧mA r.2.1:=by
 unfold Ir;refine have kY:=JB a1.Known;
 .b (TA ?_) λr1 OV=> .b (TA ?_) λr2 dW=> .b (TA ?_) λr3 tW=> .j (λy4:Bool×Af=>mA y4.2) (λy4 dZ=> .c (λh1=> .s ?_)
  λh1=> .j (λy7:Bool×Af=>mA y7.2) (λy7 WZ=> .c (λh2=> .s ?_)
  λh2=> .b (TA ?_) λr11 AW=> .jt (λy12=> .j (λy16:Aq×Af×Aq=>wt y16.1≤3000∧mA y16.2.1) (λy16 iY=> .s ?_)
  λk17 gW=> .c (λh3=> .b (TA ?_) λr18 EY=> .b (MB ?_ ?_) λr19 EX=>gW _ ?_)
  λh3=> .jt (λy20=> .j (λy22:Aq×Af×Aq=>wt y22.1≤3000∧mA y22.2.1) (λy22 S4=>gW _ ?_)
  λk23 WX=> .c (λh4=> .b (TA ?_) λr24 eY=> .b (TA ?_) λr25 rX=> .b (MB ?_ ?_) λr26 FX=>WX _ ?_)
  λh4=> .jt (λy27=> .j (λy29:Aq×Af×Aq=>wt y29.1≤3000∧mA y29.2.1) (λy29 U6=>WX _ ?_)
  λk30 IY=> .c (λh5=>IY _ ?_)
  λh5=> .j (λy31:Aq×Af×Aq=>wt y31.1≤3000∧mA y31.2.1) (λy31 Z4=>IY _ ?_)
  λk32 KY=> .c (λh6=>KY _ ?_)
  λh6=> .jt (λy33=> .j (λy35:Aq×Af×Aq=>wt y35.1≤3000∧mA y35.2.1) (λy35 V6=>KY _ ?_)
  λk36 fY=> .c (λh7=>fY _ ?_)
  λh7=> .b (TA ?_) λr37 U4=> .b (TA ?_) λr38 hr38=> .j (λy39:Bool×Af=>mA y39.2) (λy39 hy39=> .j (λy42:Af×Aq=>mA y42.1∧wt y42.2≤500) (λy42 X6=> .b (TA ?_) λr46 hr46=> .c (λh8=> .s ?_)
  λh8=> .b (TA ?_) λr47 hr47=> .jt (λy48=> .j (λy50:Aq×Af=>wt y50.1≤3000∧mA y50.2) (λy50 hy50=>fY _ ?_)
  λk51 V0=> .c (λh9=> .b (zov ?_ ?_) λr52 hr52=> .j (λy53:Af×Aq=>mA y53.1∧wt y53.2≤3000) (λy53 hy53=>V0 _ ?_)
  λk54 t7=> .c (λxW=> .b (TA ?_) λr55 hr55=> .bi ?_ ?_ λe56 he56 b7=> .j (λy57:Bool×Af=>mA y57.2) (λy57 hy57=> .j (λy60:(List UInt8)=>y60.length≤900000000) (λy60 v7=> .b (zpH ?_) λr63 hr63=> .bi ?_ ?_ λe64 he64 z7=> .b (TA ?_) λr65 hr65=> .b (TA ?_) λr66 hr66=> .b (TA ?_) λr67 A7=> .b (zqE ?_ ?_ ?_) λr68 hr68=> .j (λy69:Aq=>wt y69≤3000) (λy69 hy69=>t7 _ ?_)
  λk70 W0=> .c (λHW=>W0 _ ?_)
  λHW=>W0 _ ?_)
  λk61 LY=> .c (λaX=> .bi ?_ ?_ λe62 he62 B7=>LY _ ?_)
  λaX=>LY _ ?_)
  λk58 C7=> .c (λwX=>C7 _ ?_)
  λwX=> .b (uE ?_) λr59 D7=>C7 _ ?_)
  λxW=>t7 _ ?_)
  λh9=> .j (λy71:Aq×Af=>wt y71.1≤3000∧mA y71.2) (λy71 hy71=>V0 _ ?_)
  λk72 E7=> .c (λwY=>E7 _ ?_)
  λwY=> .j (λy73:Aq×Af=>wt y73.1≤3000∧mA y73.2) (λy73 hy73=>E7 _ ?_)
  λk74 F7=> .c (λxY=>F7 _ ?_)
  λxY=> .j (λy75:Aq×Af=>wt y75.1≤3000∧mA y75.2) (λy75 hy75=>F7 _ ?_)
  λk76 X0=> .c (λUY=> .b (TA ?_) λr77 hr77=>X0 _ ?_)
  λUY=> .j (λy78:Aq×Af=>wt y78.1≤3000∧mA y78.2) (λy78 hy78=>X0 _ ?_)
  λk79 G7=> .c (λjZ=>G7 _ ?_)
  λjZ=> .j (λy80:Aq×Af=>wt y80.1≤3000∧mA y80.2) (λy80 hy80=>G7 _ ?_)
  λk81 H7=> .c (λM1=> .b (TA ?_) λr82 hr82=>H7 _ ?_)
  λM1=> .j (λy83:Af×Aq=>mA y83.1∧wt y83.2≤3000) (λy83 hy83=>H7 _ ?_)
  λk84 I7=> .c (λPZ=> .b (uE ?_) λr85 hr85=> .j (λy86:Aq×Af=>wt y86.1≤3000∧mA y86.2) (λy86 hy86=>I7 _ ?_)
  λk87 J7=> .c (λQZ=> .b (TA ?_) λr88 hr88=>J7 _ ?_)
  λQZ=>J7 _ ?_)
  λPZ=> .j (λy89:Aq×Af=>wt y89.1≤3000∧mA y89.2) (λy89 hy89=>I7 _ ?_)
  λk90 Y0=> .c (λN1=> .b (dB (2) (4) ?_ (by simp) (by decide)) λr91 hr91=> .b (dB (24) (44) ?_ (by simp) (by decide)) λr92 hr92=>Y0 _ ?_)
  λN1=>Y0 _ ?_)
  λk49 K7=> .c (λ_=>K7 _)
  λ_=>K7 _)
  λk43 JY=> .c (λXZ=> .b (TA ?_) λr44 hr44=>JY _ ?_)
  λXZ=>JY _ ?_)
  λk40 OZ=> .c (λP1=> .b (uE ?_) λr41 Y4=>OZ _ ?_)
  λP1=>OZ _ ?_)
  λk34 iZ=> .c (λ_=>iZ _)
  λ_=>iZ _)
  λk28 ZW=> .c (λ_=>ZW _)
  λ_=>ZW _)
  λk21 iW=> .c (λ_=>iW _)
  λ_=>iW _)
  λk13 lW=> .c (λ_=>lW _)
  λs8=> .jt (λy14=>lW _)
  λk15 XW=> .c (λ_=>XW _)
  λ_=>XW _)
  λk8 EW=> .bi ?_ ?_ λe9 HZ CY=> .c (λM5=> .b (uE ?_) λr10 rW=>EW _ ?_)
  λM5=>EW _ ?_)
  λk5 mW=> .c (λN5=> .b (uE ?_) λr6 uW=>mW _ ?_)
  λN5=>mW _ ?_
 all_goals (try simp only[NB]at *)<;>(try simp(disch:=omega) only[DA,PA]at *)<;>omega
def zpZ{a0}:Ok (Dk a0) λr=>(True)∧(r=true→1≤a0.Kind∧a0.Kind≤10∧a0.B.length≤200∧0≤a0.I∧0≤a0.J):=by
 unfold Dk
 refine .j (λy1:Bool=>y1=true→1≤a0.Kind∧a0.Kind≤10∧a0.B.length≤200∧0≤a0.I∧0≤a0.J) (λy1 qW=> .s ⟨trivial,λq1=>have i2:=qW q1;?_⟩)
  λk2 JV=> .c (λh3=> .c (λh4=> .c (λh5=>JV _ λq6=>?_)
  λ_=>JV _ nofun)
  λ_=>JV _ nofun)
  λ_=>JV _ nofun
 all_goals (try simp only[NB]at *)<;>omega
def zq4{a0 a1 a2}(ha:wt a0≤300000)(hb:wt a1≤500000000)(hc:wt a2≤500000000):Ok (Fr a0 a1 a2) λr=>r.1.length≤10000:=by
 unfold Fr
 refine .c (λh1=> .s ?_)
  λh1=> .j (λy1:(List (List UInt8))=>wt y1≤3300) (λy1 qW=>have hyw:=JB y1; .c (λh2=> .s ?_)
  λh2=> .h ?_ (.bg ?_ λe71 he71 L7=> .g ?_ (.s ?_)))
  λk2 JV=> .l (λx3:(List (List UInt8))×Int=>0≤x3.2∧x3.2≤(a0.length:Int)∧wt x3.1≤201 *x3.2) (λx3:(List (List UInt8))×Int=>((a0.length:Int) - x3.2).toNat) (λx3 FY k4 TV=>have hpw:=JB x3.1; .c (λh3=> .bi ?_ ?_ λe5 DX VX=>have L4:=zyz e5.Kind; .j (λy6:Bool=>y6=false→1≤e5.Kind∧e5.Kind≤10∧e5.B.length≤200∧0≤e5.I∧0≤e5.J∧nd e5.Kind≤(x3.1.length:Int)) (λy6 vX=> .c (λh4=> .s ?_)
  λh4=>have i5:=vX h4; .b (zan ?_) λr10 rW=> .j (λy11:(List UInt8)=>y11.length≤500000000) (λy11 gZ=> .j (λy68:Bool=>y68=false→y11.length≤200) (λy68 hy68=> .c (λh6=> .s ?_)
  λh6=>have i7:=hy68 h6; .h ?_ (.g (have:=yG x3.1 ((wA .i64 (x3.1.length:Int) r10 - 0).toNat);?_) (TV _ (have:=yG x3.1 ((wA .i64 (x3.1.length:Int) r10 - 0).toNat);?_) (have:=yG x3.1 ((wA .i64 (x3.1.length:Int) r10 - 0).toNat);?_))))
  λk69 M7=> .c (λ_=>M7 _ nofun)
  λh8=>M7 _ λq9=>?_)
  λk12 wW=> .c (λxW=> .g ?_ (wW _ ?_))
  λxW=> .j (λy13:(List UInt8)=>y13.length≤500000000) (λy13 gY=>wW _ ?_)
  λk14 RV=> .c (λHW=> .c (λaX=> .s ?_)
  λaX=> .bi ?_ ?_ λe15 Q0 S0=> .g ?_ (RV _ ?_))
  λHW=> .j (λy16:(List UInt8)=>y16.length≤500000000) (λy16 iY=>RV _ ?_)
  λk17 gW=> .c (λwX=> .c (λwY=> .s ?_)
  λwY=> .bi ?_ ?_ λe18 X4 P0=> .g ?_ (gW _ ?_))
  λwX=> .j (λy19:(List UInt8)=>y19.length≤500000000) (λy19 hy19=>gW _ ?_)
  λk20 Z0=> .c (λxY=> .h ?_ (.bg ?_ λe21 he21 he21w=> .b (zvG ?_) λr22 fX=> .c (λUY=> .s ?_)
  λUY=>Z0 _ ?_))
  λxY=> .j (λy23:(List UInt8)=>y23.length≤500000000) (λy23 eZ=>Z0 _ ?_)
  λk24 pW=> .c (λjZ=> .h ?_ (.bg ?_ λe25 he25 he25w=> .g ?_ (.h ?_ (.bg ?_ λe27 he27 N7=> .g ?_ (pW _ ?_)))))
  λjZ=> .j (λy28:(List UInt8)=>y28.length≤500000000) (λy28 b5=>pW _ ?_)
  λk29 MY=> .c (λM1=> .h ?_ (.bg ?_ λe30 O7 he30w=> .h ?_ (.bg ?_ λe32 P7 Q7=> .c (λPZ=> .s ?_)
  λPZ=> .j (λy33:(List UInt8)=>y33.length≤500000000) (λy33 hy33=>MY _ ?_)
  λk34 iZ=> .l (λx35:(List UInt8)×Int=>0≤x35.2∧x35.2≤(e30.length:Int)∧(x35.1.length:Int)=x35.2) (λx35:(List UInt8)×Int=>((e30.length:Int) - x35.2).toNat) (λx35 hx35 k36 fY=> .h ?_ (.m O7 (.c (λQZ=> .h ?_ (.m O7 (.bi ?_ ?_ λe39 he39 he39w=> .h ?_ (.m P7 (.bi ?_ ?_ λe42 he42 he42w=> .g ?_ (fY _ ?_ ?_))))))
  λQZ=>iZ _ ?_))) ?_ ?_)))
  λM1=> .j (λy44:(List UInt8)=>y44.length≤500000000) (λy44 hy44=>MY _ ?_)
  λk45 R7=> .c (λN1=> .h ?_ (.bg ?_ λe46 he46 he46w=> .h ?_ (.bg ?_ λe48 he48 he48w=>have hhm:=mM e46 e48;R7 _ ?_)))
  λN1=> .j (λy50:(List UInt8)=>y50.length≤500000000) (λy50 hy50=>R7 _ ?_)
  λk51 V0=> .c (λO1=> .h ?_ (.bg ?_ λe52 he52 he52w=> .h ?_ (.bg ?_ λe54 he54 he54w=> .b AU λr55 hr55=>V0 _ ?_)))
  λO1=> .j (λy56:(List UInt8)=>y56.length≤500000000) (λy56 hy56=>V0 _ ?_)
  λk57 S7=> .c (λXZ=> .h ?_ (.bg ?_ λe58 he58 d7=> .b (XL ?_) λr59 D7=>S7 _ ?_))
  λXZ=> .j (λy60:(List UInt8)=>y60.length≤500000000) (λy60 v7=>S7 _ ?_)
  λk61 LY=> .c (λP1=> .h ?_ (.bg ?_ λe62 he62 B7=> .h ?_ (.bg ?_ λe64 he64 z7=> .h ?_ (.bg ?_ λe66 he66 he66w=> .b (zeM ?_ ?_) λr67 A7=>LY _ ?_))))
  λP1=>LY _ ?_)
  λk7 UV=> .b zpZ λr8 ⟨OW,hr8i⟩=> .c (λ_=>UV _ nofun)
  λs5=>have i26:=hr8i (nf s5); .b (zan ?_) λr9 dX=>UV _ λq27=>?_)
  λh3=>JV _ ?_) ?_ ?_
 all_goals (try simp only[NB]at *)<;>(try simp(disch:=omega) only[DA,PA]at *)<;>omega
def ziU{a0 a1}(ha:wt a0≤1000000000):Ok (Fs a0 a1) λr=>wt r≤wt a0:=by
 unfold Fs
 refine .m (uA ?_) (.jt (λy2=> .j (λy4:Ax=>wt y4≤wt a0) (λy4 dZ=> .s ?_)
  λk5 mW=> .c (λh1=>mW _ ?_)
  λh1=>mW _ ?_)
  λk3 KV=> .c (λ_=>KV _)
  λ_=>KV _)
 all_goals (try simp only[NB]at *)<;>omega
def VM{a0 a1 a2}(ha:wt a0≤1000000000)(hb:wt a1≤1000)(hc:wt a2≤1000000)(hd:TW a0):Ok (Bm a0 a1 a2) λr=>wt r≤wt a0+1003000+wt a2∧wt r.Clients+wt r.S≤wt a0.Clients+wt a0.S∧TW r:=by
 unfold Bm;refine have hw:=JB a1;
 .j (λy1:Ab=>wt y1≤wt a0+1003000∧wt y1.Clients+wt y1.S≤wt a0.Clients+wt a0.S∧TW y1) (λy1 qW=> .g ?_ (.s ?_))
  λk2 JV=> .l (λx3:Int×Ab=>0≤x3.1∧x3.1≤(a1.length:Int)∧wt x3.2≤wt a0+1001 *x3.1∧wt x3.2.Clients+wt x3.2.S≤wt a0.Clients+wt a0.S∧TW x3.2) (λx3:Int×Ab=>((a1.length:Int) - x3.1).toNat) (λx3 FY k4 TV=> .c (λh1=> .j (λy5:Ab=>wt y5≤wt a0+1001 *x3.1+1001∧wt y5.Clients+wt y5.S≤wt a0.Clients+wt a0.S∧TW y5) (λy5 R6=>TV _ ?_ ?_)
  λk6 QW=> .c (λh2=> .bi ?_ ?_ λe7 I5 JZ=> .g ?_ (QW _ ?_))
  λh2=>QW _ ?_)
  λh1=>JV _ ?_) ?_ ?_
 all_goals (try simp only[NB]at *)<;>(try simp(disch:=omega) only[DA,PA]at *)<;>omega
def zag{a0 a1 a2 a3 a4}(ha:wt a0≤900000000)(hb:wt a2≤zgV a0.Clients a1.toNat+2000)(hc:a3.length≤3)(hd:wt a3≤1000000)(he:wt a4≤1000000)(hf:TW a0)(hg:0≤a1∧a1≤1)(hh:a2.Id=eJ a0.Clients a1.toNat):Ok (Fb a0 a1 a2 a3 a4) λr=>wt r≤wt a0+1006000+wt a4∧wt r.Clients+wt r.S≤wt a0.Clients+wt a0.S+2000∧TW r:=by
 unfold Fb;refine .h ?_ (.bg ?_ λe1 vZ he1w=>have hwa:=XN vZ;have uY:=iM (l:=a0.Clients) (i:=a1.toNat) (x:=a2) (by have:=vG vZ;omega) (wM vZ) 0;have zX:=iM (l:=a0.Clients) (i:=a1.toNat) (x:=a2) (by have:=vG vZ;omega) (wM vZ) 1;have U8:=KR (x:=a2) vZ; .b (zee ?_ ?_) λr2 dW=> .b (VM (have:=zC a0.Clients a1.toNat a2;?_) (have:=zC a0.Clients a1.toNat a2;?_) (have:=zC a0.Clients a1.toNat a2;?_) (have:=zC a0.Clients a1.toNat a2;?_)) λr3 tW=> .s ?_)
 all_goals (try simp only[NB]at *)<;>omega
def zhA{a0 a1 a2 a3}(ha:wt a0≤900000000)(hb:wt a3≤900000000)(hc:TW a0)(hd:0≤a1∧a1≤2):Ok (Ej a0 a1 a2 a3) λr=>wt r.1≤1000∧wt r.2≤wt a0+100000∧wt r.2.Clients+wt r.2.S≤wt a0.Clients+wt a0.S+50000∧TW r.2:=by
 unfold Ej
 refine .c (λh1=> .b (zn1 ?_ ?_) λr1 OV=> .g ?_ (.b (zhE ?_) λr2 dW=> .s ?_))
  λh1=> .b (zhk ?_) λr3 tW=> .c (λh2=> .s ?_)
  λh2=> .h ?_ (.bg ?_ λe4 yZ KZ=> .b (zdX ?_ ?_) λr5 QV=> .h ?_ (.m yZ (have uY:=iM (l:=a0.Clients) (i:=(wA .i64 a1 1).toNat) (x:=r5.1) (by have:=vG yZ;omega) (wM yZ) 0;have zX:=iM (l:=a0.Clients) (i:=(wA .i64 a1 1).toNat) (x:=r5.1) (by have:=vG yZ;omega) (wM yZ) 1;have U8:=KR (x:=r5.1) yZ; .g ?_ (.b (zee ?_ ?_) λr7 NW=> .s (have:=zC a0.Clients ((wA .i64 a1 1).toNat) r5.1;?_)))))
 all_goals (try simp only[NB]at *)<;>(try simp(disch:=omega) only[DA,PA]at *)<;>omega
def xT{a0 a1 a2 a3}(ha:wt a0≤800000000)(hb:wt a3≤900000000)(hc:TW a0)(hd:0≤a1∧a1≤2):Ok (Ek a0 a1 a2 a3) λr=>wt r≤wt a0+1200000∧wt r.Clients+wt r.S≤wt a0.Clients+wt a0.S+50000∧TW r:=by
 unfold Ek;refine .b (zhA ?_ ?_ ?_ ?_) λr1 OV=> .b (VM ?_ ?_ ?_ ?_) λr2 dW=> .s ?_
 all_goals (try simp only[NB]at *)<;>omega
def zhy{a0 a1}(ha:wt a0≤900000000)(hb:wt a1≤4000000)(hc:TW a0):Ok (Jz a0 a1) λr=>wt r.2≤wt a0+4001000∧wt r.2.Clients+wt r.2.S≤wt a0.Clients+wt a0.S∧TW r.2:=by
 unfold Jz;refine have hk:=JB a0.Known;
 .b (zpN ?_) λr1 OV=>have hl:=JB r1; .c (λh1=> .s ?_)
  λh1=> .g ?_ (.g ?_ (.g ?_ (.s ?_)))
 all_goals (try simp only[NB]at *)<;>(try simp(disch:=omega) only[DA,PA]at *)<;>omega
def zhF{a0}(ha:wt a0≤800000000)(hb:TW a0):Ok (Ea a0) λr=>wt r.1≤1000∧wt r.2≤wt a0+120000∧wt r.2.Clients+wt r.2.S≤wt a0.Clients+wt a0.S+60000∧TW r.2:=by
 unfold Ea
 refine .j (λy1:(List Am)×Ab=>wt y1.1≤804∧wt y1.2≤wt a0+6000∧wt y1.2.Clients+wt y1.2.S≤wt a0.Clients+wt a0.S∧TW y1.2) (λy1 qW=> .b (zn0 ?_) λr9 dX=> .g ?_ (.s ?_))
  λk2 JV=> .l (λx3:(List Am)×Int×Ab=>0≤x3.2.1∧x3.2.1≤2∧wt x3.1≤402 *x3.2.1∧wt x3.2.2≤wt a0+3000 *x3.2.1∧wt x3.2.2.Clients+wt x3.2.2.S≤wt a0.Clients+wt a0.S∧TW x3.2.2) (λx3:(List Am)×Int×Ab=>(2 - x3.2.1).toNat) (λx3 FY k4 TV=> .c (λh1=> .h ?_ (.bg ?_ λe5 DX VX=> .b (znX ?_) λr6 uW=> .h ?_ (.m DX (have uY:=iM (l:=x3.2.2.Clients) (i:=x3.2.1.toNat) (x:=r6.1) (by have:=vG DX;omega) (wM DX) 0;have zX:=iM (l:=x3.2.2.Clients) (i:=x3.2.1.toNat) (x:=r6.1) (by have:=vG DX;omega) (wM DX) 1;have U8:=KR (x:=r6.1) DX; .g ?_ (.b (zee ?_ ?_) λr8 OW=> .g ?_ (TV _ (have:=zC x3.2.2.Clients x3.2.1.toNat r6.1;?_) (have:=zC x3.2.2.Clients x3.2.1.toNat r6.1;?_)))))))
  λh1=>JV _ ?_) ?_ ?_
 all_goals (try simp only[NB]at *)<;>(try simp(disch:=omega) only[DA,PA]at *)<;>omega
set_option maxHeartbeats 4000000 in
theorem zqO{a0 a1}(ha:wt a0≤400000000)(hb:wt a0.Clients+wt a0.S≤4000000)(hc:TW a0)(hd:0≤a1.I∧0≤a1.J∧0≤a1.N)(he:wt a1≤300000):Ok (Is a0 a1) λr=>wt r.2≤wt a0+5100000∧wt r.2.Clients+wt r.2.S≤wt a0.Clients+wt a0.S+61000∧TW r.2:=by
 unfold Is;refine have hsn:=JB a0.Seen;
 have hd1:=BS (a:=a1.I) (n:=2) ?_ ?_;
 have hd2:=BS (a:=a1.J) (n:=3) ?_ ?_;
 .jt (λy1=> .j (λy3:Am=>wt y3≤wt a0) (λy3 vY=> .j (λy6:Ab=>wt y6≤wt a0+5100000∧wt y6.Clients+wt y6.S≤wt a0.Clients+wt a0.S+61000∧TW y6) (λy6 vX=> .s ?_)
  λk7 UV=> .c (λh1=> .b (zcU ?_) λr8 OW=>have hn:wt (VE r8.2)=wt r8.2:=(by simp only[VE,PI,IE,FA,List.length_nil];omega); .h ?_ (.bg ?_ λe9 HZ CY=>have hie9:=vG HZ;have hve9:=XN HZ; .b (ziB ?_ ?_) λr10 rW=> .c (λh2=> .s ?_)
  λh2=> .m (zaq ?_) (.g ?_ (.b (zag ?_ ?_ ?_ ?_ ?_ ?_ ?_ ?_) λr12 vW=>UV _ ?_))))
  λh1=> .j (λy13:Ab=>wt y13≤wt a0+5100000∧wt y13.Clients+wt y13.S≤wt a0.Clients+wt a0.S+61000∧TW y13) (λy13 gY=>UV _ ?_)
  λk14 RV=> .c (λh3=> .h ?_ (.bg ?_ λe15 Q0 S0=>have hie15:=vG Q0;have hve15:=XN Q0; .b (znZ ?_ ?_) λr16 jY=> .c (λh4=> .s ?_)
  λh4=> .b (zag ?_ ?_ ?_ ?_ ?_ ?_ ?_ ?_) λr17 UX=>RV _ ?_))
  λh3=> .j (λy18:Ab=>wt y18≤wt a0+5100000∧wt y18.Clients+wt y18.S≤wt a0.Clients+wt a0.S+61000∧TW y18) (λy18 NZ=>RV _ ?_)
  λk19 DW=> .c (λh5=> .b (zoc ?_ ?_) λr20 pY=> .c (λh6=> .s ?_)
  λh6=> .b (zhE ?_) λr21 MZ=> .b (VM ?_ ?_ ?_ ?_) λr22 fX=>DW _ ?_)
  λh5=> .j (λy23:Ab=>wt y23≤wt a0+5100000∧wt y23.Clients+wt y23.S≤wt a0.Clients+wt a0.S+61000∧TW y23) (λy23 eZ=>DW _ ?_)
  λk24 pW=> .c (λh7=> .c (λh8=> .s ?_)
  λh8=> .b (zhF ?_ ?_) λr25 rX=> .b (VM ?_ ?_ ?_ ?_) λr26 FX=>pW _ ?_)
  λh7=> .j (λy27:Ab=>wt y27≤wt a0+5100000∧wt y27.Clients+wt y27.S≤wt a0.Clients+wt a0.S+61000∧TW y27) (λy27 W4=>pW _ ?_)
  λk28 ZW=> .c (λh9=> .h ?_ (.bg ?_ λe29 NY he29w=>have hie29:=vG NY;have hve29:=XN NY; .b (zq8 ?_) λr31 V4=> .h ?_ (.m NY (have uY:=iM (l:=a0.Clients) (i:=(EA .i64 a1.I 2).toNat) (x:=r31) (by have:=vG NY;omega) (wM NY) 0;have zX:=iM (l:=a0.Clients) (i:=(EA .i64 a1.I 2).toNat) (x:=r31) (by have:=vG NY;omega) (wM NY) 1;have U8:=KR (x:=r31) NY;ZW _ (have:=zC a0.Clients ((EA .i64 a1.I 2).toNat) r31;?_)))))
  λh9=> .j (λy33:Ab=>wt y33≤wt a0+5100000∧wt y33.Clients+wt y33.S≤wt a0.Clients+wt a0.S+61000∧TW y33) (λy33 hy33=>ZW _ ?_)
  λk34 iZ=> .c (λxW=> .h ?_ (.bg ?_ λe35 T7 he35w=>have hie35:=vG T7;have hve35:=XN T7; .b (znI ?_) λr36 N2=> .c (λHW=> .s ?_)
  λHW=> .b (zag ?_ ?_ ?_ ?_ ?_ ?_ ?_ ?_) λr37 U4=>iZ _ ?_))
  λxW=> .j (λy38:Ab=>wt y38≤wt a0+5100000∧wt y38.Clients+wt y38.S≤wt a0.Clients+wt a0.S+61000∧TW y38) (λy38 hy38=>iZ _ ?_)
  λk39 v1=> .c (λaX=> .b (zeX ?_ ?_) λr40 hr40=> .c (λwX=> .s ?_)
  λwX=> .b (xT ?_ ?_ ?_ ?_) λr41 Y4=>v1 _ ?_)
  λaX=> .j (λy42:Ab=>wt y42≤wt a0+5100000∧wt y42.Clients+wt y42.S≤wt a0.Clients+wt a0.S+61000∧TW y42) (λy42 X6=>v1 _ ?_)
  λk43 JY=> .c (λwY=> .b (xT ?_ ?_ ?_ ?_) λr45 hr45=>JY _ ?_)
  λwY=> .j (λy46:Ab=>wt y46≤wt a0+5100000∧wt y46.Clients+wt y46.S≤wt a0.Clients+wt a0.S+61000∧TW y46) (λy46 hy46=>JY _ ?_)
  λk47 T0=> .c (λxY=> .b (xT ?_ ?_ ?_ ?_) λr48 hr48=>T0 _ ?_)
  λxY=> .j (λy49:Ab=>wt y49≤wt a0+5100000∧wt y49.Clients+wt y49.S≤wt a0.Clients+wt a0.S+61000∧TW y49) (λy49 Z6=>T0 _ ?_)
  λk50 U0=> .c (λUY=> .b (zeX ?_ ?_) λr51 hr51=> .j (λy52:Bool=>y52=false→0≤r51∧0<y3.B.length) (λy52 hy52=> .c (λjZ=> .s ?_)
  λjZ=>have i18:=hy52 jZ;have hd4:=BS (a:=a1.N) (n:=(([]++y3.B).length:Int)) ?_ ?_; .g ?_ (.n ?_ (.h ?_ (.bg ?_ λe55 he55 he55w=> .h ?_ (.bg ?_ λe57 he57 he57w=> .b (xT (have:=zC ([]++y3.B) (EA .i64 a1.N (([]++y3.B).length:Int):Int).toNat (UInt8.ofNat (CB .u8 ((e55.toNat:Nat):Int) (IntKind.wrap .u8 (iA .i64 1 (EA .i64 a1.J 255)):Int):Int).toNat);?_) (have:=zC ([]++y3.B) (EA .i64 a1.N (([]++y3.B).length:Int):Int).toNat (UInt8.ofNat (CB .u8 ((e55.toNat:Nat):Int) (IntKind.wrap .u8 (iA .i64 1 (EA .i64 a1.J 255)):Int):Int).toNat);?_) (have:=zC ([]++y3.B) (EA .i64 a1.N (([]++y3.B).length:Int):Int).toNat (UInt8.ofNat (CB .u8 ((e55.toNat:Nat):Int) (IntKind.wrap .u8 (iA .i64 1 (EA .i64 a1.J 255)):Int):Int).toNat);?_) (have:=zC ([]++y3.B) (EA .i64 a1.N (([]++y3.B).length:Int):Int).toNat (UInt8.ofNat (CB .u8 ((e55.toNat:Nat):Int) (IntKind.wrap .u8 (iA .i64 1 (EA .i64 a1.J 255)):Int):Int).toNat);?_)) λr59 D7=>U0 _ ?_)))))
  λk53 U7=> .c (λ_=>U7 _ nofun)
  λPZ=>U7 _ λq20=>?_)
  λUY=> .j (λy60:Ab=>wt y60≤wt a0+5100000∧wt y60.Clients+wt y60.S≤wt a0.Clients+wt a0.S+61000∧TW y60) (λy60 v7=>U0 _ ?_)
  λk61 LY=> .c (λN1=> .b (zq4 ?_ ?_ ?_) λr62 hr62=> .c (λO1=> .s ?_)
  λO1=> .b (xT ?_ ?_ ?_ ?_) λr64 hr64=>LY _ ?_)
  λN1=> .j (λy65:Ab=>wt y65≤wt a0+5100000∧wt y65.Clients+wt y65.S≤wt a0.Clients+wt a0.S+61000∧TW y65) (λy65 hy65=>LY _ ?_)
  λk66 V7=> .c (λXZ=> .b (zrb ?_) λr67 A7=>have hl67:=JB r67.2; .c (λP1=> .s ?_)
  λP1=> .b (VM ?_ ?_ ?_ ?_) λr68 hr68=>V7 _ ?_)
  λXZ=> .j (λy69:Ab=>wt y69≤wt a0+5100000∧wt y69.Clients+wt y69.S≤wt a0.Clients+wt a0.S+61000∧TW y69) (λy69 hy69=>V7 _ ?_)
  λk70 W0=> .c (λs5=> .h ?_ (.bg ?_ λe71 he71 L7=> .c (λY8=> .s ?_)
  λY8=> .h ?_ (.bg ?_ λe72 W7 he72w=>have hie72:=vG W7;have hve72:=XN W7; .b (zqZ ?_) λr73 hr73=> .b (zag ?_ ?_ ?_ ?_ ?_ ?_ ?_ ?_) λr74 hr74=>W0 _ ?_)))
  λs5=> .j (λy75:Ab=>wt y75≤wt a0+5100000∧wt y75.Clients+wt y75.S≤wt a0.Clients+wt a0.S+61000∧TW y75) (λy75 hy75=>W0 _ ?_)
  λk76 X0=> .c (λL5=> .b (znF ?_) λr77 hr77=> .c (λs8=> .s ?_)
  λs8=> .b (VM ?_ ?_ ?_ ?_) λr78 hr78=>X0 _ ?_)
  λL5=> .c (λt8=> .j (λy79:Bool×Ab=>wt y79.2≤wt a0+5100000∧wt y79.2.Clients+wt y79.2.S≤wt a0.Clients+wt a0.S+61000∧TW y79.2) (λy79 hy79=> .s ?_)
  λk80 X7=> .h ?_ (.bg ?_ λe81 he81 he81w=> .c (λM5=> .h ?_ (.bg ?_ λe82 Y7 he82w=>have hie82:=vG Y7;have hve82:=XN Y7; .b (zhy ?_ ?_ ?_) λr83 hr83=>X7 _ ?_))
  λM5=>X7 _ ?_))
  λt8=> .c (λN5=> .j (λy84:Bool×Ab=>wt y84.2≤wt a0+5100000∧wt y84.2.Clients+wt y84.2.S≤wt a0.Clients+wt a0.S+61000∧TW y84.2) (λy84 hy84=> .s ?_)
  λk85 d5=> .c (λZ8=> .bi ?_ ?_ λe86 he86 he86w=> .c (λb9=> .bi ?_ ?_ λe87 he87 he87w=> .b (zhy ?_ ?_ ?_) λr88 hr88=>d5 _ ?_)
  λb9=>d5 _ ?_)
  λZ8=>d5 _ ?_)
  λN5=> .j (λy89:Ab=>wt y89≤wt a0+5100000∧wt y89.Clients+wt y89.S≤wt a0.Clients+wt a0.S+61000∧TW y89) (λy89 hy89=>X0 _ ?_)
  λk90 Y0=> .c (λd9=> .j (λy91:Ab=>wt y91≤wt a0+5100000∧wt y91.Clients+wt y91.S≤wt a0.Clients+wt a0.S+61000∧TW y91) (λy91 hy91=>Y0 _ ?_)
  λk92 Z7=> .c (λg9=> .b (ziU ?_) λr93 hr93=>Z7 _ ?_)
  λg9=> .b (ziU ?_) λr94 hr94=>Z7 _ ?_)
  λd9=>Y0 _ ?_)
  λk4 TV=> .c (λi9=> .c (λj9=> .s ?_)
  λj9=>have hd3:=BS (a:=a1.I) (n:=(a0.Seen.length:Int)) ?_ ?_; .n ?_ (.h ?_ (.bg ?_ λe5 DX VX=>TV _ ?_)))
  λi9=>TV _ ?_)
  λk2 JV=> .c (λ_=>JV _)
  λ_=>JV _
 all_goals (try simp only[NB]at *)<;>(try simp(disch:=omega) only[DA,PA]at *)<;>omega
def zpG{a0}(ha:mA a0):Ok (In a0) λr=>mA r.2∧wt r.1≤4000∧TW r.1:=by
 unfold In;refine .b (MB ?_ ?_) λr1 OV=> .b (MB ?_ ?_) λr2 dW=> .b (MB ?_ ?_) λr3 tW=> .b (TA ?_) λr4 VV=> .b (zra ?_ ?_) λr5 QV=> .s ?_
 all_goals (try simp only[NB]at *)<;>(try simp(disch:=omega) only[DA,PA]at *)<;>omega
def zod{a0 a1 a2}(ha:mA a0)(hb:a1≤40):Ok (Iu a0 a1 a2) λr=>mA r.2.2.2∧wt r.2.2.1≤400000000∧TW r.2.2.1∧wt r.1≤4000∧wt r.2.1≤200000:=by
 unfold Iu
 refine .b (zpG ?_) λr1 OV=> .cp ?_ (.b (TA ?_) λr3 tW=> .j (λy4:(List Aq)×Af×Int×Ab=>mA y4.2.1∧wt y4.2.2.2≤400000000∧TW y4.2.2.2∧wt y4.1≤200000) (λy4 dZ=> .s ?_)
  λk5 mW=> .l (λx6:(List Aq)×Int×Af×Int×Ab=>0≤x6.2.1∧x6.2.1≤60∧mA x6.2.2.1∧wt x6.1+3001 *x6.2.1≤200000∧TW x6.2.2.2.2∧wt x6.2.2.2.2+5100000 *x6.2.1≤320000000∧wt x6.2.2.2.2.Clients+wt x6.2.2.2.2.S+61000 *x6.2.1≤3700000) (λx6:(List Aq)×Int×Af×Int×Ab=>x6.2.1.toNat) (λx6 G5 k7 UV=> .c (λh1=> .b (zps ?_ ?_ ?_) λr8 OW=> .g ?_ (.cp ?_ (.j (λy10:Bool×Ab=>wt y10.2≤wt x6.2.2.2.2+5100000∧wt y10.2.Clients+wt y10.2.S≤wt x6.2.2.2.2.Clients+wt x6.2.2.2.2.S+61000∧TW y10.2) (λy10 yX=> .j (λy13:Ab×Unit=>wt y13.1≤wt x6.2.2.2.2+5100000∧wt y13.1.Clients+wt y13.1.S≤wt x6.2.2.2.2.Clients+wt x6.2.2.2.2.S+61000∧TW y13.1) (λy13 gY=>UV _ ?_ ?_)
  λk14 RV=> .c (λh2=>RV _ ?_)
  λh2=>RV _ ?_)
  λk11 SV=> .c (λh3=> .c (λh4=>have f5:=zsT h4; .b (zqO ?_ ?_ ?_ ?_ ?_) λr12 vW=>SV _ ?_)
  λh4=>SV _ ?_)
  λh3=>SV _ ?_)))
  λh1=>mW _ ?_) ?_ ?_)
 all_goals (try simp only[NB]at *)<;>(try simp(disch:=omega) only[DA,PA]at *)<;>omega
def zoO{a0 a1}(ha:mA a0)(hb:a1≤40):Ok (Iv a0 a1) λr=>mA r.2∧wt r.1≤400000000∧TW r.1:=by
 unfold Iv;refine .b (uE ?_) λr1 OV=> .b (zod ?_ ?_) λr2 dW=> .s ?_
 all_goals (try simp only[NB]at *)<;>omega
end Go.D
namespace Go.D
def zd7{a0}(ha:mA a0):Ok (Hn a0) λr=>r.1.length≤12∧mA r.2:=by
 unfold Hn
 refine .b (TA ?_) λr1 OV=> .j (λy2:(List UInt8)=>y2.length≤12) (λy2 zW=> .s ?_)
  λk3 KV=> .l (λx4:(List UInt8)×Int=>0≤x4.2∧x4.2≤12∧(x4.1.length:Int)≤x4.2) (λx4:(List UInt8)×Int=>(12 - x4.2).toNat) (λx4 J5 k5 mW=> .c (λh1=> .g ?_ (mW _ ?_ ?_))
  λh1=>KV _ ?_) ?_ ?_
 all_goals (try simp only[NB]at *)<;>(try simp(disch:=omega) only[DA,PA]at *)<;>omega
def zpW{a0}(ha:mA a0):Ok (Iw a0) λr=>r.1.length≤32∧mA r.2:=by
 unfold Iw
 refine .b (TA ?_) λr1 OV=> .j (λy2:(List UInt8)=>y2.length≤32) (λy2 zW=> .s ?_)
  λk3 KV=> .l (λx4:(List UInt8)×Int=>0≤x4.2∧x4.2≤32∧(x4.1.length:Int)≤x4.2) (λx4:(List UInt8)×Int=>(32 - x4.2).toNat) (λx4 J5 k5 mW=> .c (λh1=> .g ?_ (mW _ ?_ ?_))
  λh1=>KV _ ?_) ?_ ?_
 all_goals (try simp only[NB]at *)<;>(try simp(disch:=omega) only[DA,PA]at *)<;>omega
def zpb{a0}(ha:mA a0):Ok (Ix a0) λr=>wt r.1≤100∧mA r.2:=by
 unfold Ix;refine .b (TA ?_) λr1 OV=> .b (TA ?_) λr2 dW=> .b (TA ?_) λr3 tW=> .b (TA ?_) λr4 VV=> .b (TA ?_) λr5 QV=> .b (zd7 ?_) λr6 uW=> .b (zd7 ?_) λr7 NW=> .b (zpW ?_) λr8 OW=> .b (zd7 ?_) λr9 dX=> .b (TA ?_) λr10 rW=> .b (TA ?_) λr12 vW=> .s ?_
 all_goals (try simp only[NB]at *)<;>(try simp(disch:=omega) only[DA,PA]at *)<;>omega
def zpy{a0}(ha:mA a0):Ok (Iy a0) λr=>mA r.2:=by
 unfold Iy
 refine .b (uE ?_) λr1 OV=> .c (λh1=> .b (TA ?_) λr2 dW=> .b (zqa ?_) λr3 tW=> .b (TA ?_) λr4 VV=> .s ?_)
  λh1=> .b (TA ?_) λr5 QV=> .s ?_
 all_goals (try simp only[NB]at *)<;>(try simp(disch:=omega) only[DA,PA]at *)<;>omega
def iN{a0}(ha:mA a0):Ok (Cu a0) λr=>mA r.2:=by
 unfold Cu
 refine .b (zpy ?_) λr1 OV=> .b (TA ?_) λr2 dW=> .j (λy3:Af×Ai=>mA y3.1) (λy3 vY=> .s ?_)
  λk4 TV=> .c (λh1=> .b (zqB ?_) λr5 QV=>TV _ ?_)
  λh1=> .j (λy6:Af×Ai=>mA y6.1) (λy6 vX=>TV _ ?_)
  λk7 UV=> .c (λh2=> .b (dB (-1) (65536) ?_ (by simp) (by decide)) λr8 OW=>UV _ ?_)
  λh2=>UV _ ?_
 all_goals (try simp only[NB]at *)<;>omega
def zpP{a0}(ha:mA a0):Ok (Iz a0) λr=>wt r.1≤250∧mA r.2:=by
 unfold Iz
 refine .b (zpb ?_) λr1 OV=> .b (TA ?_) λr2 dW=> .j (λy3:Af×Ae=>mA y3.1∧wt y3.2≤250) (λy3 vY=> .s ?_)
  λk4 TV=> .c (λh1=> .b (dB (-1) (18) ?_ (by simp) (by decide)) λr5 QV=>TV _ ?_)
  λh1=> .j (λy6:Af×Ae=>mA y6.1∧wt y6.2≤250) (λy6 vX=>TV _ ?_)
  λk7 UV=> .c (λh2=> .b (dB (-1) (10) ?_ (by simp) (by decide)) λr8 OW=>UV _ ?_)
  λh2=> .j (λy9:Af×Ae=>mA y9.1∧wt y9.2≤250) (λy9 GY=>UV _ ?_)
  λk10 PV=> .c (λh3=> .b (dB (-1) (2) ?_ (by simp) (by decide)) λr11 AW=>PV _ ?_)
  λh3=> .j (λy12:Af×Ae=>mA y12.1∧wt y12.2≤250) (λy12 DY=>PV _ ?_)
  λk13 lW=> .c (λh4=> .b (dB (0) (11) ?_ (by simp) (by decide)) λr14 lX=> .b (MB ?_ ?_) λr15 GW=>lW _ ?_)
  λh4=> .j (λy16:Af×Ae=>mA y16.1∧wt y16.2≤250) (λy16 iY=>lW _ ?_)
  λk17 gW=> .c (λh5=> .b (dB (0) (13) ?_ (by simp) (by decide)) λr18 EY=> .b (MB ?_ ?_) λr19 EX=>gW _ ?_)
  λh5=> .j (λy20:Af×Ae=>mA y20.1∧wt y20.2≤250) (λy20 rY=>gW _ ?_)
  λk21 iW=> .c (λh6=> .b (dB (-1) (4294967296) ?_ (by simp) (by decide)) λr22 fX=>iW _ ?_)
  λh6=> .j (λy23:Af×Ae=>mA y23.1∧wt y23.2≤250) (λy23 eZ=>iW _ ?_)
  λk24 pW=> .c (λh7=> .b (dB (-1) (281474976710656) ?_ (by simp) (by decide)) λr25 rX=>pW _ ?_)
  λh7=> .j (λy26:Af×Ae=>mA y26.1∧wt y26.2≤250) (λy26 L0=>pW _ ?_)
  λk27 YW=> .c (λh8=> .b (dB (0) (101) ?_ (by simp) (by decide)) λr28 J2=> .b (MB ?_ ?_) λr29 fZ=>YW _ ?_)
  λh8=> .j (λy30:Af×Ae=>mA y30.1∧wt y30.2≤250) (λy30 hy30=>YW _ ?_)
  λk31 z1=> .c (λh9=> .b (dB (0) (31) ?_ (by simp) (by decide)) λr32 hr32=> .b (MB ?_ ?_) λr33 m5=>z1 _ ?_)
  λh9=> .j (λy34:Af×Ae=>mA y34.1∧wt y34.2≤250) (λy34 O2=>z1 _ ?_)
  λk35 XX=> .c (λxW=> .b (iN ?_) λr36 N2=>XX _ ?_)
  λxW=> .j (λy37:Af×Ae=>mA y37.1∧wt y37.2≤250) (λy37 hy37=>XX _ ?_)
  λk38 b8=> .c (λHW=> .b (dB (-1) (1000001) ?_ (by simp) (by decide)) λr39 hr39=>b8 _ ?_)
  λHW=>b8 _ ?_
 all_goals (try simp only[NB]at *)<;>omega
end Go.D
namespace Go.D
end Go.D

/-
 The reference's machine comes to an end, and what it gives is small.
-/
import Derived.Test.YthmhafeaiaigoaaGreatN8c
set_option linter.all false
namespace Go.D
def nd(k:Int):Int:=if k≤3 then 0 else if k=4∨k=9 then 1 else if k=10 then 3 else 2
def zzn(k:Int):0≤nd k∧nd k≤3∧(k=4→nd k=1)∧(k=5→nd k=2)∧(k=6→nd k=2)∧(k=7→nd k=2)∧(k=8→nd k=2)∧(k=9→nd k=1)∧(k=10→nd k=3):=by
 unfold nd
 repeat' split
 all_goals omega
def zaU{a0}(ha:0≤a0∧a0≤10):Ok (Di a0) λr=>r=nd a0∧0≤nd a0∧nd a0≤3:=by
 have:a0=0∨a0=1∨a0=2∨a0=3∨a0=4∨a0=5∨a0=6∨a0=7∨a0=8∨a0=9∨a0=10:=by omega
 rcases this with rfl | rfl | rfl | rfl | rfl | rfl | rfl | rfl | rfl | rfl | rfl<;>exact⟨_,rfl,by decide⟩
def zjc{a0}(ha:lA a0):Ok (Kd a0) λr=>lA r.2∧r.1.B.length≤32∧1≤r.1.Kind∧r.1.Kind≤10:=by
 unfold Kd
 refine .b (aB (1) (10) ?_ (by simp) (by decide)) λr1 PV=> .j (λy2:Af×Bc=>lA y2.1∧y2.2.B.length≤32∧1≤y2.2.Kind∧y2.2.Kind≤10) (λy2 wW=> .b (NA ?_) λr6 xW=> .b (aB (0) (16) ?_ (by simp) (by decide)) λr7 MW=> .s ?_)
  λk3 LV=> .c (λh1=> .b (aB (0) (32) ?_ (by simp) (by decide)) λr4 WV=> .b (HB ?_ ?_) λr5 TV=>LV _ ?_)
  λh1=>LV _ ?_
 all_goals (try simp only[NB]at *)<;>omega
def zpt{a0 a1}(ha:lA a0)(hb:0<a1∧a1≤20):Ok (Is a0 a1) λr=>lA r.2∧wt r.1≤1000:=by
 unfold Is
 refine .b (NA ?_) λr1 PV=> .j (λy2:(List Bc)×Int×Af=>lA y2.2.2∧wt y2.1≤700∧y2.2.1≤21) (λy2 wW=> .j (λy16:(List Bc)=>wt y16≤1000) (λy16 vY=> .s ?_)
  λk17 nW=> .l (λx18:(List Bc)×Int=>wt x18.1+x18.2≤730∧wt x18.1≤729∧x18.2≤30) (λx18:(List Bc)×Int=>x18.2.toNat) (λx18 K7 k19 CW=> .c (λh1=> .g ?_ (CW _ ?_ ?_))
  λh1=>nW _ ?_) ?_ ?_)
  λk3 LV=> .l (λx4:(List Bc)×Int×Int×Af=>0≤x4.2.2.1∧x4.2.2.1≤20∧wt x4.1+33 *x4.2.2.1≤660∧x4.2.1+x4.2.2.1≤20∧ -2 *20≤x4.2.1 - 2 *x4.2.2.1∧lA x4.2.2.2) (λx4:(List Bc)×Int×Int×Af=>x4.2.2.1.toNat) (λx4 bZ k5 iW=> .c (λh2=> .b (zjc ?_) λr6 xW=> .j (λy7:Af×Bc=>lA y7.1∧y7.2.B.length≤32∧1≤y7.2.Kind∧y7.2.Kind≤10) (λy7 DY=> .b (zaU ?_) λr15 SW=> .g ?_ (iW _ ?_ ?_))
  λk8 uW=> .l (λx9:Int×Af×Bc=>0≤x9.1∧x9.1≤6∧lA x9.2.1∧x9.2.2.B.length≤32∧1≤x9.2.2.Kind∧x9.2.2.Kind≤10) (λx9:Int×Af×Bc=>(6 - x9.1).toNat) (λx9 hx9 k10 SV=> .j (λy11:Bool=>y11=true→x9.1<6) (λy11 cZ=> .c (λh3=>have i4:=cZ h3; .b (zjc ?_) λr14 qX=>SV _ ?_ ?_)
  λh3=>uW _ ?_)
  λk12 jW=> .c (λh5=> .b (zaU ?_) λr13 iX=>jW _ λq6=>?_)
  λ_=>jW _ nofun) ?_ ?_)
  λh2=>LV _ ?_) ?_ ?_
 all_goals (try simp only[NB]at *)<;>(try simp(disch:=omega) only[AA,IA]at *)<;>omega
def zqD{a0}(ha:lA a0):Ok (Iu a0) λr=>lA r.2.2∧r.2.1.length≤40:=by
 unfold Iu
 refine .b (NA ?_) λr1 PV=> .c (λh1=> .b (NA ?_) λr2 dW=> .b (HB ?_ ?_) λr3 pW=> .s ?_)
  λh1=> .c (λh2=> .b (NA ?_) λr4 WV=> .b (HB ?_ ?_) λr5 TV=> .s ?_)
  λh2=> .b (aB (0) (40) ?_ (by simp) (by decide)) λr6 xW=> .b (HB ?_ ?_) λr7 MW=> .s ?_
 all_goals (try simp only[NB]at *)<;>(try simp(disch:=omega) only[AA,IA]at *)<;>omega
def ziF{a0 a1 a2 a3}(ha:lA a0)(hb:wt a1≤900000000)(hc:2≤a1.Clients.length):Ok (Iw a0 a1 a2 a3) λr=>wt r.1≤3000∧lA r.2.1:=by
 unfold Iw;refine have yY:=tB a1.Known;
 .b (NA ?_) λr1 PV=> .b (NA ?_) λr2 dW=> .b (NA ?_) λr3 pW=> .j (λy4:Bool×Af=>lA y4.2) (λy4 rY=> .c (λh1=> .s ?_)
  λh1=> .j (λy7:Bool×Af=>lA y7.2) (λy7 DY=> .c (λh2=> .s ?_)
  λh2=> .b (NA ?_) λr11 AW=> .jt (λy12=> .j (λy16:Ao×Af×Ao=>wt y16.1≤3000∧lA y16.2.1) (λy16 vY=> .s ?_)
  λk17 nW=> .c (λh3=> .b (NA ?_) λr18 bY=> .b (HB ?_ ?_) λr19 HX=>nW _ ?_)
  λh3=> .jt (λy20=> .j (λy22:Ao×Af×Ao=>wt y22.1≤3000∧lA y22.2.1) (λy22 m5=>nW _ ?_)
  λk23 dY=> .c (λh4=> .b (NA ?_) λr24 yX=> .b (NA ?_) λr25 zX=> .b (HB ?_ ?_) λr26 KX=>dY _ ?_)
  λh4=> .jt (λy27=> .j (λy29:Ao×Af×Ao=>wt y29.1≤3000∧lA y29.2.1) (λy29 v7=>dY _ ?_)
  λk30 uY=> .c (λh5=>uY _ ?_)
  λh5=> .j (λy31:Ao×Af×Ao=>wt y31.1≤3000∧lA y31.2.1) (λy31 B5=>uY _ ?_)
  λk32 wY=> .c (λh6=>wY _ ?_)
  λh6=> .jt (λy33=> .j (λy35:Ao×Af×Ao=>wt y35.1≤3000∧lA y35.2.1) (λy35 z7=>wY _ ?_)
  λk36 tY=> .c (λh7=>tY _ ?_)
  λh7=> .b (NA ?_) λr37 s5=> .b (NA ?_) λr38 hr38=> .j (λy39:Bool×Af=>lA y39.2) (λy39 hy39=> .j (λy42:Af×Ao=>lA y42.1∧wt y42.2≤500) (λy42 Z2=> .b (NA ?_) λr46 hr46=> .c (λh8=> .s ?_)
  λh8=> .b (NA ?_) λr47 hr47=> .jt (λy48=> .j (λy50:Ao×Af=>wt y50.1≤3000∧lA y50.2) (λy50 hy50=>tY _ ?_)
  λk51 L1=> .c (λh9=> .b (zpt ?_ ?_) λr52 hr52=> .j (λy53:Af×Ao=>lA y53.1∧wt y53.2≤3000) (λy53 hy53=>L1 _ ?_)
  λk54 L7=> .c (λvW=> .b (NA ?_) λr55 hr55=> .bi ?_ ?_ λe56 he56 F7=> .j (λy57:Bool×Af=>lA y57.2) (λy57 hy57=> .j (λy60:(List UInt8)=>y60.length≤900000000) (λy60 M7=> .b (zqD ?_) λr63 hr63=> .bi ?_ ?_ λe64 he64 N7=> .b (NA ?_) λr65 hr65=> .b (NA ?_) λr66 hr66=> .b (NA ?_) λr67 O7=> .b (zrD ?_ ?_ ?_) λr68 hr68=> .j (λy69:Ao=>wt y69≤3000) (λy69 hy69=>L7 _ ?_)
  λk70 M1=> .c (λLW=>M1 _ ?_)
  λLW=>M1 _ ?_)
  λk61 dZ=> .c (λZW=> .bi ?_ ?_ λe62 he62 P7=>dZ _ ?_)
  λZW=>dZ _ ?_)
  λk58 Q7=> .c (λrX=>Q7 _ ?_)
  λrX=> .b (sE ?_) λr59 R7=>Q7 _ ?_)
  λvW=>L7 _ ?_)
  λh9=> .j (λy71:Ao×Af=>wt y71.1≤3000∧lA y71.2) (λy71 hy71=>L1 _ ?_)
  λk72 S7=> .c (λLY=>S7 _ ?_)
  λLY=> .j (λy73:Ao×Af=>wt y73.1≤3000∧lA y73.2) (λy73 hy73=>S7 _ ?_)
  λk74 T7=> .c (λMY=>T7 _ ?_)
  λMY=> .j (λy75:Ao×Af=>wt y75.1≤3000∧lA y75.2) (λy75 hy75=>T7 _ ?_)
  λk76 N1=> .c (λRY=> .b (NA ?_) λr77 hr77=>N1 _ ?_)
  λRY=> .j (λy78:Ao×Af=>wt y78.1≤3000∧lA y78.2) (λy78 hy78=>N1 _ ?_)
  λk79 U7=> .c (λDZ=>U7 _ ?_)
  λDZ=> .j (λy80:Ao×Af=>wt y80.1≤3000∧lA y80.2) (λy80 hy80=>U7 _ ?_)
  λk81 V7=> .c (λS1=> .b (NA ?_) λr82 hr82=>V7 _ ?_)
  λS1=> .j (λy83:Af×Ao=>lA y83.1∧wt y83.2≤3000) (λy83 hy83=>V7 _ ?_)
  λk84 W7=> .c (λTZ=> .b (sE ?_) λr85 hr85=> .j (λy86:Ao×Af=>wt y86.1≤3000∧lA y86.2) (λy86 hy86=>W7 _ ?_)
  λk87 X7=> .c (λUZ=> .b (NA ?_) λr88 hr88=>X7 _ ?_)
  λUZ=>X7 _ ?_)
  λTZ=> .j (λy89:Ao×Af=>wt y89.1≤3000∧lA y89.2) (λy89 hy89=>W7 _ ?_)
  λk90 O1=> .c (λA2=> .b (aB (2) (4) ?_ (by simp) (by decide)) λr91 hr91=> .b (aB (24) (44) ?_ (by simp) (by decide)) λr92 hr92=>O1 _ ?_)
  λA2=>O1 _ ?_)
  λk49 P1=> .c (λ_=>P1 _)
  λ_=>P1 _)
  λk43 fY=> .c (λL0=> .b (NA ?_) λr44 A5=>fY _ ?_)
  λL0=>fY _ ?_)
  λk40 E0=> .c (λD2=> .b (sE ?_) λr41 F1=>E0 _ ?_)
  λD2=>E0 _ ?_)
  λk34 gY=> .c (λ_=>gY _)
  λ_=>gY _)
  λk28 eX=> .c (λ_=>eX _)
  λ_=>eX _)
  λk21 oW=> .c (λ_=>oW _)
  λ_=>oW _)
  λk13 aW=> .c (λ_=>aW _)
  λI8=> .jt (λy14=>aW _)
  λk15 HW=> .c (λ_=>HW _)
  λ_=>HW _)
  λk8 uW=> .bi ?_ ?_ λe9 QZ HY=> .c (λV5=> .b (sE ?_) λr10 sW=>uW _ ?_)
  λV5=>uW _ ?_)
  λk5 iW=> .c (λW5=> .b (sE ?_) λr6 xW=>iW _ ?_)
  λW5=>iW _ ?_
 all_goals (try simp only[NB]at *)<;>(try simp(disch:=omega) only[AA,IA]at *)<;>omega
def zqW{a0}:Ok (Dp a0) λr=>(True)∧(r=true→1≤a0.Kind∧a0.Kind≤10∧a0.B.length≤200∧0≤a0.I∧0≤a0.J):=by
 unfold Dp
 refine .j (λy1:Bool=>y1=true→1≤a0.Kind∧a0.Kind≤10∧a0.B.length≤200∧0≤a0.I∧0≤a0.J) (λy1 qW=> .s ⟨trivial,λq1=>have i2:=qW q1;?_⟩)
  λk2 KV=> .c (λh3=> .c (λh4=> .c (λh5=>KV _ λq6=>?_)
  λ_=>KV _ nofun)
  λ_=>KV _ nofun)
  λ_=>KV _ nofun
 all_goals (try simp only[NB]at *)<;>omega
def zr4{a0 a1 a2}(ha:wt a0≤300000)(hb:wt a1≤500000000)(hc:wt a2≤500000000):Ok (Fr a0 a1 a2) λr=>r.1.length≤10000:=by
 unfold Fr
 refine .c (λh1=> .s ?_)
  λh1=> .j (λy1:(List (List UInt8))=>wt y1≤3300) (λy1 qW=>have hyw:=tB y1; .c (λh2=> .s ?_)
  λh2=> .h ?_ (.bg ?_ λe71 he71 Y7=> .g ?_ (.s ?_)))
  λk2 KV=> .l (λx3:(List (List UInt8))×Int=>0≤x3.2∧x3.2≤(a0.length:Int)∧wt x3.1≤201 *x3.2) (λx3:(List (List UInt8))×Int=>((a0.length:Int) - x3.2).toNat) (λx3 BY k4 UV=>have hpw:=tB x3.1; .c (λh3=> .bi ?_ ?_ λe5 EX xX=>have W4:=zzn e5.Kind; .j (λy6:Bool=>y6=false→1≤e5.Kind∧e5.Kind≤10∧e5.B.length≤200∧0≤e5.I∧0≤e5.J∧nd e5.Kind≤(x3.1.length:Int)) (λy6 AX=> .c (λh4=> .s ?_)
  λh4=>have i5:=AX h4; .b (zaU ?_) λr10 sW=> .j (λy11:(List UInt8)=>y11.length≤500000000) (λy11 cZ=> .j (λy68:Bool=>y68=false→y11.length≤200) (λy68 hy68=> .c (λh6=> .s ?_)
  λh6=>have i7:=hy68 h6; .h ?_ (.g (have:=WD x3.1 ((qA .i64 (x3.1.length:Int) r10 - 0).toNat);?_) (UV _ (have:=WD x3.1 ((qA .i64 (x3.1.length:Int) r10 - 0).toNat);?_) (have:=WD x3.1 ((qA .i64 (x3.1.length:Int) r10 - 0).toNat);?_))))
  λk69 Z7=> .c (λ_=>Z7 _ nofun)
  λh8=>Z7 _ λq9=>?_)
  λk12 jW=> .c (λvW=> .g ?_ (jW _ ?_))
  λvW=> .j (λy13:(List UInt8)=>y13.length≤500000000) (λy13 kX=>jW _ ?_)
  λk14 RV=> .c (λLW=> .c (λZW=> .s ?_)
  λZW=> .bi ?_ ?_ λe15 ZY aZ=> .g ?_ (RV _ ?_))
  λLW=> .j (λy16:(List UInt8)=>y16.length≤500000000) (λy16 vY=>RV _ ?_)
  λk17 nW=> .c (λrX=> .c (λLY=> .s ?_)
  λLY=> .bi ?_ ?_ λe18 z5 E1=> .g ?_ (nW _ ?_))
  λrX=> .j (λy19:(List UInt8)=>y19.length≤500000000) (λy19 hy19=>nW _ ?_)
  λk20 iY=> .c (λMY=> .h ?_ (.bg ?_ λe21 he21 he21w=> .b (zwJ ?_) λr22 jX=> .c (λRY=> .s ?_)
  λRY=>iY _ ?_))
  λMY=> .j (λy23:(List UInt8)=>y23.length≤500000000) (λy23 AZ=>iY _ ?_)
  λk24 cW=> .c (λDZ=> .h ?_ (.bg ?_ λe25 he25 b8=> .g ?_ (.h ?_ (.bg ?_ λe27 d8 Y3=> .g ?_ (cW _ ?_)))))
  λDZ=> .j (λy28:(List UInt8)=>y28.length≤500000000) (λy28 C5=>cW _ ?_)
  λk29 jY=> .c (λS1=> .h ?_ (.bg ?_ λe30 g8 he30w=> .h ?_ (.bg ?_ λe32 j8 m8=> .c (λTZ=> .s ?_)
  λTZ=> .j (λy33:(List UInt8)=>y33.length≤500000000) (λy33 hy33=>jY _ ?_)
  λk34 gY=> .l (λx35:(List UInt8)×Int=>0≤x35.2∧x35.2≤(e30.length:Int)∧(x35.1.length:Int)=x35.2) (λx35:(List UInt8)×Int=>((e30.length:Int) - x35.2).toNat) (λx35 hx35 k36 tY=> .h ?_ (.m g8 (.c (λUZ=> .h ?_ (.m g8 (.bi ?_ ?_ λe39 he39 he39w=> .h ?_ (.m j8 (.bi ?_ ?_ λe42 he42 he42w=> .g ?_ (tY _ ?_ ?_))))))
  λUZ=>gY _ ?_))) ?_ ?_)))
  λS1=> .j (λy44:(List UInt8)=>y44.length≤500000000) (λy44 hy44=>jY _ ?_)
  λk45 v3=> .c (λA2=> .h ?_ (.bg ?_ λe46 he46 he46w=> .h ?_ (.bg ?_ λe48 he48 he48w=>have hhm:=mL e46 e48;v3 _ ?_)))
  λA2=> .j (λy50:(List UInt8)=>y50.length≤500000000) (λy50 hy50=>v3 _ ?_)
  λk51 L1=> .c (λC2=> .h ?_ (.bg ?_ λe52 he52 he52w=> .h ?_ (.bg ?_ λe54 he54 he54w=> .b dV λr55 hr55=>L1 _ ?_)))
  λC2=> .j (λy56:(List UInt8)=>y56.length≤500000000) (λy56 hy56=>L1 _ ?_)
  λk57 n8=> .c (λL0=> .h ?_ (.bg ?_ λe58 he58 G7=> .b (uM ?_) λr59 R7=>n8 _ ?_))
  λL0=> .j (λy60:(List UInt8)=>y60.length≤500000000) (λy60 M7=>n8 _ ?_)
  λk61 dZ=> .c (λD2=> .h ?_ (.bg ?_ λe62 he62 P7=> .h ?_ (.bg ?_ λe64 he64 N7=> .h ?_ (.bg ?_ λe66 he66 he66w=> .b (zfC ?_ ?_) λr67 O7=>dZ _ ?_))))
  λD2=>dZ _ ?_)
  λk7 VV=> .b zqW λr8 ⟨zW,hr8i⟩=> .c (λ_=>VV _ nofun)
  λJ5=>have i26:=hr8i (nf J5); .b (zaU ?_) λr9 UW=>VV _ λq27=>?_)
  λh3=>KV _ ?_) ?_ ?_
 all_goals (try simp only[NB]at *)<;>(try simp(disch:=omega) only[AA,IA]at *)<;>omega
def zjR{a0 a1}(ha:wt a0≤1000000000):Ok (Ft a0 a1) λr=>wt r≤wt a0:=by
 unfold Ft
 refine .m (pA ?_) (.jt (λy2=> .j (λy4:Au=>wt y4≤wt a0) (λy4 rY=> .s ?_)
  λk5 iW=> .c (λh1=>iW _ ?_)
  λh1=>iW _ ?_)
  λk3 LV=> .c (λ_=>LV _)
  λ_=>LV _)
 all_goals (try simp only[NB]at *)<;>omega
def TP{a0 a1 a2}(ha:wt a0≤1000000000)(hb:wt a1≤1000)(hc:wt a2≤1000000)(hd:TW a0):Ok (Cf a0 a1 a2) λr=>wt r≤wt a0+1003000+wt a2∧wt r.Clients+wt r.S≤wt a0.Clients+wt a0.S∧TW r:=by
 unfold Cf;refine have hw:=tB a1;
 .j (λy1:Aa=>wt y1≤wt a0+1003000∧wt y1.Clients+wt y1.S≤wt a0.Clients+wt a0.S∧TW y1) (λy1 qW=> .g ?_ (.s ?_))
  λk2 KV=> .l (λx3:Int×Aa=>0≤x3.1∧x3.1≤(a1.length:Int)∧wt x3.2≤wt a0+1001 *x3.1∧wt x3.2.Clients+wt x3.2.S≤wt a0.Clients+wt a0.S∧TW x3.2) (λx3:Int×Aa=>((a1.length:Int) - x3.1).toNat) (λx3 BY k4 UV=> .c (λh1=> .j (λy5:Aa=>wt y5≤wt a0+1001 *x3.1+1001∧wt y5.Clients+wt y5.S≤wt a0.Clients+wt a0.S∧TW y5) (λy5 W2=>UV _ ?_ ?_)
  λk6 JW=> .c (λh2=> .bi ?_ ?_ λe7 RZ sY=> .g ?_ (JW _ ?_))
  λh2=>JW _ ?_)
  λh1=>KV _ ?_) ?_ ?_
 all_goals (try simp only[NB]at *)<;>(try simp(disch:=omega) only[AA,IA]at *)<;>omega
def zaJ{a0 a1 a2 a3 a4}(ha:wt a0≤900000000)(hb:wt a2≤zhV a0.Clients a1.toNat+2000)(hc:a3.length≤3)(hd:wt a3≤1000000)(he:wt a4≤1000000)(hf:TW a0)(hg:0≤a1∧a1≤1)(hh:a2.Id=BJ a0.Clients a1.toNat):Ok (Dj a0 a1 a2 a3 a4) λr=>wt r≤wt a0+1006000+wt a4∧wt r.Clients+wt r.S≤wt a0.Clients+wt a0.S+2000∧TW r:=by
 unfold Dj;refine .h ?_ (.bg ?_ λe1 PY s7=>have hwa:=rO PY;have OY:=JM (l:=a0.Clients) (i:=a1.toNat) (x:=a2) (by have:=GG PY;omega) (UM PY) 0;have IX:=JM (l:=a0.Clients) (i:=a1.toNat) (x:=a2) (by have:=GG PY;omega) (UM PY) 1;have t9:=mS (x:=a2) PY; .b (ze0 ?_ ?_) λr2 dW=> .b (TP (have:=BC a0.Clients a1.toNat a2;?_) (have:=BC a0.Clients a1.toNat a2;?_) (have:=BC a0.Clients a1.toNat a2;?_) (have:=BC a0.Clients a1.toNat a2;?_)) λr3 pW=> .s ?_)
 all_goals (try simp only[NB]at *)<;>omega
def zpZ{a0 a1 a2 a3}(ha:wt a0≤900000000)(hb:wt a3≤900000000)(hc:TW a0)(hd:0≤a1∧a1≤2):Ok (Hk a0 a1 a2 a3) λr=>wt r.1≤1000∧wt r.2≤wt a0+100000∧wt r.2.Clients+wt r.2.S≤wt a0.Clients+wt a0.S+50000∧TW r.2:=by
 unfold Hk
 refine .c (λh1=> .b (zoX ?_ ?_) λr1 PV=> .g ?_ (.b (ziy ?_) λr2 dW=> .s ?_))
  λh1=> .b (zih ?_) λr3 pW=> .c (λh2=> .s ?_)
  λh2=> .h ?_ (.bg ?_ λe4 yZ YY=> .b (zeF ?_ ?_) λr5 TV=> .h ?_ (.m yZ (have OY:=JM (l:=a0.Clients) (i:=(qA .i64 a1 1).toNat) (x:=r5.1) (by have:=GG yZ;omega) (UM yZ) 0;have IX:=JM (l:=a0.Clients) (i:=(qA .i64 a1 1).toNat) (x:=r5.1) (by have:=GG yZ;omega) (UM yZ) 1;have t9:=mS (x:=r5.1) yZ; .g ?_ (.b (ze0 ?_ ?_) λr7 MW=> .s (have:=BC a0.Clients ((qA .i64 a1 1).toNat) r5.1;?_)))))
 all_goals (try simp only[NB]at *)<;>(try simp(disch:=omega) only[AA,IA]at *)<;>omega
def bU{a0 a1 a2 a3}(ha:wt a0≤800000000)(hb:wt a3≤900000000)(hc:TW a0)(hd:0≤a1∧a1≤2):Ok (Da a0 a1 a2 a3) λr=>wt r≤wt a0+1200000∧wt r.Clients+wt r.S≤wt a0.Clients+wt a0.S+50000∧TW r:=by
 unfold Da;refine .b (zpZ ?_ ?_ ?_ ?_) λr1 PV=> .b (TP ?_ ?_ ?_ ?_) λr2 dW=> .s ?_
 all_goals (try simp only[NB]at *)<;>omega
def ziu{a0 a1}(ha:wt a0≤900000000)(hb:wt a1≤4000000)(hc:TW a0):Ok (Fs a0 a1) λr=>wt r.2≤wt a0+4001000∧wt r.2.Clients+wt r.2.S≤wt a0.Clients+wt a0.S∧TW r.2:=by
 unfold Fs;refine have hk:=tB a0.Known;
 .b (zqI ?_) λr1 PV=>have hl:=tB r1; .c (λh1=> .s ?_)
  λh1=> .g ?_ (.g ?_ (.g ?_ (.s ?_)))
 all_goals (try simp only[NB]at *)<;>(try simp(disch:=omega) only[AA,IA]at *)<;>omega
def zqg{a0}(ha:wt a0≤800000000)(hb:TW a0):Ok (Gv a0) λr=>wt r.1≤1000∧wt r.2≤wt a0+120000∧wt r.2.Clients+wt r.2.S≤wt a0.Clients+wt a0.S+60000∧TW r.2:=by
 unfold Gv
 refine .j (λy1:(List Am)×Aa=>wt y1.1≤804∧wt y1.2≤wt a0+6000∧wt y1.2.Clients+wt y1.2.S≤wt a0.Clients+wt a0.S∧TW y1.2) (λy1 qW=> .b (zoW ?_) λr9 UW=> .g ?_ (.s ?_))
  λk2 KV=> .l (λx3:(List Am)×Int×Aa=>0≤x3.2.1∧x3.2.1≤2∧wt x3.1≤402 *x3.2.1∧wt x3.2.2≤wt a0+3000 *x3.2.1∧wt x3.2.2.Clients+wt x3.2.2.S≤wt a0.Clients+wt a0.S∧TW x3.2.2) (λx3:(List Am)×Int×Aa=>(2 - x3.2.1).toNat) (λx3 BY k4 UV=> .c (λh1=> .h ?_ (.bg ?_ λe5 EX xX=> .b (zoT ?_) λr6 xW=> .h ?_ (.m EX (have OY:=JM (l:=x3.2.2.Clients) (i:=x3.2.1.toNat) (x:=r6.1) (by have:=GG EX;omega) (UM EX) 0;have IX:=JM (l:=x3.2.2.Clients) (i:=x3.2.1.toNat) (x:=r6.1) (by have:=GG EX;omega) (UM EX) 1;have t9:=mS (x:=r6.1) EX; .g ?_ (.b (ze0 ?_ ?_) λr8 zW=> .g ?_ (UV _ (have:=BC x3.2.2.Clients x3.2.1.toNat r6.1;?_) (have:=BC x3.2.2.Clients x3.2.1.toNat r6.1;?_)))))))
  λh1=>KV _ ?_) ?_ ?_
 all_goals (try simp only[NB]at *)<;>(try simp(disch:=omega) only[AA,IA]at *)<;>omega
set_option maxHeartbeats 4000000 in
theorem zjk{a0 a1}(ha:wt a0≤400000000)(hb:wt a0.Clients+wt a0.S≤4000000)(hc:TW a0)(hd:0≤a1.I∧0≤a1.J∧0≤a1.N)(he:wt a1≤300000):Ok (Hp a0 a1) λr=>wt r.2≤wt a0+5100000∧wt r.2.Clients+wt r.2.S≤wt a0.Clients+wt a0.S+61000∧TW r.2:=by
 unfold Hp;refine have hsn:=tB a0.Seen;
 have hd1:=MH (a:=a1.I) (n:=2) ?_ ?_;
 have hd2:=MH (a:=a1.J) (n:=3) ?_ ?_;
 .jt (λy1=> .j (λy3:Am=>wt y3≤wt a0) (λy3 QY=> .j (λy6:Aa=>wt y6≤wt a0+5100000∧wt y6.Clients+wt y6.S≤wt a0.Clients+wt a0.S+61000∧TW y6) (λy6 AX=> .s ?_)
  λk7 VV=> .c (λh1=> .b (zdy ?_) λr8 zW=>have hn:wt (KE r8.2)=wt r8.2:=(by simp only[KE,jJ,NE,EA,List.length_nil];omega); .h ?_ (.bg ?_ λe9 QZ HY=>have hie9:=GG QZ;have hve9:=rO QZ; .b (zjy ?_ ?_) λr10 sW=> .c (λh2=> .s ?_)
  λh2=> .m (zaW ?_) (.g ?_ (.b (zaJ ?_ ?_ ?_ ?_ ?_ ?_ ?_ ?_) λr12 BW=>VV _ ?_))))
  λh1=> .j (λy13:Aa=>wt y13≤wt a0+5100000∧wt y13.Clients+wt y13.S≤wt a0.Clients+wt a0.S+61000∧TW y13) (λy13 kX=>VV _ ?_)
  λk14 RV=> .c (λh3=> .h ?_ (.bg ?_ λe15 ZY aZ=>have hie15:=GG ZY;have hve15:=rO ZY; .b (zoV ?_ ?_) λr16 fX=> .c (λh4=> .s ?_)
  λh4=> .b (zaJ ?_ ?_ ?_ ?_ ?_ ?_ ?_ ?_) λr17 aY=>RV _ ?_))
  λh3=> .j (λy18:Aa=>wt y18≤wt a0+5100000∧wt y18.Clients+wt y18.S≤wt a0.Clients+wt a0.S+61000∧TW y18) (λy18 D0=>RV _ ?_)
  λk19 CW=> .c (λh5=> .b (zo7 ?_ ?_) λr20 IY=> .c (λh6=> .s ?_)
  λh6=> .b (ziy ?_) λr21 zZ=> .b (TP ?_ ?_ ?_ ?_) λr22 jX=>CW _ ?_)
  λh5=> .j (λy23:Aa=>wt y23≤wt a0+5100000∧wt y23.Clients+wt y23.S≤wt a0.Clients+wt a0.S+61000∧TW y23) (λy23 AZ=>CW _ ?_)
  λk24 cW=> .c (λh7=> .c (λh8=> .s ?_)
  λh8=> .b (zqg ?_ ?_) λr25 zX=> .b (TP ?_ ?_ ?_ ?_) λr26 KX=>cW _ ?_)
  λh7=> .j (λy27:Aa=>wt y27≤wt a0+5100000∧wt y27.Clients+wt y27.S≤wt a0.Clients+wt a0.S+61000∧TW y27) (λy27 v5=>cW _ ?_)
  λk28 eX=> .c (λh9=> .h ?_ (.bg ?_ λe29 KY o8=>have hie29:=GG KY;have hve29:=rO KY; .b (zr9 ?_) λr31 t5=> .h ?_ (.m KY (have OY:=JM (l:=a0.Clients) (i:=(zA .i64 a1.I 2).toNat) (x:=r31) (by have:=GG KY;omega) (UM KY) 0;have IX:=JM (l:=a0.Clients) (i:=(zA .i64 a1.I 2).toNat) (x:=r31) (by have:=GG KY;omega) (UM KY) 1;have t9:=mS (x:=r31) KY;eX _ (have:=BC a0.Clients ((zA .i64 a1.I 2).toNat) r31;?_)))))
  λh9=> .j (λy33:Aa=>wt y33≤wt a0+5100000∧wt y33.Clients+wt y33.S≤wt a0.Clients+wt a0.S+61000∧TW y33) (λy33 hy33=>eX _ ?_)
  λk34 gY=> .c (λvW=> .h ?_ (.bg ?_ λe35 s8 he35w=>have hie35:=GG s8;have hve35:=rO s8; .b (zoD ?_) λr36 o3=> .c (λLW=> .s ?_)
  λLW=> .b (zaJ ?_ ?_ ?_ ?_ ?_ ?_ ?_ ?_) λr37 s5=>gY _ ?_))
  λvW=> .j (λy38:Aa=>wt y38≤wt a0+5100000∧wt y38.Clients+wt y38.S≤wt a0.Clients+wt a0.S+61000∧TW y38) (λy38 D5=>gY _ ?_)
  λk39 eZ=> .c (λZW=> .b (zcm ?_ ?_) λr40 hr40=> .c (λrX=> .s ?_)
  λrX=> .b (bU ?_ ?_ ?_ ?_) λr41 F1=>eZ _ ?_)
  λZW=> .j (λy42:Aa=>wt y42≤wt a0+5100000∧wt y42.Clients+wt y42.S≤wt a0.Clients+wt a0.S+61000∧TW y42) (λy42 Z2=>eZ _ ?_)
  λk43 fY=> .c (λLY=> .b (bU ?_ ?_ ?_ ?_) λr45 hr45=>fY _ ?_)
  λLY=> .j (λy46:Aa=>wt y46≤wt a0+5100000∧wt y46.Clients+wt y46.S≤wt a0.Clients+wt a0.S+61000∧TW y46) (λy46 hy46=>fY _ ?_)
  λk47 I1=> .c (λMY=> .b (bU ?_ ?_ ?_ ?_) λr48 hr48=>I1 _ ?_)
  λMY=> .j (λy49:Aa=>wt y49≤wt a0+5100000∧wt y49.Clients+wt y49.S≤wt a0.Clients+wt a0.S+61000∧TW y49) (λy49 E7=>I1 _ ?_)
  λk50 J1=> .c (λRY=> .b (zcm ?_ ?_) λr51 t8=> .j (λy52:Bool=>y52=false→0≤r51∧0<y3.B.length) (λy52 hy52=> .c (λDZ=> .s ?_)
  λDZ=>have i18:=hy52 DZ;have hd4:=MH (a:=a1.N) (n:=(([]++y3.B).length:Int)) ?_ ?_; .g ?_ (.n ?_ (.h ?_ (.bg ?_ λe55 he55 he55w=> .h ?_ (.bg ?_ λe57 he57 he57w=> .b (bU (have:=BC ([]++y3.B) (zA .i64 a1.N (([]++y3.B).length:Int):Int).toNat (UInt8.ofNat (xB .u8 ((e55.toNat:Nat):Int) (IntKind.wrap .u8 (iA .i64 1 (zA .i64 a1.J 255)):Int):Int).toNat);?_) (have:=BC ([]++y3.B) (zA .i64 a1.N (([]++y3.B).length:Int):Int).toNat (UInt8.ofNat (xB .u8 ((e55.toNat:Nat):Int) (IntKind.wrap .u8 (iA .i64 1 (zA .i64 a1.J 255)):Int):Int).toNat);?_) (have:=BC ([]++y3.B) (zA .i64 a1.N (([]++y3.B).length:Int):Int).toNat (UInt8.ofNat (xB .u8 ((e55.toNat:Nat):Int) (IntKind.wrap .u8 (iA .i64 1 (zA .i64 a1.J 255)):Int):Int).toNat);?_) (have:=BC ([]++y3.B) (zA .i64 a1.N (([]++y3.B).length:Int):Int).toNat (UInt8.ofNat (xB .u8 ((e55.toNat:Nat):Int) (IntKind.wrap .u8 (iA .i64 1 (zA .i64 a1.J 255)):Int):Int).toNat);?_)) λr59 R7=>J1 _ ?_)))))
  λk53 v8=> .c (λ_=>v8 _ nofun)
  λTZ=>v8 _ λq20=>?_)
  λRY=> .j (λy60:Aa=>wt y60≤wt a0+5100000∧wt y60.Clients+wt y60.S≤wt a0.Clients+wt a0.S+61000∧TW y60) (λy60 M7=>J1 _ ?_)
  λk61 dZ=> .c (λA2=> .b (zr4 ?_ ?_ ?_) λr62 hr62=> .c (λC2=> .s ?_)
  λC2=> .b (bU ?_ ?_ ?_ ?_) λr64 hr64=>dZ _ ?_)
  λA2=> .j (λy65:Aa=>wt y65≤wt a0+5100000∧wt y65.Clients+wt y65.S≤wt a0.Clients+wt a0.S+61000∧TW y65) (λy65 hy65=>dZ _ ?_)
  λk66 w8=> .c (λL0=> .b (zsc ?_) λr67 O7=>have hl67:=tB r67.2; .c (λD2=> .s ?_)
  λD2=> .b (TP ?_ ?_ ?_ ?_) λr68 hr68=>w8 _ ?_)
  λL0=> .j (λy69:Aa=>wt y69≤wt a0+5100000∧wt y69.Clients+wt y69.S≤wt a0.Clients+wt a0.S+61000∧TW y69) (λy69 hy69=>w8 _ ?_)
  λk70 M1=> .c (λJ5=> .h ?_ (.bg ?_ λe71 he71 Y7=> .c (λz9=> .s ?_)
  λz9=> .h ?_ (.bg ?_ λe72 z8 he72w=>have hie72:=GG z8;have hve72:=rO z8; .b (zrX ?_) λr73 hr73=> .b (zaJ ?_ ?_ ?_ ?_ ?_ ?_ ?_ ?_) λr74 hr74=>M1 _ ?_)))
  λJ5=> .j (λy75:Aa=>wt y75≤wt a0+5100000∧wt y75.Clients+wt y75.S≤wt a0.Clients+wt a0.S+61000∧TW y75) (λy75 hy75=>M1 _ ?_)
  λk76 N1=> .c (λU5=> .b (zoA ?_) λr77 hr77=> .c (λI8=> .s ?_)
  λI8=> .b (TP ?_ ?_ ?_ ?_) λr78 hr78=>N1 _ ?_)
  λU5=> .c (λJ8=> .j (λy79:Bool×Aa=>wt y79.2≤wt a0+5100000∧wt y79.2.Clients+wt y79.2.S≤wt a0.Clients+wt a0.S+61000∧TW y79.2) (λy79 hy79=> .s ?_)
  λk80 A8=> .h ?_ (.bg ?_ λe81 he81 he81w=> .c (λV5=> .h ?_ (.bg ?_ λe82 B8 he82w=>have hie82:=GG B8;have hve82:=rO B8; .b (ziu ?_ ?_ ?_) λr83 hr83=>A8 _ ?_))
  λV5=>A8 _ ?_))
  λJ8=> .c (λW5=> .j (λy84:Bool×Aa=>wt y84.2≤wt a0+5100000∧wt y84.2.Clients+wt y84.2.S≤wt a0.Clients+wt a0.S+61000∧TW y84.2) (λy84 hy84=> .s ?_)
  λk85 E5=> .c (λA9=> .bi ?_ ?_ λe86 he86 he86w=> .c (λB9=> .bi ?_ ?_ λe87 he87 he87w=> .b (ziu ?_ ?_ ?_) λr88 hr88=>E5 _ ?_)
  λB9=>E5 _ ?_)
  λA9=>E5 _ ?_)
  λW5=> .j (λy89:Aa=>wt y89≤wt a0+5100000∧wt y89.Clients+wt y89.S≤wt a0.Clients+wt a0.S+61000∧TW y89) (λy89 hy89=>N1 _ ?_)
  λk90 O1=> .c (λC9=> .j (λy91:Aa=>wt y91≤wt a0+5100000∧wt y91.Clients+wt y91.S≤wt a0.Clients+wt a0.S+61000∧TW y91) (λy91 hy91=>O1 _ ?_)
  λk92 C8=> .c (λD9=> .b (zjR ?_) λr93 hr93=>C8 _ ?_)
  λD9=> .b (zjR ?_) λr94 hr94=>C8 _ ?_)
  λC9=>O1 _ ?_)
  λk4 UV=> .c (λE9=> .c (λF9=> .s ?_)
  λF9=>have hd3:=MH (a:=a1.I) (n:=(a0.Seen.length:Int)) ?_ ?_; .n ?_ (.h ?_ (.bg ?_ λe5 EX xX=>UV _ ?_)))
  λE9=>UV _ ?_)
  λk2 KV=> .c (λ_=>KV _)
  λ_=>KV _
 all_goals (try simp only[NB]at *)<;>(try simp(disch:=omega) only[AA,IA]at *)<;>omega
def zqC{a0}(ha:lA a0):Ok (Gj a0) λr=>lA r.2∧wt r.1≤4000∧TW r.1:=by
 unfold Gj;refine .b (HB ?_ ?_) λr1 PV=> .b (HB ?_ ?_) λr2 dW=> .b (HB ?_ ?_) λr3 pW=> .b (NA ?_) λr4 WV=> .b (zsb ?_ ?_) λr5 TV=> .s ?_
 all_goals (try simp only[NB]at *)<;>(try simp(disch:=omega) only[AA,IA]at *)<;>omega
def zo8{a0 a1 a2}(ha:lA a0)(hb:a1≤40):Ok (Hq a0 a1 a2) λr=>lA r.2.2.2∧wt r.2.2.1≤400000000∧TW r.2.2.1∧wt r.1≤4000∧wt r.2.1≤200000:=by
 unfold Hq
 refine .b (zqC ?_) λr1 PV=> .cp ?_ (.b (NA ?_) λr3 pW=> .j (λy4:(List Ao)×Af×Int×Aa=>lA y4.2.1∧wt y4.2.2.2≤400000000∧TW y4.2.2.2∧wt y4.1≤200000) (λy4 rY=> .s ?_)
  λk5 iW=> .l (λx6:(List Ao)×Int×Af×Int×Aa=>0≤x6.2.1∧x6.2.1≤60∧lA x6.2.2.1∧wt x6.1+3001 *x6.2.1≤200000∧TW x6.2.2.2.2∧wt x6.2.2.2.2+5100000 *x6.2.1≤320000000∧wt x6.2.2.2.2.Clients+wt x6.2.2.2.2.S+61000 *x6.2.1≤3700000) (λx6:(List Ao)×Int×Af×Int×Aa=>x6.2.1.toNat) (λx6 n7 k7 VV=> .c (λh1=> .b (ziF ?_ ?_ ?_) λr8 zW=> .g ?_ (.cp ?_ (.j (λy10:Bool×Aa=>wt y10.2≤wt x6.2.2.2.2+5100000∧wt y10.2.Clients+wt y10.2.S≤wt x6.2.2.2.2.Clients+wt x6.2.2.2.2.S+61000∧TW y10.2) (λy10 VW=> .j (λy13:Aa×Unit=>wt y13.1≤wt x6.2.2.2.2+5100000∧wt y13.1.Clients+wt y13.1.S≤wt x6.2.2.2.2.Clients+wt x6.2.2.2.2.S+61000∧TW y13.1) (λy13 kX=>VV _ ?_ ?_)
  λk14 RV=> .c (λh2=>RV _ ?_)
  λh2=>RV _ ?_)
  λk11 QV=> .c (λh3=> .c (λh4=>have f5:=zM h4; .b (zjk ?_ ?_ ?_ ?_ ?_) λr12 BW=>QV _ ?_)
  λh4=>QV _ ?_)
  λh3=>QV _ ?_)))
  λh1=>iW _ ?_) ?_ ?_)
 all_goals (try simp only[NB]at *)<;>(try simp(disch:=omega) only[AA,IA]at *)<;>omega
def zpK{a0 a1}(ha:lA a0)(hb:a1≤40):Ok (Hr a0 a1) λr=>lA r.2∧wt r.1≤400000000∧TW r.1:=by
 unfold Hr;refine .b (sE ?_) λr1 PV=> .b (zo8 ?_ ?_) λr2 dW=> .s ?_
 all_goals (try simp only[NB]at *)<;>omega
end Go.D
namespace Go.D
def zeR{a0}(ha:lA a0):Ok (Hs a0) λr=>r.1.length≤12∧lA r.2:=by
 unfold Hs
 refine .b (NA ?_) λr1 PV=> .j (λy2:(List UInt8)=>y2.length≤12) (λy2 wW=> .s ?_)
  λk3 LV=> .l (λx4:(List UInt8)×Int=>0≤x4.2∧x4.2≤12∧(x4.1.length:Int)≤x4.2) (λx4:(List UInt8)×Int=>(12 - x4.2).toNat) (λx4 bZ k5 iW=> .c (λh1=> .g ?_ (iW _ ?_ ?_))
  λh1=>LV _ ?_) ?_ ?_
 all_goals (try simp only[NB]at *)<;>(try simp(disch:=omega) only[AA,IA]at *)<;>omega
def zqS{a0}(ha:lA a0):Ok (Ix a0) λr=>r.1.length≤32∧lA r.2:=by
 unfold Ix
 refine .b (NA ?_) λr1 PV=> .j (λy2:(List UInt8)=>y2.length≤32) (λy2 wW=> .s ?_)
  λk3 LV=> .l (λx4:(List UInt8)×Int=>0≤x4.2∧x4.2≤32∧(x4.1.length:Int)≤x4.2) (λx4:(List UInt8)×Int=>(32 - x4.2).toNat) (λx4 bZ k5 iW=> .c (λh1=> .g ?_ (iW _ ?_ ?_))
  λh1=>LV _ ?_) ?_ ?_
 all_goals (try simp only[NB]at *)<;>(try simp(disch:=omega) only[AA,IA]at *)<;>omega
def zp8{a0}(ha:lA a0):Ok (Iy a0) λr=>wt r.1≤100∧lA r.2:=by
 unfold Iy;refine .b (NA ?_) λr1 PV=> .b (NA ?_) λr2 dW=> .b (NA ?_) λr3 pW=> .b (NA ?_) λr4 WV=> .b (NA ?_) λr5 TV=> .b (zeR ?_) λr6 xW=> .b (zeR ?_) λr7 MW=> .b (zqS ?_) λr8 zW=> .b (zeR ?_) λr9 UW=> .b (NA ?_) λr10 sW=> .b (NA ?_) λr12 BW=> .s ?_
 all_goals (try simp only[NB]at *)<;>(try simp(disch:=omega) only[AA,IA]at *)<;>omega
def zqt{a0}(ha:lA a0):Ok (Iz a0) λr=>lA r.2:=by
 unfold Iz
 refine .b (sE ?_) λr1 PV=> .c (λh1=> .b (NA ?_) λr2 dW=> .b (zi3 ?_) λr3 pW=> .b (NA ?_) λr4 WV=> .s ?_)
  λh1=> .b (NA ?_) λr5 TV=> .s ?_
 all_goals (try simp only[NB]at *)<;>(try simp(disch:=omega) only[AA,IA]at *)<;>omega
def gM{a0}(ha:lA a0):Ok (Cl a0) λr=>lA r.2:=by
 unfold Cl
 refine .b (zqt ?_) λr1 PV=> .b (NA ?_) λr2 dW=> .j (λy3:Af×Ah=>lA y3.1) (λy3 QY=> .s ?_)
  λk4 UV=> .c (λh1=> .b (zrA ?_) λr5 TV=>UV _ ?_)
  λh1=> .j (λy6:Af×Ah=>lA y6.1) (λy6 AX=>UV _ ?_)
  λk7 VV=> .c (λh2=> .b (aB (-1) (65536) ?_ (by simp) (by decide)) λr8 zW=>VV _ ?_)
  λh2=>VV _ ?_
 all_goals (try simp only[NB]at *)<;>omega
def zqK{a0}(ha:lA a0):Ok (Ja a0) λr=>wt r.1≤250∧lA r.2:=by
 unfold Ja
 refine .b (zp8 ?_) λr1 PV=> .b (NA ?_) λr2 dW=> .j (λy3:Af×Ae=>lA y3.1∧wt y3.2≤250) (λy3 QY=> .s ?_)
  λk4 UV=> .c (λh1=> .b (aB (-1) (18) ?_ (by simp) (by decide)) λr5 TV=>UV _ ?_)
  λh1=> .j (λy6:Af×Ae=>lA y6.1∧wt y6.2≤250) (λy6 AX=>UV _ ?_)
  λk7 VV=> .c (λh2=> .b (aB (-1) (10) ?_ (by simp) (by decide)) λr8 zW=>VV _ ?_)
  λh2=> .j (λy9:Af×Ae=>lA y9.1∧wt y9.2≤250) (λy9 WY=>VV _ ?_)
  λk10 SV=> .c (λh3=> .b (aB (-1) (2) ?_ (by simp) (by decide)) λr11 AW=>SV _ ?_)
  λh3=> .j (λy12:Af×Ae=>lA y12.1∧wt y12.2≤250) (λy12 ZX=>SV _ ?_)
  λk13 aW=> .c (λh4=> .b (aB (0) (11) ?_ (by simp) (by decide)) λr14 qX=> .b (HB ?_ ?_) λr15 SW=>aW _ ?_)
  λh4=> .j (λy16:Af×Ae=>lA y16.1∧wt y16.2≤250) (λy16 vY=>aW _ ?_)
  λk17 nW=> .c (λh5=> .b (aB (0) (13) ?_ (by simp) (by decide)) λr18 bY=> .b (HB ?_ ?_) λr19 HX=>nW _ ?_)
  λh5=> .j (λy20:Af×Ae=>lA y20.1∧wt y20.2≤250) (λy20 JY=>nW _ ?_)
  λk21 oW=> .c (λh6=> .b (aB (-1) (4294967296) ?_ (by simp) (by decide)) λr22 jX=>oW _ ?_)
  λh6=> .j (λy23:Af×Ae=>lA y23.1∧wt y23.2≤250) (λy23 AZ=>oW _ ?_)
  λk24 cW=> .c (λh7=> .b (aB (-1) (281474976710656) ?_ (by simp) (by decide)) λr25 zX=>cW _ ?_)
  λh7=> .j (λy26:Af×Ae=>lA y26.1∧wt y26.2≤250) (λy26 C1=>cW _ ?_)
  λk27 WW=> .c (λh8=> .b (aB (0) (101) ?_ (by simp) (by decide)) λr28 X2=> .b (HB ?_ ?_) λr29 BZ=>WW _ ?_)
  λh8=> .j (λy30:Af×Ae=>lA y30.1∧wt y30.2≤250) (λy30 hy30=>WW _ ?_)
  λk31 fZ=> .c (λh9=> .b (aB (0) (31) ?_ (by simp) (by decide)) λr32 hr32=> .b (HB ?_ ?_) λr33 F5=>fZ _ ?_)
  λh9=> .j (λy34:Af×Ae=>lA y34.1∧wt y34.2≤250) (λy34 z3=>fZ _ ?_)
  λk35 kY=> .c (λvW=> .b (gM ?_) λr36 o3=>kY _ ?_)
  λvW=> .j (λy37:Af×Ae=>lA y37.1∧wt y37.2≤250) (λy37 hy37=>kY _ ?_)
  λk38 D8=> .c (λLW=> .b (aB (-1) (1000001) ?_ (by simp) (by decide)) λr39 hr39=>D8 _ ?_)
  λLW=>D8 _ ?_
 all_goals (try simp only[NB]at *)<;>omega
end Go.D
namespace Go.D
end Go.D

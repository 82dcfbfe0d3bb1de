/-
 The reference's machine comes to an end, and what it gives is small.
-/
import Derived.Test.YtfipojlaeaeedaaGreatN8c
set_option linter.all false
namespace Go.D
def nd(k:Int):Int:=if k≤3 then 0 else if k=4∨k=9 then 1 else if k=10 then 3 else 2
def zoX(k:Int):0≤nd k∧nd k≤3∧(k=4→nd k=1)∧(k=5→nd k=2)∧(k=6→nd k=2)∧(k=7→nd k=2)∧(k=8→nd k=2)∧(k=9→nd k=1)∧(k=10→nd k=3):=by
 unfold nd
 repeat' split
 all_goals omega
def CQ{a0}(ha:0≤a0∧a0≤10):Ok (Bt a0) λr=>r=nd a0∧0≤nd a0∧nd a0≤3:=by
 have:a0=0∨a0=1∨a0=2∨a0=3∨a0=4∨a0=5∨a0=6∨a0=7∨a0=8∨a0=9∨a0=10:=by omega
 rcases this with rfl | rfl | rfl | rfl | rfl | rfl | rfl | rfl | rfl | rfl | rfl<;>exact⟨_,rfl,by decide⟩
def zcJ{a0}(ha:GA a0):Ok (Ch a0) λr=>GA r.2∧r.1.B.length≤32∧1≤r.1.Kind∧r.1.Kind≤10:=by
 unfold Ch
 refine .b (DE (1) (10) ?_ (by simp) (by decide)) λr1 WV=> .j (λy2:Ah×Ay=>GA y2.1∧y2.2.B.length≤32∧1≤y2.2.Kind∧y2.2.Kind≤10) (λy2 AW=> .b (zB ?_) λr6 dX=> .b (DE (0) (16) ?_ (by simp) (by decide)) λr7 aY=> .s ?_)
  λk3 OV=> .c (λh1=> .b (DE (0) (32) ?_ (by simp) (by decide)) λr4 bW=> .b (TG ?_ ?_) λr5 NW=>OV _ ?_)
  λh1=>OV _ ?_
 all_goals (try simp only[NB]at *)<;>omega
def zhg{a0 a1}(ha:GA a0)(hb:0<a1∧a1≤20):Ok (Hj a0 a1) λr=>GA r.2∧wt r.1≤1000:=by
 unfold Hj
 refine .b (zB ?_) λr1 WV=> .j (λy2:(List Ay)×Int×Ah=>GA y2.2.2∧wt y2.1≤700∧y2.2.1≤21) (λy2 AW=> .j (λy16:(List Ay)=>wt y16≤1000) (λy16 B0=> .s ?_)
  λk17 BW=> .l (λx18:(List Ay)×Int=>wt x18.1+x18.2≤730∧wt x18.1≤729∧x18.2≤30) (λx18:(List Ay)×Int=>x18.2.toNat) (λx18 hx18 k19 UW=> .c (λh1=> .g ?_ (UW _ ?_ ?_))
  λh1=>BW _ ?_) ?_ ?_)
  λk3 OV=> .l (λx4:(List Ay)×Int×Int×Ah=>0≤x4.2.2.1∧x4.2.2.1≤20∧wt x4.1+33 *x4.2.2.1≤660∧x4.2.1+x4.2.2.1≤20∧ -2 *20≤x4.2.1 - 2 *x4.2.2.1∧GA x4.2.2.2) (λx4:(List Ay)×Int×Int×Ah=>x4.2.2.1.toNat) (λx4 hx4 k5 SW=> .c (λh2=> .b (zcJ ?_) λr6 dX=> .j (λy7:Ah×Ay=>GA y7.1∧y7.2.B.length≤32∧1≤y7.2.Kind∧y7.2.Kind≤10) (λy7 C9=> .b (CQ ?_) λr15 ZZ=> .g ?_ (SW _ ?_ ?_))
  λk8 CX=> .l (λx9:Int×Ah×Ay=>0≤x9.1∧x9.1≤6∧GA x9.2.1∧x9.2.2.B.length≤32∧1≤x9.2.2.Kind∧x9.2.2.Kind≤10) (λx9:Int×Ah×Ay=>(6 - x9.1).toNat) (λx9 hx9 k10 kW=> .j (λy11:Bool=>y11=true→x9.1<6) (λy11 Y2=> .c (λh3=>have i4:=Y2 h3; .b (zcJ ?_) λr14 A0=>kW _ ?_ ?_)
  λh3=>CX _ ?_)
  λk12 OW=> .c (λh5=> .b (CQ ?_) λr13 Q2=>OW _ λq6=>?_)
  λ_=>OW _ nofun) ?_ ?_)
  λh2=>OV _ ?_) ?_ ?_
 all_goals (try simp only[NB]at *)<;>(try simp(disch:=omega) only[nB,rB]at *)<;>omega
def zia{a0}(ha:GA a0):Ok (Hk a0) λr=>GA r.2.2∧r.2.1.length≤40:=by
 unfold Hk
 refine .b (zB ?_) λr1 WV=> .c (λh1=> .b (zB ?_) λr2 HW=> .b (TG ?_ ?_) λr3 wW=> .s ?_)
  λh1=> .c (λh2=> .b (zB ?_) λr4 bW=> .b (TG ?_ ?_) λr5 NW=> .s ?_)
  λh2=> .b (DE (0) (40) ?_ (by simp) (by decide)) λr6 dX=> .b (TG ?_ ?_) λr7 aY=> .s ?_
 all_goals (try simp only[NB]at *)<;>(try simp(disch:=omega) only[nB,rB]at *)<;>omega
def zh0{a0 a1 a2 a3}(ha:GA a0)(hb:wt a1≤400000000)(hc:TW a1):Ok (Ho a0 a1 a2 a3) λr=>wt r.1≤3000∧GA r.2.1:=by
 unfold Ho;refine have EX:=lC a1.Known;
 .b (zB ?_) λr1 WV=> .b (zB ?_) λr2 HW=> .b (zB ?_) λr3 wW=> .j (λy4:Bool×Ah=>GA y4.2) (λy4 J2=> .c (λh1=> .s ?_)
  λh1=> .j (λy7:Bool×Ah=>GA y7.2) (λy7 C9=> .c (λh2=> .s ?_)
  λh2=> .b (zB ?_) λr11 kZ=> .jt (λy12=> .j (λy16:Ai×Ah×Ai=>wt y16.1≤3000∧GA y16.2.1) (λy16 B0=> .s ?_)
  λk17 BW=> .c (λh3=> .b (zB ?_) λr18 N2=> .b (TG ?_ ?_) λr19 O2=>BW _ ?_)
  λh3=> .jt (λy20=> .j (λy22:Ai×Ah×Ai=>wt y22.1≤3000∧GA y22.2.1) (λy22 F9=>BW _ ?_)
  λk23 sZ=> .c (λh4=> .b (zB ?_) λr24 v9=> .b (zB ?_) λr25 m0=> .b (TG ?_ ?_) λr26 W2=>sZ _ ?_)
  λh4=> .jt (λy27=> .j (λy29:Ai×Ah×Ai=>wt y29.1≤3000∧GA y29.2.1) (λy29 z5=>sZ _ ?_)
  λk30 TX=> .c (λh5=>TX _ ?_)
  λh5=> .j (λy31:Ai×Ah×Ai=>wt y31.1≤3000∧GA y31.2.1) (λy31 hy31=>TX _ ?_)
  λk32 P5=> .c (λh6=>P5 _ ?_)
  λh6=> .jt (λy33=> .j (λy35:Ai×Ah×Ai=>wt y35.1≤3000∧GA y35.2.1) (λy35 H9=>P5 _ ?_)
  λk36 nY=> .c (λh7=>nY _ ?_)
  λh7=> .b (zB ?_) λr37 T2=> .b (zB ?_) λr38 hr38=> .j (λy39:Bool×Ah=>GA y39.2) (λy39 X9=> .j (λy42:Ah×Ai=>GA y42.1∧wt y42.2≤500) (λy42 G5=> .b (zB ?_) λr46 hr46=> .c (λh8=> .s ?_)
  λh8=> .b (zB ?_) λr47 hr47=> .jt (λy48=> .j (λy50:Ai×Ah=>wt y50.1≤3000∧GA y50.2) (λy50 Y9=>nY _ ?_)
  λk51 zZ=> .c (λh9=> .b (zhg ?_ ?_) λr52 U9=> .j (λy53:Ah×Ai=>GA y53.1∧wt y53.2≤3000) (λy53 hy53=>zZ _ ?_)
  λk54 Q5=> .c (λzW=> .b (zB ?_) λr55 Z9=> .bi ?_ ?_ λe56 V9 K5=> .j (λy57:Bool×Ah=>GA y57.2) (λy57 hy57=> .j (λy60:(List UInt8)=>y60.length≤900000000) (λy60 R5=> .b (zia ?_) λr63 hr63=> .bi ?_ ?_ λe64 aAA S5=> .b (zB ?_) λr65 N9=> .b (zB ?_) λr66 hr66=> .b (zB ?_) λr67 T5=> .b (ziP ?_ ?_ ?_) λr68 bAA=> .j (λy69:Ai=>wt y69≤3000) (λy69 cAA=>Q5 _ ?_)
  λk70 AZ=> .c (λtW=>AZ _ ?_)
  λtW=>AZ _ ?_)
  λk61 WX=> .c (λDW=> .bi ?_ ?_ λe62 dAA U5=>WX _ ?_)
  λDW=>WX _ ?_)
  λk58 V5=> .c (λWW=>V5 _ ?_)
  λWW=> .b (uI ?_) λr59 W5=>V5 _ ?_)
  λzW=>Q5 _ ?_)
  λh9=> .j (λy71:Ai×Ah=>wt y71.1≤3000∧GA y71.2) (λy71 hy71=>zZ _ ?_)
  λk72 X5=> .c (λbY=>X5 _ ?_)
  λbY=> .j (λy73:Ai×Ah=>wt y73.1≤3000∧GA y73.2) (λy73 hy73=>X5 _ ?_)
  λk74 Y5=> .c (λcY=>Y5 _ ?_)
  λcY=> .j (λy75:Ai×Ah=>wt y75.1≤3000∧GA y75.2) (λy75 eAA=>Y5 _ ?_)
  λk76 BZ=> .c (λDY=> .b (zB ?_) λr77 fAA=>BZ _ ?_)
  λDY=> .j (λy78:Ai×Ah=>wt y78.1≤3000∧GA y78.2) (λy78 hy78=>BZ _ ?_)
  λk79 Z5=> .c (λNY=>Z5 _ ?_)
  λNY=> .j (λy80:Ai×Ah=>wt y80.1≤3000∧GA y80.2) (λy80 hy80=>Z5 _ ?_)
  λk81 b6=> .c (λX0=> .b (zB ?_) λr82 hr82=>b6 _ ?_)
  λX0=> .j (λy83:Ah×Ai=>GA y83.1∧wt y83.2≤3000) (λy83 hy83=>b6 _ ?_)
  λk84 d6=> .c (λDZ=> .b (uI ?_) λr85 hr85=> .j (λy86:Ai×Ah=>wt y86.1≤3000∧GA y86.2) (λy86 hy86=>d6 _ ?_)
  λk87 m6=> .c (λEZ=> .b (zB ?_) λr88 gAA=>m6 _ ?_)
  λEZ=>m6 _ ?_)
  λDZ=> .j (λy89:Ai×Ah=>wt y89.1≤3000∧GA y89.2) (λy89 hAA=>d6 _ ?_)
  λk90 CZ=> .c (λLZ=> .b (DE (2) (4) ?_ (by simp) (by decide)) λr91 hr91=> .b (DE (24) (44) ?_ (by simp) (by decide)) λr92 hr92=>CZ _ ?_)
  λLZ=>CZ _ ?_)
  λk49 n6=> .c (λ_=>n6 _)
  λ_=>n6 _)
  λk43 VX=> .c (λVY=> .b (zB ?_) λr44 Q9=>VX _ ?_)
  λVY=>VX _ ?_)
  λk40 HX=> .c (λNZ=> .b (uI ?_) λr41 I5=>HX _ ?_)
  λNZ=>HX _ ?_)
  λk34 oY=> .c (λ_=>oY _)
  λ_=>oY _)
  λk28 UX=> .c (λ_=>UX _)
  λ_=>UX _)
  λk21 IX=> .c (λ_=>IX _)
  λ_=>IX _)
  λk13 FW=> .c (λ_=>FW _)
  λQ6=> .jt (λy14=>FW _)
  λk15 RX=> .c (λ_=>RX _)
  λ_=>RX _)
  λk8 CX=> .bi ?_ ?_ λe9 L2 jZ=> .c (λM3=> .b (uI ?_) λr10 QX=>CX _ ?_)
  λM3=>CX _ ?_)
  λk5 SW=> .c (λN3=> .b (uI ?_) λr6 dX=>SW _ ?_)
  λN3=>SW _ ?_
 all_goals (try simp only[NB]at *)<;>(try simp(disch:=omega) only[nB,rB]at *)<;>omega
def zil{a0}:Ok (Je a0) λr=>(True)∧(r=true→1≤a0.Kind∧a0.Kind≤10∧a0.B.length≤200∧0≤a0.I∧0≤a0.J):=by
 unfold Je
 refine .j (λy1:Bool=>y1=true→1≤a0.Kind∧a0.Kind≤10∧a0.B.length≤200∧0≤a0.I∧0≤a0.J) (λy1 gW=> .s ⟨trivial,λq1=>have i2:=gW q1;?_⟩)
  λk2 KV=> .c (λh3=> .c (λh4=> .c (λh5=>KV _ λq6=>?_)
  λ_=>KV _ nofun)
  λ_=>KV _ nofun)
  λ_=>KV _ nofun
 all_goals (try simp only[NB]at *)<;>omega
def zi9{a0 a1 a2}(ha:wt a0≤100000)(hb:wt a1≤500000000)(hc:wt a2≤500000000):Ok (Jg a0 a1 a2) λr=>r.1.length≤10000:=by
 unfold Jg
 refine .c (λh1=> .s ?_)
  λh1=> .j (λy1:(List (List UInt8))=>wt y1≤3300) (λy1 gW=>have hyw:=lC y1; .c (λh2=> .s ?_)
  λh2=> .h ?_ (.bg ?_ λe71 iAA o6=> .g ?_ (.s ?_)))
  λk2 KV=> .l (λx3:(List (List UInt8))×Int=>0≤x3.2∧x3.2≤(a0.length:Int)∧wt x3.1≤201 *x3.2) (λx3:(List (List UInt8))×Int=>((a0.length:Int) - x3.2).toNat) (λx3 j0 k4 mW=>have hpw:=lC x3.1; .c (λh3=> .bi ?_ ?_ λe5 nZ oZ=>have D2:=zoX e5.Kind; .j (λy6:Bool=>y6=false→1≤e5.Kind∧e5.Kind≤10∧e5.B.length≤200∧0≤e5.I∧0≤e5.J∧nd e5.Kind≤(x3.1.length:Int)) (λy6 K3=> .c (λh4=> .s ?_)
  λh4=>have i5:=K3 h4; .b (CQ ?_) λr10 QX=> .j (λy11:(List UInt8)=>y11.length≤500000000) (λy11 Y2=> .j (λy68:Bool=>y68=false→y11.length≤200) (λy68 jAA=> .c (λh6=> .s ?_)
  λh6=>have i7:=jAA h6; .h ?_ (.g (have:=pN x3.1 ((oA .i64 (x3.1.length:Int) r10 - 0).toNat);?_) (mW _ (have:=pN x3.1 ((oA .i64 (x3.1.length:Int) r10 - 0).toNat);?_) (have:=pN x3.1 ((oA .i64 (x3.1.length:Int) r10 - 0).toNat);?_))))
  λk69 s6=> .c (λ_=>s6 _ nofun)
  λh8=>s6 _ λq9=>?_)
  λk12 OW=> .c (λzW=> .g ?_ (OW _ ?_))
  λzW=> .j (λy13:(List UInt8)=>y13.length≤500000000) (λy13 X2=>OW _ ?_)
  λk14 yW=> .c (λtW=> .c (λDW=> .s ?_)
  λDW=> .bi ?_ ?_ λe15 vZ wZ=> .g ?_ (yW _ ?_))
  λtW=> .j (λy16:(List UInt8)=>y16.length≤500000000) (λy16 B0=>yW _ ?_)
  λk17 BW=> .c (λWW=> .c (λbY=> .s ?_)
  λbY=> .bi ?_ ?_ λe18 C5 W0=> .g ?_ (BW _ ?_))
  λWW=> .j (λy19:(List UInt8)=>y19.length≤500000000) (λy19 hy19=>BW _ ?_)
  λk20 t6=> .c (λcY=> .h ?_ (.bg ?_ λe21 he21 he21w=> .b (zm5 ?_) λr22 R2=> .c (λDY=> .s ?_)
  λDY=>t6 _ ?_))
  λcY=> .j (λy23:(List UInt8)=>y23.length≤500000000) (λy23 S2=>t6 _ ?_)
  λk24 rX=> .c (λNY=> .h ?_ (.bg ?_ λe25 he25 he25w=> .g ?_ (.h ?_ (.bg ?_ λe27 kAA v6=> .g ?_ (rX _ ?_)))))
  λNY=> .j (λy28:(List UInt8)=>y28.length≤500000000) (λy28 hy28=>rX _ ?_)
  λk29 z6=> .c (λX0=> .h ?_ (.bg ?_ λe30 A6 he30w=> .h ?_ (.bg ?_ λe32 B6 C6=> .c (λDZ=> .s ?_)
  λDZ=> .j (λy33:(List UInt8)=>y33.length≤500000000) (λy33 lAA=>z6 _ ?_)
  λk34 oY=> .l (λx35:(List UInt8)×Int=>0≤x35.2∧x35.2≤(e30.length:Int)∧(x35.1.length:Int)=x35.2) (λx35:(List UInt8)×Int=>((e30.length:Int) - x35.2).toNat) (λx35 hx35 k36 nY=> .h ?_ (.m A6 (.c (λEZ=> .h ?_ (.m A6 (.bi ?_ ?_ λe39 he39 he39w=> .h ?_ (.m B6 (.bi ?_ ?_ λe42 he42 he42w=> .g ?_ (nY _ ?_ ?_))))))
  λEZ=>oY _ ?_))) ?_ ?_)))
  λX0=> .j (λy44:(List UInt8)=>y44.length≤500000000) (λy44 hy44=>z6 _ ?_)
  λk45 D6=> .c (λLZ=> .h ?_ (.bg ?_ λe46 he46 he46w=> .h ?_ (.bg ?_ λe48 he48 he48w=>have hhm:=QT e46 e48;D6 _ ?_)))
  λLZ=> .j (λy50:(List UInt8)=>y50.length≤500000000) (λy50 Y9=>D6 _ ?_)
  λk51 zZ=> .c (λMZ=> .h ?_ (.bg ?_ λe52 he52 he52w=> .h ?_ (.bg ?_ λe54 he54 he54w=> .b RO λr55 Z9=>zZ _ ?_)))
  λMZ=> .j (λy56:(List UInt8)=>y56.length≤500000000) (λy56 hy56=>zZ _ ?_)
  λk57 E6=> .c (λVY=> .h ?_ (.bg ?_ λe58 W9 L5=> .b (DM ?_) λr59 W5=>E6 _ ?_))
  λVY=> .j (λy60:(List UInt8)=>y60.length≤500000000) (λy60 R5=>E6 _ ?_)
  λk61 WX=> .c (λNZ=> .h ?_ (.bg ?_ λe62 dAA U5=> .h ?_ (.bg ?_ λe64 aAA S5=> .h ?_ (.bg ?_ λe66 he66 he66w=> .b (zas ?_ ?_) λr67 T5=>WX _ ?_))))
  λNZ=>WX _ ?_)
  λk7 tX=> .b zil λr8 ⟨KZ,mAA⟩=> .c (λ_=>tX _ nofun)
  λd3=>have i26:=mAA (nf d3); .b (CQ ?_) λr9 Z4=>tX _ λq27=>?_)
  λh3=>KV _ ?_) ?_ ?_
 all_goals (try simp only[NB]at *)<;>(try simp(disch:=omega) only[nB,rB]at *)<;>omega
def zdb{a0 a1}(ha:wt a0≤1000000000):Ok (Dn a0 a1) λr=>wt r≤wt a0:=by
 unfold Dn
 refine .m (fH ?_) (.jt (λy2=> .j (λy4:Ar=>wt y4≤wt a0) (λy4 J2=> .s ?_)
  λk5 SW=> .c (λh1=>SW _ ?_)
  λh1=>SW _ ?_)
  λk3 OV=> .c (λ_=>OV _)
  λ_=>OV _)
 all_goals (try simp only[NB]at *)<;>omega
def WK{a0 a1 a2}(ha:wt a0≤1000000000)(hb:wt a1≤1000)(hc:wt a2≤1000000)(hd:TW a0):Ok (Bj a0 a1 a2) λr=>wt r≤wt a0+1003000+wt a2∧wt r.Clients+wt r.S≤wt a0.Clients+wt a0.S∧TW r:=by
 unfold Bj;refine have hw:=lC a1;
 .j (λy1:Aa=>wt y1≤wt a0+1003000∧wt y1.Clients+wt y1.S≤wt a0.Clients+wt a0.S∧TW y1) (λy1 gW=> .g ?_ (.s ?_))
  λk2 KV=> .l (λx3:Int×Aa=>0≤x3.1∧x3.1≤(a1.length:Int)∧wt x3.2≤wt a0+1001 *x3.1∧wt x3.2.Clients+wt x3.2.S≤wt a0.Clients+wt a0.S∧TW x3.2) (λx3:Int×Aa=>((a1.length:Int) - x3.1).toNat) (λx3 j0 k4 mW=> .c (λh1=> .j (λy5:Aa=>wt y5≤wt a0+1001 *x3.1+1001∧wt y5.Clients+wt y5.S≤wt a0.Clients+wt a0.S∧TW y5) (λy5 J3=>mW _ ?_ ?_)
  λk6 xW=> .c (λh2=> .bi ?_ ?_ λe7 n5 mZ=> .g ?_ (xW _ ?_))
  λh2=>xW _ ?_)
  λh1=>KV _ ?_) ?_ ?_
 all_goals (try simp only[NB]at *)<;>(try simp(disch:=omega) only[nB,rB]at *)<;>omega
def kQ{a0 a1 a2 a3 a4}(ha:wt a0≤900000000)(hb:wt a2≤zca a0.Clients a1.toNat+2000)(hc:a3.length≤3)(hd:wt a3≤1000000)(he:wt a4≤1000000)(hf:TW a0)(hg:0≤a1∧a1≤1)(hh:a2.Id=PG a0.Clients a1.toNat):Ok (Bp a0 a1 a2 a3 a4) λr=>wt r≤wt a0+1006000+wt a4∧wt r.Clients+wt r.S≤wt a0.Clients+wt a0.S+2000∧TW r:=by
 unfold Bp;refine .h ?_ (.bg ?_ λe1 AY p9=>have n9:=QJ AY;have KX:=SI (l:=a0.Clients) (i:=a1.toNat) (x:=a2) (by have:=LE AY;omega) (eJ AY) 0;have bX:=SI (l:=a0.Clients) (i:=a1.toNat) (x:=a2) (by have:=LE AY;omega) (eJ AY) 1;have hsw:=aP (x:=a2) AY; .b (DV ?_ ?_) λr2 HW=> .b (WK (have:=gC a0.Clients a1.toNat a2;?_) (have:=gC a0.Clients a1.toNat a2;?_) (have:=gC a0.Clients a1.toNat a2;?_) (have:=gC a0.Clients a1.toNat a2;?_)) λr3 wW=> .s ?_)
 all_goals (try simp only[NB]at *)<;>omega
def zhK{a0 a1 a2 a3}(ha:wt a0≤900000000)(hb:wt a3≤900000000)(hc:TW a0)(hd:0≤a1∧a1≤2):Ok (Jd a0 a1 a2 a3) λr=>wt r.1≤1000∧wt r.2≤wt a0+100000∧wt r.2.Clients+wt r.2.S≤wt a0.Clients+wt a0.S+50000∧TW r.2:=by
 unfold Jd
 refine .c (λh1=> .b (zgP ?_ ?_) λr1 WV=> .g ?_ (.b (zcq ?_) λr2 HW=> .s ?_))
  λh1=> .b (zch ?_) λr3 wW=> .c (λh2=> .s ?_)
  λh2=> .h ?_ (.bg ?_ λe4 z0 P2=> .b (zgS ?_ ?_) λr5 NW=> .h ?_ (.m z0 (have KX:=SI (l:=a0.Clients) (i:=(oA .i64 a1 1).toNat) (x:=r5.1) (by have:=LE z0;omega) (eJ z0) 0;have bX:=SI (l:=a0.Clients) (i:=(oA .i64 a1 1).toNat) (x:=r5.1) (by have:=LE z0;omega) (eJ z0) 1;have hsw:=aP (x:=r5.1) z0; .g ?_ (.b (DV ?_ ?_) λr7 aY=> .s (have:=gC a0.Clients ((oA .i64 a1 1).toNat) r5.1;?_)))))
 all_goals (try simp only[NB]at *)<;>(try simp(disch:=omega) only[nB,rB]at *)<;>omega
def RN{a0 a1 a2 a3}(ha:wt a0≤800000000)(hb:wt a3≤900000000)(hc:TW a0)(hd:0≤a1∧a1≤2):Ok (Bm a0 a1 a2 a3) λr=>wt r≤wt a0+1200000∧wt r.Clients+wt r.S≤wt a0.Clients+wt a0.S+50000∧TW r:=by
 unfold Bm;refine .b (zhK ?_ ?_ ?_ ?_) λr1 WV=> .b (WK ?_ ?_ ?_ ?_) λr2 HW=> .s ?_
 all_goals (try simp only[NB]at *)<;>omega
def zcm{a0 a1}(ha:wt a0≤900000000)(hb:wt a1≤4000000)(hc:TW a0):Ok (Dm a0 a1) λr=>wt r.2≤wt a0+4001000∧wt r.2.Clients+wt r.2.S≤wt a0.Clients+wt a0.S∧TW r.2:=by
 unfold Dm;refine have hk:=lC a0.Known;
 .b (zie ?_) λr1 WV=>have hl:=lC r1; .c (λh1=> .s ?_)
  λh1=> .g ?_ (.g ?_ (.g ?_ (.s ?_)))
 all_goals (try simp only[NB]at *)<;>(try simp(disch:=omega) only[nB,rB]at *)<;>omega
def zhU{a0}(ha:wt a0≤800000000)(hb:TW a0):Ok (Hz a0) λr=>wt r.1≤1000∧wt r.2≤wt a0+120000∧wt r.2.Clients+wt r.2.S≤wt a0.Clients+wt a0.S+60000∧TW r.2:=by
 unfold Hz
 refine .j (λy1:(List Aq)×Aa=>wt y1.1≤804∧wt y1.2≤wt a0+6000∧wt y1.2.Clients+wt y1.2.S≤wt a0.Clients+wt a0.S∧TW y1.2) (λy1 gW=> .b (zgO ?_) λr9 Z4=> .g ?_ (.s ?_))
  λk2 KV=> .l (λx3:(List Aq)×Int×Aa=>0≤x3.2.1∧x3.2.1≤2∧wt x3.1≤402 *x3.2.1∧wt x3.2.2≤wt a0+3000 *x3.2.1∧wt x3.2.2.Clients+wt x3.2.2.S≤wt a0.Clients+wt a0.S∧TW x3.2.2) (λx3:(List Aq)×Int×Aa=>(2 - x3.2.1).toNat) (λx3 j0 k4 mW=> .c (λh1=> .h ?_ (.bg ?_ λe5 nZ oZ=> .b (zgL ?_) λr6 dX=> .h ?_ (.m nZ (have KX:=SI (l:=x3.2.2.Clients) (i:=x3.2.1.toNat) (x:=r6.1) (by have:=LE nZ;omega) (eJ nZ) 0;have bX:=SI (l:=x3.2.2.Clients) (i:=x3.2.1.toNat) (x:=r6.1) (by have:=LE nZ;omega) (eJ nZ) 1;have hsw:=aP (x:=r6.1) nZ; .g ?_ (.b (DV ?_ ?_) λr8 KZ=> .g ?_ (mW _ (have:=gC x3.2.2.Clients x3.2.1.toNat r6.1;?_) (have:=gC x3.2.2.Clients x3.2.1.toNat r6.1;?_)))))))
  λh1=>KV _ ?_) ?_ ?_
 all_goals (try simp only[NB]at *)<;>(try simp(disch:=omega) only[nB,rB]at *)<;>omega
set_option maxHeartbeats 4000000 in
theorem ziW{a0 a1}(ha:wt a0≤400000000)(hb:wt a0.Clients+wt a0.S≤4000000)(hc:TW a0)(hd:0≤a1.I∧0≤a1.J∧0≤a1.N)(he:wt a1≤5000):Ok (Jl a0 a1) λr=>wt r.2≤wt a0+5100000∧wt r.2.Clients+wt r.2.S≤wt a0.Clients+wt a0.S+61000∧TW r.2:=by
 unfold Jl;refine have hsn:=lC a0.Seen;
 have hd1:=sN (a:=a1.I) (n:=2) ?_ ?_;
 have hd2:=sN (a:=a1.J) (n:=3) ?_ ?_;
 .jt (λy1=> .j (λy3:Aq=>wt y3≤wt a0) (λy3 I3=> .j (λy6:Aa=>wt y6≤wt a0+5100000∧wt y6.Clients+wt y6.S≤wt a0.Clients+wt a0.S+61000∧TW y6) (λy6 K3=> .s ?_)
  λk7 tX=> .c (λh1=> .b (eU ?_) λr8 KZ=>have hn:wt (KE r8.2)=wt r8.2:=(by simp only[KE,YI,vD,AA,List.length_nil];omega); .h ?_ (.bg ?_ λe9 L2 jZ=>have hie9:=LE L2;have hve9:=QJ L2; .b (zi8 ?_ ?_) λr10 QX=> .c (λh2=> .s ?_)
  λh2=> .m (HQ ?_) (.g ?_ (.b (kQ ?_ ?_ ?_ ?_ ?_ ?_ ?_ ?_) λr12 MY=>tX _ ?_))))
  λh1=> .j (λy13:Aa=>wt y13≤wt a0+5100000∧wt y13.Clients+wt y13.S≤wt a0.Clients+wt a0.S+61000∧TW y13) (λy13 X2=>tX _ ?_)
  λk14 yW=> .c (λh3=> .h ?_ (.bg ?_ λe15 vZ wZ=>have hie15:=LE vZ;have hve15:=QJ vZ; .b (zgN ?_ ?_) λr16 O9=> .c (λh4=> .s ?_)
  λh4=> .b (kQ ?_ ?_ ?_ ?_ ?_ ?_ ?_ ?_) λr17 d5=>yW _ ?_))
  λh3=> .j (λy18:Aa=>wt y18≤wt a0+5100000∧wt y18.Clients+wt y18.S≤wt a0.Clients+wt a0.S+61000∧TW y18) (λy18 V2=>yW _ ?_)
  λk19 UW=> .c (λh5=> .b (zgX ?_ ?_) λr20 pZ=> .c (λh6=> .s ?_)
  λh6=> .b (zcq ?_) λr21 G9=> .b (WK ?_ ?_ ?_ ?_) λr22 R2=>UW _ ?_)
  λh5=> .j (λy23:Aa=>wt y23≤wt a0+5100000∧wt y23.Clients+wt y23.S≤wt a0.Clients+wt a0.S+61000∧TW y23) (λy23 S2=>UW _ ?_)
  λk24 rX=> .c (λh7=> .c (λh8=> .s ?_)
  λh8=> .b (zhU ?_ ?_) λr25 m0=> .b (WK ?_ ?_ ?_ ?_) λr26 W2=>rX _ ?_)
  λh7=> .j (λy27:Aa=>wt y27≤wt a0+5100000∧wt y27.Clients+wt y27.S≤wt a0.Clients+wt a0.S+61000∧TW y27) (λy27 K9=>rX _ ?_)
  λk28 UX=> .c (λh9=> .h ?_ (.bg ?_ λe29 XX he29w=>have hie29:=LE XX;have hve29:=QJ XX; .b (zjd ?_) λr31 U2=> .h ?_ (.m XX (have KX:=SI (l:=a0.Clients) (i:=(DA .i64 a1.I 2).toNat) (x:=r31) (by have:=LE XX;omega) (eJ XX) 0;have bX:=SI (l:=a0.Clients) (i:=(DA .i64 a1.I 2).toNat) (x:=r31) (by have:=LE XX;omega) (eJ XX) 1;have hsw:=aP (x:=r31) XX;UX _ (have:=gC a0.Clients ((DA .i64 a1.I 2).toNat) r31;?_)))))
  λh9=> .j (λy33:Aa=>wt y33≤wt a0+5100000∧wt y33.Clients+wt y33.S≤wt a0.Clients+wt a0.S+61000∧TW y33) (λy33 lAA=>UX _ ?_)
  λk34 oY=> .c (λzW=> .h ?_ (.bg ?_ λe35 F6 he35w=>have hie35:=LE F6;have hve35:=QJ F6; .b (zgE ?_) λr36 R9=> .c (λtW=> .s ?_)
  λtW=> .b (kQ ?_ ?_ ?_ ?_ ?_ ?_ ?_ ?_) λr37 T2=>oY _ ?_))
  λzW=> .j (λy38:Aa=>wt y38≤wt a0+5100000∧wt y38.Clients+wt y38.S≤wt a0.Clients+wt a0.S+61000∧TW y38) (λy38 hy38=>oY _ ?_)
  λk39 G6=> .c (λDW=> .b (zdI ?_ ?_) λr40 hr40=> .c (λWW=> .s ?_)
  λWW=> .b (RN ?_ ?_ ?_ ?_) λr41 I5=>G6 _ ?_)
  λDW=> .j (λy42:Aa=>wt y42≤wt a0+5100000∧wt y42.Clients+wt y42.S≤wt a0.Clients+wt a0.S+61000∧TW y42) (λy42 G5=>G6 _ ?_)
  λk43 VX=> .c (λbY=> .b (RN ?_ ?_ ?_ ?_) λr45 hr45=>VX _ ?_)
  λbY=> .j (λy46:Aa=>wt y46≤wt a0+5100000∧wt y46.Clients+wt y46.S≤wt a0.Clients+wt a0.S+61000∧TW y46) (λy46 S9=>VX _ ?_)
  λk47 xZ=> .c (λcY=> .b (RN ?_ ?_ ?_ ?_) λr48 T9=>xZ _ ?_)
  λcY=> .j (λy49:Aa=>wt y49≤wt a0+5100000∧wt y49.Clients+wt y49.S≤wt a0.Clients+wt a0.S+61000∧TW y49) (λy49 J5=>xZ _ ?_)
  λk50 yZ=> .c (λDY=> .b (zdI ?_ ?_) λr51 hr51=> .j (λy52:Bool=>y52=false→0≤r51∧0<y3.B.length) (λy52 hy52=> .c (λNY=> .s ?_)
  λNY=>have i18:=hy52 NY;have hd4:=sN (a:=a1.N) (n:=(([]++y3.B).length:Int)) ?_ ?_; .g ?_ (.n ?_ (.h ?_ (.bg ?_ λe55 he55 he55w=> .h ?_ (.bg ?_ λe57 he57 he57w=> .b (RN (have:=gC ([]++y3.B) (DA .i64 a1.N (([]++y3.B).length:Int):Int).toNat (UInt8.ofNat (kB .u8 ((e55.toNat:Nat):Int) (IntKind.wrap .u8 (iA .i64 1 (DA .i64 a1.J 255)):Int):Int).toNat);?_) (have:=gC ([]++y3.B) (DA .i64 a1.N (([]++y3.B).length:Int):Int).toNat (UInt8.ofNat (kB .u8 ((e55.toNat:Nat):Int) (IntKind.wrap .u8 (iA .i64 1 (DA .i64 a1.J 255)):Int):Int).toNat);?_) (have:=gC ([]++y3.B) (DA .i64 a1.N (([]++y3.B).length:Int):Int).toNat (UInt8.ofNat (kB .u8 ((e55.toNat:Nat):Int) (IntKind.wrap .u8 (iA .i64 1 (DA .i64 a1.J 255)):Int):Int).toNat);?_) (have:=gC ([]++y3.B) (DA .i64 a1.N (([]++y3.B).length:Int):Int).toNat (UInt8.ofNat (kB .u8 ((e55.toNat:Nat):Int) (IntKind.wrap .u8 (iA .i64 1 (DA .i64 a1.J 255)):Int):Int).toNat);?_)) λr59 W5=>yZ _ ?_)))))
  λk53 H6=> .c (λ_=>H6 _ nofun)
  λDZ=>H6 _ λq20=>?_)
  λDY=> .j (λy60:Aa=>wt y60≤wt a0+5100000∧wt y60.Clients+wt y60.S≤wt a0.Clients+wt a0.S+61000∧TW y60) (λy60 R5=>yZ _ ?_)
  λk61 WX=> .c (λLZ=> .b (zi9 ?_ ?_ ?_) λr62 hr62=> .c (λMZ=> .s ?_)
  λMZ=> .b (RN ?_ ?_ ?_ ?_) λr64 hr64=>WX _ ?_)
  λLZ=> .j (λy65:Aa=>wt y65≤wt a0+5100000∧wt y65.Clients+wt y65.S≤wt a0.Clients+wt a0.S+61000∧TW y65) (λy65 hy65=>WX _ ?_)
  λk66 I6=> .c (λVY=> .b (zjg ?_) λr67 T5=>have hl67:=lC r67.2; .c (λNZ=> .s ?_)
  λNZ=> .b (WK ?_ ?_ ?_ ?_) λr68 bAA=>I6 _ ?_)
  λVY=> .j (λy69:Aa=>wt y69≤wt a0+5100000∧wt y69.Clients+wt y69.S≤wt a0.Clients+wt a0.S+61000∧TW y69) (λy69 cAA=>I6 _ ?_)
  λk70 AZ=> .c (λd3=> .h ?_ (.bg ?_ λe71 iAA o6=> .c (λG7=> .s ?_)
  λG7=> .h ?_ (.bg ?_ λe72 J6 he72w=>have hie72:=LE J6;have hve72:=QJ J6; .b (zi5 ?_) λr73 hr73=> .b (kQ ?_ ?_ ?_ ?_ ?_ ?_ ?_ ?_) λr74 hr74=>AZ _ ?_)))
  λd3=> .j (λy75:Aa=>wt y75≤wt a0+5100000∧wt y75.Clients+wt y75.S≤wt a0.Clients+wt a0.S+61000∧TW y75) (λy75 eAA=>AZ _ ?_)
  λk76 BZ=> .c (λL3=> .b (zgC ?_) λr77 fAA=> .c (λQ6=> .s ?_)
  λQ6=> .b (WK ?_ ?_ ?_ ?_) λr78 hr78=>BZ _ ?_)
  λL3=> .c (λR6=> .j (λy79:Bool×Aa=>wt y79.2≤wt a0+5100000∧wt y79.2.Clients+wt y79.2.S≤wt a0.Clients+wt a0.S+61000∧TW y79.2) (λy79 hy79=> .s ?_)
  λk80 K6=> .h ?_ (.bg ?_ λe81 he81 he81w=> .c (λM3=> .h ?_ (.bg ?_ λe82 L6 he82w=>have hie82:=LE L6;have hve82:=QJ L6; .b (zcm ?_ ?_ ?_) λr83 hr83=>K6 _ ?_))
  λM3=>K6 _ ?_))
  λR6=> .c (λN3=> .j (λy84:Bool×Aa=>wt y84.2≤wt a0+5100000∧wt y84.2.Clients+wt y84.2.S≤wt a0.Clients+wt a0.S+61000∧TW y84.2) (λy84 hy84=> .s ?_)
  λk85 Z2=> .c (λH7=> .h ?_ (.bg ?_ λe86 he86 he86w=> .c (λI7=> .h ?_ (.bg ?_ λe87 he87 he87w=> .b (zcm ?_ ?_ ?_) λr88 gAA=>Z2 _ ?_))
  λI7=>Z2 _ ?_))
  λH7=>Z2 _ ?_)
  λN3=> .j (λy89:Aa=>wt y89≤wt a0+5100000∧wt y89.Clients+wt y89.S≤wt a0.Clients+wt a0.S+61000∧TW y89) (λy89 hAA=>BZ _ ?_)
  λk90 CZ=> .c (λJ7=> .j (λy91:Aa=>wt y91≤wt a0+5100000∧wt y91.Clients+wt y91.S≤wt a0.Clients+wt a0.S+61000∧TW y91) (λy91 hy91=>CZ _ ?_)
  λk92 M6=> .c (λK7=> .b (zdb ?_) λr93 hr93=>M6 _ ?_)
  λK7=> .b (zdb ?_) λr94 hr94=>M6 _ ?_)
  λJ7=>CZ _ ?_)
  λk4 mW=> .c (λL7=> .c (λM7=> .s ?_)
  λM7=>have hd3:=sN (a:=a1.I) (n:=(a0.Seen.length:Int)) ?_ ?_; .n ?_ (.h ?_ (.bg ?_ λe5 nZ oZ=>mW _ ?_)))
  λL7=>mW _ ?_)
  λk2 KV=> .c (λ_=>KV _)
  λ_=>KV _
 all_goals (try simp only[NB]at *)<;>(try simp(disch:=omega) only[nB,rB]at *)<;>omega
def zh9{a0}(ha:GA a0):Ok (Gu a0) λr=>GA r.2∧wt r.1≤4000∧TW r.1:=by
 unfold Gu;refine .b (TG ?_ ?_) λr1 WV=> .b (TG ?_ ?_) λr2 HW=> .b (TG ?_ ?_) λr3 wW=> .b (zB ?_) λr4 bW=> .b (zjf ?_ ?_) λr5 NW=> .s ?_
 all_goals (try simp only[NB]at *)<;>(try simp(disch:=omega) only[nB,rB]at *)<;>omega
end Go.D
namespace Go.D
def zh6{a0}(ha:GA a0):Ok (Jm a0) λr=>GA r.2:=by
 unfold Jm
 refine .b (uI ?_) λr1 WV=> .c (λh1=> .b (zB ?_) λr2 HW=> .b (zir ?_) λr3 wW=> .b (zB ?_) λr4 bW=> .s ?_)
  λh1=> .b (zB ?_) λr5 NW=> .s ?_
 all_goals (try simp only[NB]at *)<;>(try simp(disch:=omega) only[nB,rB]at *)<;>omega
def zi1{a0}(ha:GA a0):Ok (Jn a0) λr=>GA r.2:=by
 unfold Jn
 refine .b (zh6 ?_) λr1 WV=> .b (zB ?_) λr2 HW=> .j (λy3:Ah×Ae=>GA y3.1) (λy3 I3=> .s ?_)
  λk4 mW=> .c (λh1=> .b (ziM ?_) λr5 NW=>mW _ ?_)
  λh1=> .j (λy6:Ah×Ae=>GA y6.1) (λy6 K3=>mW _ ?_)
  λk7 tX=> .c (λh2=> .b (DE (-1) (65536) ?_ (by simp) (by decide)) λr8 KZ=>tX _ ?_)
  λh2=>tX _ ?_
 all_goals (try simp only[NB]at *)<;>omega
end Go.D
namespace Go.D
end Go.D

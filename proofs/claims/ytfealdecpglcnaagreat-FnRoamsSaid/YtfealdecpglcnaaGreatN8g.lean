/-
 The reference's machine comes to an end, and what it gives is small.
-/
import Derived.Test.YtfealdecpglcnaaGreatN8c
set_option linter.all false
namespace Go.D
def nd(k:Int):Int:=if k≤3 then 0 else if k=4∨k=9 then 1 else if k=10 then 3 else 2
def zzh(k:Int):0≤nd k∧nd k≤3∧(k=4→nd k=1)∧(k=5→nd k=2)∧(k=6→nd k=2)∧(k=7→nd k=2)∧(k=8→nd k=2)∧(k=9→nd k=1)∧(k=10→nd k=3):=by
 unfold nd
 repeat' split
 all_goals omega
def zaR{a0}(ha:0≤a0∧a0≤10):Ok (Dt a0) λr=>r=nd a0∧0≤nd a0∧nd a0≤3:=by
 have:a0=0∨a0=1∨a0=2∨a0=3∨a0=4∨a0=5∨a0=6∨a0=7∨a0=8∨a0=9∨a0=10:=by omega
 rcases this with rfl|rfl|rfl|rfl|rfl|rfl|rfl|rfl|rfl|rfl|rfl<;>exact⟨_,rfl,by decide⟩
def zix{a0}(ha:zB a0):Ok (Ji a0) λr=>zB r.2∧r.1.B.length≤32∧1≤r.1.Kind∧r.1.Kind≤10:=by
 unfold Ji
 refine .b (uT (1) (10) ?_ (by simp) (by decide)) λr1 LV=> .j (λy2:As×Bb=>zB y2.1∧y2.2.B.length≤32∧1≤y2.2.Kind∧y2.2.Kind≤10) (λy2 lW=> .b (KD ?_) λr6 AW=> .b (uT (0) (16) ?_ (by simp) (by decide)) λr7 IW=> .s ?_)
  λk3 CV=> .c (λh1=> .b (uT (0) (32) ?_ (by simp) (by decide)) λr4 NV=> .b (VK ?_ ?_) λr5 MV=>CV _ ?_)
  λh1=>CV _ ?_
 all_goals (try simp only[NB]at *)<;>omega
def zoD{a0 a1}(ha:zB a0)(hb:0<a1∧a1≤20):Ok (Ix a0 a1) λr=>zB r.2∧wt r.1≤1000:=by
 unfold Ix
 refine .b (KD ?_) λr1 LV=> .j (λy2:(List Bb)×Int×As=>zB y2.2.2∧wt y2.1≤700∧y2.2.1≤21) (λy2 lW=> .j (λy16:(List Bb)=>wt y16≤1000) (λy16 v5=> .s ?_)
  λk17 OW=> .l (λx18:(List Bb)×Int=>wt x18.1+x18.2≤730∧wt x18.1≤729∧x18.2≤30) (λx18:(List Bb)×Int=>x18.2.toNat) (λx18 hx18 k19 fX=> .c (λh1=> .g ?_ (fX _ ?_ ?_))
  λh1=>OW _ ?_) ?_ ?_)
  λk3 CV=> .l (λx4:(List Bb)×Int×Int×As=>0≤x4.2.2.1∧x4.2.2.1≤20∧wt x4.1+33 *x4.2.2.1≤660∧x4.2.1+x4.2.2.1≤20∧ -2 *20≤x4.2.1 - 2 *x4.2.2.1∧zB x4.2.2.2) (λx4:(List Bb)×Int×Int×As=>x4.2.2.1.toNat) (λx4 tZ k5 BW=> .c (λh2=> .b (zix ?_) λr6 AW=> .j (λy7:As×Bb=>zB y7.1∧y7.2.B.length≤32∧1≤y7.2.Kind∧y7.2.Kind≤10) (λy7 MY=> .b (zaR ?_) λr15 iY=> .g ?_ (BW _ ?_ ?_))
  λk8 eW=> .l (λx9:Int×As×Bb=>0≤x9.1∧x9.1≤6∧zB x9.2.1∧x9.2.2.B.length≤32∧1≤x9.2.2.Kind∧x9.2.2.Kind≤10) (λx9:Int×As×Bb=>(6 - x9.1).toNat) (λx9 hx9 k10 IV=> .j (λy11:Bool=>y11=true→x9.1<6) (λy11 A5=> .c (λh3=>have i4:=A5 h3; .b (zix ?_) λr14 ZY=>IV _ ?_ ?_)
  λh3=>eW _ ?_)
  λk12 kW=> .c (λh5=> .b (zaR ?_) λr13 IZ=>kW _ λq6=>?_)
  λ_=>kW _ nofun) ?_ ?_)
  λh2=>CV _ ?_) ?_ ?_
 all_goals (try simp only[NB]at *)<;>(try simp(disch:=omega) only[DA,RA]at *)<;>omega
def zpM{a0}(ha:zB a0):Ok (Iy a0) λr=>zB r.2.2∧r.2.1.length≤40:=by
 unfold Iy
 refine .b (KD ?_) λr1 LV=> .c (λh1=> .b (KD ?_) λr2 jW=> .b (VK ?_ ?_) λr3 sW=> .s ?_)
  λh1=> .c (λh2=> .b (KD ?_) λr4 NV=> .b (VK ?_ ?_) λr5 MV=> .s ?_)
  λh2=> .b (uT (0) (40) ?_ (by simp) (by decide)) λr6 AW=> .b (VK ?_ ?_) λr7 IW=> .s ?_
 all_goals (try simp only[NB]at *)<;>(try simp(disch:=omega) only[DA,RA]at *)<;>omega
def zpz{a0 a1 a2 a3}(ha:zB a0)(hb:wt a1≤900000000)(hc:2≤a1.Clients.length):Ok (Ja a0 a1 a2 a3) λr=>wt r.1≤3000∧zB r.2.1:=by
 unfold Ja;refine have YX:=QB a1.Known;
 .b (KD ?_) λr1 LV=> .b (KD ?_) λr2 jW=> .b (KD ?_) λr3 sW=> .j (λy4:Bool×As=>zB y4.2) (λy4 TZ=> .c (λh1=> .s ?_)
  λh1=> .j (λy7:Bool×As=>zB y7.2) (λy7 MY=> .c (λh2=> .s ?_)
  λh2=> .b (KD ?_) λr11 NW=> .jt (λy12=> .j (λy16:Am×As×Am=>wt y16.1≤3000∧zB y16.2.1) (λy16 v5=> .s ?_)
  λk17 OW=> .c (λh3=> .b (KD ?_) λr18 xY=> .b (VK ?_ ?_) λr19 HZ=>OW _ ?_)
  λh3=> .jt (λy20=> .j (λy22:Am×As×Am=>wt y22.1≤3000∧zB y22.2.1) (λy22 t7=>OW _ ?_)
  λk23 lX=> .c (λh4=> .b (KD ?_) λr24 UX=> .b (KD ?_) λr25 O0=> .b (VK ?_ ?_) λr26 BY=>lX _ ?_)
  λh4=> .jt (λy27=> .j (λy29:Am×As×Am=>wt y29.1≤3000∧zB y29.2.1) (λy29 hy29=>lX _ ?_)
  λk30 T0=> .c (λh5=>T0 _ ?_)
  λh5=> .j (λy31:Am×As×Am=>wt y31.1≤3000∧zB y31.2.1) (λy31 hy31=>T0 _ ?_)
  λk32 M7=> .c (λh6=>M7 _ ?_)
  λh6=> .jt (λy33=> .j (λy35:Am×As×Am=>wt y35.1≤3000∧zB y35.2.1) (λy35 hy35=>M7 _ ?_)
  λk36 aZ=> .c (λh7=>aZ _ ?_)
  λh7=> .b (KD ?_) λr37 A7=> .b (KD ?_) λr38 hr38=> .j (λy39:Bool×As=>zB y39.2) (λy39 hy39=> .j (λy42:As×Am=>zB y42.1∧wt y42.2≤500) (λy42 Q2=> .b (KD ?_) λr46 hr46=> .c (λh8=> .s ?_)
  λh8=> .b (KD ?_) λr47 hr47=> .jt (λy48=> .j (λy50:Am×As=>wt y50.1≤3000∧zB y50.2) (λy50 hy50=>aZ _ ?_)
  λk51 W0=> .c (λh9=> .b (zoD ?_ ?_) λr52 hr52=> .j (λy53:As×Am=>zB y53.1∧wt y53.2≤3000) (λy53 hy53=>W0 _ ?_)
  λk54 N7=> .c (λgW=> .b (KD ?_) λr55 hr55=> .bi ?_ ?_ λe56 he56 H7=> .j (λy57:Bool×As=>zB y57.2) (λy57 hy57=> .j (λy60:(List UInt8)=>y60.length≤900000000) (λy60 O7=> .b (zpM ?_) λr63 hr63=> .bi ?_ ?_ λe64 he64 P7=> .b (KD ?_) λr65 hr65=> .b (KD ?_) λr66 hr66=> .b (KD ?_) λr67 Q7=> .b (zqH ?_ ?_ ?_) λr68 hr68=> .j (λy69:Am=>wt y69≤3000) (λy69 hy69=>N7 _ ?_)
  λk70 X0=> .c (λrW=>X0 _ ?_)
  λrW=>X0 _ ?_)
  λk61 FY=> .c (λFW=> .bi ?_ ?_ λe62 he62 R7=>FY _ ?_)
  λFW=>FY _ ?_)
  λk58 S7=> .c (λXW=>S7 _ ?_)
  λXW=> .b (jQ ?_) λr59 T7=>S7 _ ?_)
  λgW=>N7 _ ?_)
  λh9=> .j (λy71:Am×As=>wt y71.1≤3000∧zB y71.2) (λy71 hy71=>W0 _ ?_)
  λk72 U7=> .c (λXX=>U7 _ ?_)
  λXX=> .j (λy73:Am×As=>wt y73.1≤3000∧zB y73.2) (λy73 hy73=>U7 _ ?_)
  λk74 V7=> .c (λlY=>V7 _ ?_)
  λlY=> .j (λy75:Am×As=>wt y75.1≤3000∧zB y75.2) (λy75 hy75=>V7 _ ?_)
  λk76 Y0=> .c (λqY=> .b (KD ?_) λr77 hr77=>Y0 _ ?_)
  λqY=> .j (λy78:Am×As=>wt y78.1≤3000∧zB y78.2) (λy78 hy78=>Y0 _ ?_)
  λk79 W7=> .c (λIY=>W7 _ ?_)
  λIY=> .j (λy80:Am×As=>wt y80.1≤3000∧zB y80.2) (λy80 hy80=>W7 _ ?_)
  λk81 X7=> .c (λJ1=> .b (KD ?_) λr82 hr82=>X7 _ ?_)
  λJ1=> .j (λy83:As×Am=>zB y83.1∧wt y83.2≤3000) (λy83 hy83=>X7 _ ?_)
  λk84 Y7=> .c (λwZ=> .b (jQ ?_) λr85 hr85=> .j (λy86:Am×As=>wt y86.1≤3000∧zB y86.2) (λy86 hy86=>Y7 _ ?_)
  λk87 Z7=> .c (λxZ=> .b (KD ?_) λr88 hr88=>Z7 _ ?_)
  λxZ=>Z7 _ ?_)
  λwZ=> .j (λy89:Am×As=>wt y89.1≤3000∧zB y89.2) (λy89 hy89=>Y7 _ ?_)
  λk90 Z0=> .c (λU1=> .b (uT (2) (4) ?_ (by simp) (by decide)) λr91 hr91=> .b (uT (24) (44) ?_ (by simp) (by decide)) λr92 hr92=>Z0 _ ?_)
  λU1=>Z0 _ ?_)
  λk49 A1=> .c (λ_=>A1 _)
  λ_=>A1 _)
  λk43 LX=> .c (λVZ=> .b (KD ?_) λr44 z5=>LX _ ?_)
  λVZ=>LX _ ?_)
  λk40 JZ=> .c (λWZ=> .b (jQ ?_) λr41 R2=>JZ _ ?_)
  λWZ=>JZ _ ?_)
  λk34 uX=> .c (λ_=>uX _)
  λ_=>uX _)
  λk28 KX=> .c (λ_=>KX _)
  λ_=>KX _)
  λk21 mX=> .c (λ_=>mX _)
  λ_=>mX _)
  λk13 TV=> .c (λ_=>TV _)
  λN8=> .jt (λy14=>TV _)
  λk15 L0=> .c (λ_=>L0 _)
  λ_=>L0 _)
  λk8 eW=> .bi ?_ ?_ λe9 qZ gY=> .c (λU5=> .b (jQ ?_) λr10 tW=>eW _ ?_)
  λU5=>eW _ ?_)
  λk5 BW=> .c (λV5=> .b (jQ ?_) λr6 AW=>BW _ ?_)
  λV5=>BW _ ?_
 all_goals (try simp only[NB]at *)<;>(try simp(disch:=omega) only[DA,RA]at *)<;>omega
def zpY{a0}:Ok (Ea a0) λr=>(True)∧(r=true→1≤a0.Kind∧a0.Kind≤10∧a0.B.length≤200∧0≤a0.I∧0≤a0.J):=by
 unfold Ea
 refine .j (λy1:Bool=>y1=true→1≤a0.Kind∧a0.Kind≤10∧a0.B.length≤200∧0≤a0.I∧0≤a0.J) (λy1 XV=> .s ⟨trivial,λq1=>have i2:=XV q1;?_⟩)
  λk2 BV=> .c (λh3=> .c (λh4=> .c (λh5=>BV _ λq6=>?_)
  λ_=>BV _ nofun)
  λ_=>BV _ nofun)
  λ_=>BV _ nofun
 all_goals (try simp only[NB]at *)<;>omega
def zra{a0 a1 a2}(ha:wt a0≤300000)(hb:wt a1≤500000000)(hc:wt a2≤500000000):Ok (Gc a0 a1 a2) λr=>r.1.length≤10000:=by
 unfold Gc
 refine .c (λh1=> .s ?_)
  λh1=> .j (λy1:(List (List UInt8))=>wt y1≤3300) (λy1 XV=>have hyw:=QB y1; .c (λh2=> .s ?_)
  λh2=> .h ?_ (.bg ?_ λe71 he71 b8=> .g ?_ (.s ?_)))
  λk2 BV=> .l (λx3:(List (List UInt8))×Int=>0≤x3.2∧x3.2≤(a0.length:Int)∧wt x3.1≤201 *x3.2) (λx3:(List (List UInt8))×Int=>((a0.length:Int) - x3.2).toNat) (λx3 aY k4 bW=>have hpw:=QB x3.1; .c (λh3=> .bi ?_ ?_ λe5 iX dX=>have U4:=zzh e5.Kind; .j (λy6:Bool=>y6=false→1≤e5.Kind∧e5.Kind≤10∧e5.B.length≤200∧0≤e5.I∧0≤e5.J∧nd e5.Kind≤(x3.1.length:Int)) (λy6 rZ=> .c (λh4=> .s ?_)
  λh4=>have i5:=rZ h4; .b (zaR ?_) λr10 tW=> .j (λy11:(List UInt8)=>y11.length≤500000000) (λy11 A5=> .j (λy68:Bool=>y68=false→y11.length≤200) (λy68 hy68=> .c (λh6=> .s ?_)
  λh6=>have i7:=hy68 h6; .h ?_ (.g (have:=dE x3.1 ((oA .i64 (x3.1.length:Int) r10 - 0).toNat);?_) (bW _ (have:=dE x3.1 ((oA .i64 (x3.1.length:Int) r10 - 0).toNat);?_) (have:=dE x3.1 ((oA .i64 (x3.1.length:Int) r10 - 0).toNat);?_))))
  λk69 d8=> .c (λ_=>d8 _ nofun)
  λh8=>d8 _ λq9=>?_)
  λk12 kW=> .c (λgW=> .g ?_ (kW _ ?_))
  λgW=> .j (λy13:(List UInt8)=>y13.length≤500000000) (λy13 CY=>kW _ ?_)
  λk14 GV=> .c (λrW=> .c (λFW=> .s ?_)
  λFW=> .bi ?_ ?_ λe15 DY EY=> .g ?_ (GV _ ?_))
  λrW=> .j (λy16:(List UInt8)=>y16.length≤500000000) (λy16 v5=>GV _ ?_)
  λk17 OW=> .c (λXW=> .c (λXX=> .s ?_)
  λXX=> .bi ?_ ?_ λe18 he18 C7=> .g ?_ (OW _ ?_))
  λXW=> .j (λy19:(List UInt8)=>y19.length≤500000000) (λy19 hy19=>OW _ ?_)
  λk20 GY=> .c (λlY=> .h ?_ (.bg ?_ λe21 he21 he21w=> .b (zwD ?_) λr22 IX=> .c (λqY=> .s ?_)
  λqY=>GY _ ?_))
  λlY=> .j (λy23:(List UInt8)=>y23.length≤500000000) (λy23 S0=>GY _ ?_)
  λk24 LW=> .c (λIY=> .h ?_ (.bg ?_ λe25 he25 j8=> .g ?_ (.h ?_ (.bg ?_ λe27 he27 m8=> .g ?_ (LW _ ?_)))))
  λIY=> .j (λy28:(List UInt8)=>y28.length≤500000000) (λy28 hy28=>LW _ ?_)
  λk29 B1=> .c (λJ1=> .h ?_ (.bg ?_ λe30 n8 he30w=> .h ?_ (.bg ?_ λe32 he32 he32w=> .c (λwZ=> .s ?_)
  λwZ=> .j (λy33:(List UInt8)=>y33.length≤500000000) (λy33 hy33=>B1 _ ?_)
  λk34 uX=> .l (λx35:(List UInt8)×Int=>0≤x35.2∧x35.2≤(e30.length:Int)∧(x35.1.length:Int)=x35.2) (λx35:(List UInt8)×Int=>((e30.length:Int) - x35.2).toNat) (λx35 hx35 k36 aZ=> .h ?_ (.m n8 (.c (λxZ=> .h ?_ (.m n8 (.bi ?_ ?_ λe39 he39 he39w=> .h ?_ (.m he32 (.bi ?_ ?_ λe42 he42 he42w=> .g ?_ (aZ _ ?_ ?_))))))
  λxZ=>uX _ ?_))) ?_ ?_)))
  λJ1=> .j (λy44:(List UInt8)=>y44.length≤500000000) (λy44 hy44=>B1 _ ?_)
  λk45 o8=> .c (λU1=> .h ?_ (.bg ?_ λe46 he46 he46w=> .h ?_ (.bg ?_ λe48 he48 he48w=>have hhm:=FL e46 e48;o8 _ ?_)))
  λU1=> .j (λy50:(List UInt8)=>y50.length≤500000000) (λy50 hy50=>o8 _ ?_)
  λk51 W0=> .c (λyZ=> .h ?_ (.bg ?_ λe52 he52 he52w=> .h ?_ (.bg ?_ λe54 he54 he54w=> .b RU λr55 hr55=>W0 _ ?_)))
  λyZ=> .j (λy56:(List UInt8)=>y56.length≤500000000) (λy56 hy56=>W0 _ ?_)
  λk57 s8=> .c (λVZ=> .h ?_ (.bg ?_ λe58 he58 I7=> .b (lS ?_) λr59 T7=>s8 _ ?_))
  λVZ=> .j (λy60:(List UInt8)=>y60.length≤500000000) (λy60 O7=>s8 _ ?_)
  λk61 FY=> .c (λWZ=> .h ?_ (.bg ?_ λe62 he62 R7=> .h ?_ (.bg ?_ λe64 he64 P7=> .h ?_ (.bg ?_ λe66 he66 he66w=> .b (zfg ?_ ?_) λr67 Q7=>FY _ ?_))))
  λWZ=>FY _ ?_)
  λk7 CW=> .b zpY λr8 ⟨RW,hr8i⟩=> .c (λ_=>CW _ nofun)
  λF5=>have i26:=hr8i (nf F5); .b (zaR ?_) λr9 tX=>CW _ λq27=>?_)
  λh3=>BV _ ?_) ?_ ?_
 all_goals (try simp only[NB]at *)<;>(try simp(disch:=omega) only[DA,RA]at *)<;>omega
def zjb{a0 a1}(ha:wt a0≤1000000000):Ok (Ge a0 a1) λr=>wt r≤wt a0:=by
 unfold Ge
 refine .m (nA ?_) (.jt (λy2=> .j (λy4:Ar=>wt y4≤wt a0) (λy4 TZ=> .s ?_)
  λk5 BW=> .c (λh1=>BW _ ?_)
  λh1=>BW _ ?_)
  λk3 CV=> .c (λ_=>CV _)
  λ_=>CV _)
 all_goals (try simp only[NB]at *)<;>omega
def ZP{a0 a1 a2}(ha:wt a0≤1000000000)(hb:wt a1≤1000)(hc:wt a2≤1000000)(hd:TW a0):Ok (Co a0 a1 a2) λr=>wt r≤wt a0+1003000+wt a2∧wt r.Clients+wt r.S≤wt a0.Clients+wt a0.S∧TW r:=by
 unfold Co;refine have hw:=QB a1;
 .j (λy1:Aa=>wt y1≤wt a0+1003000∧wt y1.Clients+wt y1.S≤wt a0.Clients+wt a0.S∧TW y1) (λy1 XV=> .g ?_ (.s ?_))
  λk2 BV=> .l (λx3:Int×Aa=>0≤x3.1∧x3.1≤(a1.length:Int)∧wt x3.2≤wt a0+1001 *x3.1∧wt x3.2.Clients+wt x3.2.S≤wt a0.Clients+wt a0.S∧TW x3.2) (λx3:Int×Aa=>((a1.length:Int) - x3.1).toNat) (λx3 aY k4 bW=> .c (λh1=> .j (λy5:Aa=>wt y5≤wt a0+1001 *x3.1+1001∧wt y5.Clients+wt y5.S≤wt a0.Clients+wt a0.S∧TW y5) (λy5 d7=>bW _ ?_ ?_)
  λk6 pW=> .c (λh2=> .bi ?_ ?_ λe7 UZ yY=> .g ?_ (pW _ ?_))
  λh2=>pW _ ?_)
  λh1=>BV _ ?_) ?_ ?_
 all_goals (try simp only[NB]at *)<;>(try simp(disch:=omega) only[DA,RA]at *)<;>omega
def zaF{a0 a1 a2 a3 a4}(ha:wt a0≤900000000)(hb:wt a2≤zhv a0.Clients a1.toNat+2000)(hc:a3.length≤3)(hd:wt a3≤1000000)(he:wt a4≤1000000)(hf:TW a0)(hg:0≤a1∧a1≤1)(hh:a2.Id=FJ a0.Clients a1.toNat):Ok (Du a0 a1 a2 a3 a4) λr=>wt r≤wt a0+1006000+wt a4∧wt r.Clients+wt r.S≤wt a0.Clients+wt a0.S+2000∧TW r:=by
 unfold Du;refine .h ?_ (.bg ?_ λe1 pY m7=>have hwa:=BO pY;have oY:=PM (l:=a0.Clients) (i:=a1.toNat) (x:=a2) (by have:=NG pY;omega) (aN pY) 0;have oX:=PM (l:=a0.Clients) (i:=a1.toNat) (x:=a2) (by have:=NG pY;omega) (aN pY) 1;have t8:=aV (x:=a2) pY; .b (zeE ?_ ?_) λr2 jW=> .b (ZP (have:=AD a0.Clients a1.toNat a2;?_) (have:=AD a0.Clients a1.toNat a2;?_) (have:=AD a0.Clients a1.toNat a2;?_) (have:=AD a0.Clients a1.toNat a2;?_)) λr3 sW=> .s ?_)
 all_goals (try simp only[NB]at *)<;>omega
def zpe{a0 a1 a2 a3}(ha:wt a0≤900000000)(hb:wt a3≤900000000)(hc:TW a0)(hd:0≤a1∧a1≤2):Ok (Hz a0 a1 a2 a3) λr=>wt r.1≤1000∧wt r.2≤wt a0+100000∧wt r.2.Clients+wt r.2.S≤wt a0.Clients+wt a0.S+50000∧TW r.2:=by
 unfold Hz
 refine .c (λh1=> .b (zoc ?_ ?_) λr1 LV=> .g ?_ (.b (zh5 ?_) λr2 jW=> .s ?_))
  λh1=> .b (zhS ?_) λr3 sW=> .c (λh2=> .s ?_)
  λh2=> .h ?_ (.bg ?_ λe4 YY zY=> .b (zog ?_ ?_) λr5 MV=> .h ?_ (.m YY (have oY:=PM (l:=a0.Clients) (i:=(oA .i64 a1 1).toNat) (x:=r5.1) (by have:=NG YY;omega) (aN YY) 0;have oX:=PM (l:=a0.Clients) (i:=(oA .i64 a1 1).toNat) (x:=r5.1) (by have:=NG YY;omega) (aN YY) 1;have t8:=aV (x:=r5.1) YY; .g ?_ (.b (zeE ?_ ?_) λr7 IW=> .s (have:=AD a0.Clients ((oA .i64 a1 1).toNat) r5.1;?_)))))
 all_goals (try simp only[NB]at *)<;>(try simp(disch:=omega) only[DA,RA]at *)<;>omega
def aU{a0 a1 a2 a3}(ha:wt a0≤800000000)(hb:wt a3≤900000000)(hc:TW a0)(hd:0≤a1∧a1≤2):Ok (Dk a0 a1 a2 a3) λr=>wt r≤wt a0+1200000∧wt r.Clients+wt r.S≤wt a0.Clients+wt a0.S+50000∧TW r:=by
 unfold Dk;refine .b (zpe ?_ ?_ ?_ ?_) λr1 LV=> .b (ZP ?_ ?_ ?_ ?_) λr2 jW=> .s ?_
 all_goals (try simp only[NB]at *)<;>omega
def zh1{a0 a1}(ha:wt a0≤900000000)(hb:wt a1≤4000000)(hc:TW a0):Ok (Gd a0 a1) λr=>wt r.2≤wt a0+4001000∧wt r.2.Clients+wt r.2.S≤wt a0.Clients+wt a0.S∧TW r.2:=by
 unfold Gd;refine have hk:=QB a0.Known;
 .b (zpR ?_) λr1 LV=>have hl:=QB r1; .c (λh1=> .s ?_)
  λh1=> .g ?_ (.g ?_ (.g ?_ (.s ?_)))
 all_goals (try simp only[NB]at *)<;>(try simp(disch:=omega) only[DA,RA]at *)<;>omega
def zpr{a0}(ha:wt a0≤800000000)(hb:TW a0):Ok (Hf a0) λr=>wt r.1≤1000∧wt r.2≤wt a0+120000∧wt r.2.Clients+wt r.2.S≤wt a0.Clients+wt a0.S+60000∧TW r.2:=by
 unfold Hf
 refine .j (λy1:(List Al)×Aa=>wt y1.1≤804∧wt y1.2≤wt a0+6000∧wt y1.2.Clients+wt y1.2.S≤wt a0.Clients+wt a0.S∧TW y1.2) (λy1 XV=> .b (zob ?_) λr9 tX=> .g ?_ (.s ?_))
  λk2 BV=> .l (λx3:(List Al)×Int×Aa=>0≤x3.2.1∧x3.2.1≤2∧wt x3.1≤402 *x3.2.1∧wt x3.2.2≤wt a0+3000 *x3.2.1∧wt x3.2.2.Clients+wt x3.2.2.S≤wt a0.Clients+wt a0.S∧TW x3.2.2) (λx3:(List Al)×Int×Aa=>(2 - x3.2.1).toNat) (λx3 aY k4 bW=> .c (λh1=> .h ?_ (.bg ?_ λe5 iX dX=> .b (zn8 ?_) λr6 AW=> .h ?_ (.m iX (have oY:=PM (l:=x3.2.2.Clients) (i:=x3.2.1.toNat) (x:=r6.1) (by have:=NG iX;omega) (aN iX) 0;have oX:=PM (l:=x3.2.2.Clients) (i:=x3.2.1.toNat) (x:=r6.1) (by have:=NG iX;omega) (aN iX) 1;have t8:=aV (x:=r6.1) iX; .g ?_ (.b (zeE ?_ ?_) λr8 RW=> .g ?_ (bW _ (have:=AD x3.2.2.Clients x3.2.1.toNat r6.1;?_) (have:=AD x3.2.2.Clients x3.2.1.toNat r6.1;?_)))))))
  λh1=>BV _ ?_) ?_ ?_
 all_goals (try simp only[NB]at *)<;>(try simp(disch:=omega) only[DA,RA]at *)<;>omega
set_option maxHeartbeats 4000000 in
theorem zqQ{a0 a1}(ha:wt a0≤400000000)(hb:wt a0.Clients+wt a0.S≤4000000)(hc:TW a0)(hd:0≤a1.I∧0≤a1.J∧0≤a1.N)(he:wt a1≤300000):Ok (If a0 a1) λr=>wt r.2≤wt a0+5100000∧wt r.2.Clients+wt r.2.S≤wt a0.Clients+wt a0.S+61000∧TW r.2:=by
 unfold If;refine have uZ:=QB a0.Seen;
 have hd1:=zI (a:=a1.I) (n:=2) ?_ ?_;
 have hd2:=zI (a:=a1.J) (n:=3) ?_ ?_;
 .jt (λy1=> .j (λy3:Al=>wt y3≤wt a0) (λy3 Y4=> .j (λy6:Aa=>wt y6≤wt a0+5100000∧wt y6.Clients+wt y6.S≤wt a0.Clients+wt a0.S+61000∧TW y6) (λy6 rZ=> .s ?_)
  λk7 CW=> .c (λh1=> .b (zdd ?_) λr8 RW=>have hn:wt (VE r8.2)=wt r8.2:=(by simp only[VE,KL,GE,FA,List.length_nil];omega); .h ?_ (.bg ?_ λe9 qZ gY=>have hie9:=NG qZ;have hve9:=BO qZ; .b (zq8 ?_ ?_) λr10 tW=> .c (λh2=> .s ?_)
  λh2=> .m (zaT ?_) (.g ?_ (.b (zaF ?_ ?_ ?_ ?_ ?_ ?_ ?_ ?_) λr12 TX=>CW _ ?_))))
  λh1=> .j (λy13:Aa=>wt y13≤wt a0+5100000∧wt y13.Clients+wt y13.S≤wt a0.Clients+wt a0.S+61000∧TW y13) (λy13 CY=>CW _ ?_)
  λk14 GV=> .c (λh3=> .h ?_ (.bg ?_ λe15 DY EY=>have hie15:=NG DY;have hve15:=BO DY; .b (zoa ?_ ?_) λr16 WX=> .c (λh4=> .s ?_)
  λh4=> .b (zaF ?_ ?_ ?_ ?_ ?_ ?_ ?_ ?_) λr17 K0=>GV _ ?_))
  λh3=> .j (λy18:Aa=>wt y18≤wt a0+5100000∧wt y18.Clients+wt y18.S≤wt a0.Clients+wt a0.S+61000∧TW y18) (λy18 s5=>GV _ ?_)
  λk19 fX=> .c (λh5=> .b (zol ?_ ?_) λr20 M0=> .c (λh6=> .s ?_)
  λh6=> .b (zh5 ?_) λr21 P2=> .b (ZP ?_ ?_ ?_ ?_) λr22 IX=>fX _ ?_)
  λh5=> .j (λy23:Aa=>wt y23≤wt a0+5100000∧wt y23.Clients+wt y23.S≤wt a0.Clients+wt a0.S+61000∧TW y23) (λy23 S0=>fX _ ?_)
  λk24 LW=> .c (λh7=> .c (λh8=> .s ?_)
  λh8=> .b (zpr ?_ ?_) λr25 O0=> .b (ZP ?_ ?_ ?_ ?_) λr26 BY=>LW _ ?_)
  λh7=> .j (λy27:Aa=>wt y27≤wt a0+5100000∧wt y27.Clients+wt y27.S≤wt a0.Clients+wt a0.S+61000∧TW y27) (λy27 hy27=>LW _ ?_)
  λk28 KX=> .c (λh9=> .h ?_ (.bg ?_ λe29 kY v8=>have hie29:=NG kY;have hve29:=BO kY; .b (zre ?_) λr31 B7=> .h ?_ (.m kY (have oY:=PM (l:=a0.Clients) (i:=(xA .i64 a1.I 2).toNat) (x:=r31) (by have:=NG kY;omega) (aN kY) 0;have oX:=PM (l:=a0.Clients) (i:=(xA .i64 a1.I 2).toNat) (x:=r31) (by have:=NG kY;omega) (aN kY) 1;have t8:=aV (x:=r31) kY;KX _ (have:=AD a0.Clients ((xA .i64 a1.I 2).toNat) r31;?_)))))
  λh9=> .j (λy33:Aa=>wt y33≤wt a0+5100000∧wt y33.Clients+wt y33.S≤wt a0.Clients+wt a0.S+61000∧TW y33) (λy33 hy33=>KX _ ?_)
  λk34 uX=> .c (λgW=> .h ?_ (.bg ?_ λe35 w8 he35w=>have hie35:=NG w8;have hve35:=BO w8; .b (znY ?_) λr36 hr36=> .c (λrW=> .s ?_)
  λrW=> .b (zaF ?_ ?_ ?_ ?_ ?_ ?_ ?_ ?_) λr37 A7=>uX _ ?_))
  λgW=> .j (λy38:Aa=>wt y38≤wt a0+5100000∧wt y38.Clients+wt y38.S≤wt a0.Clients+wt a0.S+61000∧TW y38) (λy38 z8=>uX _ ?_)
  λk39 C1=> .c (λFW=> .b (TU ?_ ?_) λr40 hr40=> .c (λXW=> .s ?_)
  λXW=> .b (aU ?_ ?_ ?_ ?_) λr41 R2=>C1 _ ?_)
  λFW=> .j (λy42:Aa=>wt y42≤wt a0+5100000∧wt y42.Clients+wt y42.S≤wt a0.Clients+wt a0.S+61000∧TW y42) (λy42 Q2=>C1 _ ?_)
  λk43 LX=> .c (λXX=> .b (aU ?_ ?_ ?_ ?_) λr45 hr45=>LX _ ?_)
  λXX=> .j (λy46:Aa=>wt y46≤wt a0+5100000∧wt y46.Clients+wt y46.S≤wt a0.Clients+wt a0.S+61000∧TW y46) (λy46 hy46=>LX _ ?_)
  λk47 U0=> .c (λlY=> .b (aU ?_ ?_ ?_ ?_) λr48 hr48=>U0 _ ?_)
  λlY=> .j (λy49:Aa=>wt y49≤wt a0+5100000∧wt y49.Clients+wt y49.S≤wt a0.Clients+wt a0.S+61000∧TW y49) (λy49 G7=>U0 _ ?_)
  λk50 V0=> .c (λqY=> .b (TU ?_ ?_) λr51 A8=> .j (λy52:Bool=>y52=false→0≤r51∧0<y3.B.length) (λy52 hy52=> .c (λIY=> .s ?_)
  λIY=>have i18:=hy52 IY;have hd4:=zI (a:=a1.N) (n:=(([]++y3.B).length:Int)) ?_ ?_; .g ?_ (.n ?_ (.h ?_ (.bg ?_ λe55 he55 he55w=> .h ?_ (.bg ?_ λe57 he57 he57w=> .b (aU (have:=AD ([]++y3.B) (xA .i64 a1.N (([]++y3.B).length:Int):Int).toNat (UInt8.ofNat (AB .u8 ((e55.toNat:Nat):Int) (IntKind.wrap .u8 (fA .i64 1 (xA .i64 a1.J 255)):Int):Int).toNat);?_) (have:=AD ([]++y3.B) (xA .i64 a1.N (([]++y3.B).length:Int):Int).toNat (UInt8.ofNat (AB .u8 ((e55.toNat:Nat):Int) (IntKind.wrap .u8 (fA .i64 1 (xA .i64 a1.J 255)):Int):Int).toNat);?_) (have:=AD ([]++y3.B) (xA .i64 a1.N (([]++y3.B).length:Int):Int).toNat (UInt8.ofNat (AB .u8 ((e55.toNat:Nat):Int) (IntKind.wrap .u8 (fA .i64 1 (xA .i64 a1.J 255)):Int):Int).toNat);?_) (have:=AD ([]++y3.B) (xA .i64 a1.N (([]++y3.B).length:Int):Int).toNat (UInt8.ofNat (AB .u8 ((e55.toNat:Nat):Int) (IntKind.wrap .u8 (fA .i64 1 (xA .i64 a1.J 255)):Int):Int).toNat);?_)) λr59 T7=>V0 _ ?_)))))
  λk53 B8=> .c (λ_=>B8 _ nofun)
  λwZ=>B8 _ λq20=>?_)
  λqY=> .j (λy60:Aa=>wt y60≤wt a0+5100000∧wt y60.Clients+wt y60.S≤wt a0.Clients+wt a0.S+61000∧TW y60) (λy60 O7=>V0 _ ?_)
  λk61 FY=> .c (λU1=> .b (zra ?_ ?_ ?_) λr62 hr62=> .c (λyZ=> .s ?_)
  λyZ=> .b (aU ?_ ?_ ?_ ?_) λr64 hr64=>FY _ ?_)
  λU1=> .j (λy65:Aa=>wt y65≤wt a0+5100000∧wt y65.Clients+wt y65.S≤wt a0.Clients+wt a0.S+61000∧TW y65) (λy65 hy65=>FY _ ?_)
  λk66 C8=> .c (λVZ=> .b (zri ?_) λr67 Q7=>have hl67:=QB r67.2; .c (λWZ=> .s ?_)
  λWZ=> .b (ZP ?_ ?_ ?_ ?_) λr68 hr68=>C8 _ ?_)
  λVZ=> .j (λy69:Aa=>wt y69≤wt a0+5100000∧wt y69.Clients+wt y69.S≤wt a0.Clients+wt a0.S+61000∧TW y69) (λy69 hy69=>C8 _ ?_)
  λk70 X0=> .c (λF5=> .h ?_ (.bg ?_ λe71 he71 b8=> .c (λT5=> .s ?_)
  λT5=> .h ?_ (.bg ?_ λe72 D8 he72w=>have hie72:=NG D8;have hve72:=BO D8; .b (zq2 ?_) λr73 hr73=> .b (zaF ?_ ?_ ?_ ?_ ?_ ?_ ?_ ?_) λr74 hr74=>X0 _ ?_)))
  λF5=> .j (λy75:Aa=>wt y75≤wt a0+5100000∧wt y75.Clients+wt y75.S≤wt a0.Clients+wt a0.S+61000∧TW y75) (λy75 hy75=>X0 _ ?_)
  λk76 Y0=> .c (λT3=> .b (znW ?_) λr77 hr77=> .c (λN8=> .s ?_)
  λN8=> .b (ZP ?_ ?_ ?_ ?_) λr78 hr78=>Y0 _ ?_)
  λT3=> .c (λO8=> .j (λy79:Bool×Aa=>wt y79.2≤wt a0+5100000∧wt y79.2.Clients+wt y79.2.S≤wt a0.Clients+wt a0.S+61000∧TW y79.2) (λy79 hy79=> .s ?_)
  λk80 E8=> .h ?_ (.bg ?_ λe81 he81 he81w=> .c (λU5=> .h ?_ (.bg ?_ λe82 F8 he82w=>have hie82:=NG F8;have hve82:=BO F8; .b (zh1 ?_ ?_ ?_) λr83 hr83=>E8 _ ?_))
  λU5=>E8 _ ?_))
  λO8=> .c (λV5=> .j (λy84:Bool×Aa=>wt y84.2≤wt a0+5100000∧wt y84.2.Clients+wt y84.2.S≤wt a0.Clients+wt a0.S+61000∧TW y84.2) (λy84 hy84=> .s ?_)
  λk85 B5=> .c (λG9=> .bi ?_ ?_ λe86 he86 he86w=> .c (λH9=> .bi ?_ ?_ λe87 he87 he87w=> .b (zh1 ?_ ?_ ?_) λr88 hr88=>B5 _ ?_)
  λH9=>B5 _ ?_)
  λG9=>B5 _ ?_)
  λV5=> .j (λy89:Aa=>wt y89≤wt a0+5100000∧wt y89.Clients+wt y89.S≤wt a0.Clients+wt a0.S+61000∧TW y89) (λy89 hy89=>Y0 _ ?_)
  λk90 Z0=> .c (λI9=> .j (λy91:Aa=>wt y91≤wt a0+5100000∧wt y91.Clients+wt y91.S≤wt a0.Clients+wt a0.S+61000∧TW y91) (λy91 hy91=>Z0 _ ?_)
  λk92 G8=> .c (λJ9=> .b (zjb ?_) λr93 hr93=>G8 _ ?_)
  λJ9=> .b (zjb ?_) λr94 hr94=>G8 _ ?_)
  λI9=>Z0 _ ?_)
  λk4 bW=> .c (λK9=> .c (λL9=> .s ?_)
  λL9=>have hd3:=zI (a:=a1.I) (n:=(a0.Seen.length:Int)) ?_ ?_; .n ?_ (.h ?_ (.bg ?_ λe5 iX dX=>bW _ ?_)))
  λK9=>bW _ ?_)
  λk2 BV=> .c (λ_=>BV _)
  λ_=>BV _
 all_goals (try simp only[NB]at *)<;>(try simp(disch:=omega) only[DA,RA]at *)<;>omega
end Go.D
namespace Go.D
end Go.D
namespace Go.D
end Go.D

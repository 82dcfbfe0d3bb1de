/-
 The reference's machine comes to an end, and what it gives is small.
-/
import Derived.Test.YtmhnaidnoljllaaGreatN8c
set_option linter.all false
namespace Go.D
def nd(k:Int):Int:=if k≤3 then 0 else if k=4∨k=9 then 1 else if k=10 then 3 else 2
def zw5(k:Int):0≤nd k∧nd k≤3∧(k=4→nd k=1)∧(k=5→nd k=2)∧(k=6→nd k=2)∧(k=7→nd k=2)∧(k=8→nd k=2)∧(k=9→nd k=1)∧(k=10→nd k=3):=by
 unfold nd
 repeat' split
 all_goals omega
def zae{a0}(ha:0≤a0∧a0≤10):Ok (Di a0) λr=>r=nd a0∧0≤nd a0∧nd a0≤3:=by
 have:a0=0∨a0=1∨a0=2∨a0=3∨a0=4∨a0=5∨a0=6∨a0=7∨a0=8∨a0=9∨a0=10:=by omega
 rcases this with rfl | rfl | rfl | rfl | rfl | rfl | rfl | rfl | rfl | rfl | rfl<;>exact⟨_,rfl,by decide⟩
def zhF{a0}(ha:nB a0):Ok (Jl a0) λr=>nB r.2∧r.1.B.length≤32∧1≤r.1.Kind∧r.1.Kind≤10:=by
 unfold Jl
 refine .b (LS (1) (10) ?_ (by simp) (by decide)) λr1 QV=> .j (λy2:Ar×Az=>nB y2.1∧y2.2.B.length≤32∧1≤y2.2.Kind∧y2.2.Kind≤10) (λy2 rW=> .b (HD ?_) λr6 vW=> .b (LS (0) (16) ?_ (by simp) (by decide)) λr7 FW=> .s ?_)
  λk3 JV=> .c (λh1=> .b (LS (0) (32) ?_ (by simp) (by decide)) λr4 SV=> .b (vK ?_ ?_) λr5 RV=>JV _ ?_)
  λh1=>JV _ ?_
 all_goals (try simp only[NB]at *)<;>omega
def zns{a0 a1}(ha:nB a0)(hb:0<a1∧a1≤20):Ok (Mw a0 a1) λr=>nB r.2∧wt r.1≤1000:=by
 unfold Mw
 refine .b (HD ?_) λr1 QV=> .j (λy2:(List Az)×Int×Ar=>nB y2.2.2∧wt y2.1≤700∧y2.2.1≤21) (λy2 rW=> .j (λy16:(List Az)=>wt y16≤1000) (λy16 E4=> .s ?_)
  λk17 lX=> .l (λx18:(List Az)×Int=>wt x18.1+x18.2≤730∧wt x18.1≤729∧x18.2≤30) (λx18:(List Az)×Int=>x18.2.toNat) (λx18 hx18 k19 pX=> .c (λh1=> .g ?_ (pX _ ?_ ?_))
  λh1=>lX _ ?_) ?_ ?_)
  λk3 JV=> .l (λx4:(List Az)×Int×Int×Ar=>0≤x4.2.2.1∧x4.2.2.1≤20∧wt x4.1+33 *x4.2.2.1≤660∧x4.2.1+x4.2.2.1≤20∧ -2 *20≤x4.2.1 - 2 *x4.2.2.1∧nB x4.2.2.2) (λx4:(List Az)×Int×Int×Ar=>x4.2.2.1.toNat) (λx4 JX k5 sW=> .c (λh2=> .b (zhF ?_) λr6 vW=> .j (λy7:Ar×Az=>nB y7.1∧y7.2.B.length≤32∧1≤y7.2.Kind∧y7.2.Kind≤10) (λy7 IY=> .b (zae ?_) λr15 cY=> .g ?_ (sW _ ?_ ?_))
  λk8 qW=> .l (λx9:Int×Ar×Az=>0≤x9.1∧x9.1≤6∧nB x9.2.1∧x9.2.2.B.length≤32∧1≤x9.2.2.Kind∧x9.2.2.Kind≤10) (λx9:Int×Ar×Az=>(6 - x9.1).toNat) (λx9 hx9 k10 bW=> .j (λy11:Bool=>y11=true→x9.1<6) (λy11 G4=> .c (λh3=>have i4:=G4 h3; .b (zhF ?_) λr14 UY=>bW _ ?_ ?_)
  λh3=>qW _ ?_)
  λk12 BW=> .c (λh5=> .b (zae ?_) λr13 CZ=>BW _ λq6=>?_)
  λ_=>BW _ nofun) ?_ ?_)
  λh2=>JV _ ?_) ?_ ?_
 all_goals (try simp only[NB]at *)<;>(try simp(disch:=omega) only[DA,SA]at *)<;>omega
def zos{a0}(ha:nB a0):Ok (Iy a0) λr=>nB r.2.2∧r.2.1.length≤40:=by
 unfold Iy
 refine .b (HD ?_) λr1 QV=> .c (λh1=> .b (HD ?_) λr2 DW=> .b (vK ?_ ?_) λr3 pW=> .s ?_)
  λh1=> .c (λh2=> .b (HD ?_) λr4 SV=> .b (vK ?_ ?_) λr5 RV=> .s ?_)
  λh2=> .b (LS (0) (40) ?_ (by simp) (by decide)) λr6 vW=> .b (vK ?_ ?_) λr7 FW=> .s ?_
 all_goals (try simp only[NB]at *)<;>(try simp(disch:=omega) only[DA,SA]at *)<;>omega
def zhi{a0 a1 a2 a3}(ha:nB a0)(hb:wt a1≤900000000)(hc:2≤a1.Clients.length):Ok (Ja a0 a1 a2 a3) λr=>wt r.1≤3000∧nB r.2.1:=by
 unfold Ja;refine have UX:=QB a1.Known;
 .b (HD ?_) λr1 QV=> .b (HD ?_) λr2 DW=> .b (HD ?_) λr3 pW=> .j (λy4:Bool×Ar=>nB y4.2) (λy4 mZ=> .c (λh1=> .s ?_)
  λh1=> .j (λy7:Bool×Ar=>nB y7.2) (λy7 IY=> .c (λh2=> .s ?_)
  λh2=> .b (HD ?_) λr11 YW=> .jt (λy12=> .j (λy16:Aj×Ar×Aj=>wt y16.1≤3000∧nB y16.2.1) (λy16 E4=> .s ?_)
  λk17 lX=> .c (λh3=> .b (HD ?_) λr18 AZ=> .b (vK ?_ ?_) λr19 BZ=>lX _ ?_)
  λh3=> .jt (λy20=> .j (λy22:Aj×Ar×Aj=>wt y22.1≤3000∧nB y22.2.1) (λy22 F6=>lX _ ?_)
  λk23 wY=> .c (λh4=> .b (HD ?_) λr24 RX=> .b (HD ?_) λr25 D0=> .b (vK ?_ ?_) λr26 yY=>wY _ ?_)
  λh4=> .jt (λy27=> .j (λy29:Aj×Ar×Aj=>wt y29.1≤3000∧nB y29.2.1) (λy29 hy29=>wY _ ?_)
  λk30 G0=> .c (λh5=>G0 _ ?_)
  λh5=> .j (λy31:Aj×Ar×Aj=>wt y31.1≤3000∧nB y31.2.1) (λy31 hy31=>G0 _ ?_)
  λk32 U6=> .c (λh6=>U6 _ ?_)
  λh6=> .jt (λy33=> .j (λy35:Aj×Ar×Aj=>wt y35.1≤3000∧nB y35.2.1) (λy35 hy35=>U6 _ ?_)
  λk36 VY=> .c (λh7=>VY _ ?_)
  λh7=> .b (HD ?_) λr37 I6=> .b (HD ?_) λr38 hr38=> .j (λy39:Bool×Ar=>nB y39.2) (λy39 hy39=> .j (λy42:Ar×Aj=>nB y42.1∧wt y42.2≤500) (λy42 T1=> .b (HD ?_) λr46 hr46=> .c (λh8=> .s ?_)
  λh8=> .b (HD ?_) λr47 hr47=> .jt (λy48=> .j (λy50:Aj×Ar=>wt y50.1≤3000∧nB y50.2) (λy50 hy50=>VY _ ?_)
  λk51 J0=> .c (λh9=> .b (zns ?_ ?_) λr52 hr52=> .j (λy53:Ar×Aj=>nB y53.1∧wt y53.2≤3000) (λy53 hy53=>J0 _ ?_)
  λk54 V6=> .c (λmW=> .b (HD ?_) λr55 hr55=> .bi ?_ ?_ λe56 he56 P6=> .j (λy57:Bool×Ar=>nB y57.2) (λy57 hy57=> .j (λy60:(List UInt8)=>y60.length≤900000000) (λy60 W6=> .b (zos ?_) λr63 hr63=> .bi ?_ ?_ λe64 he64 X6=> .b (HD ?_) λr65 hr65=> .b (HD ?_) λr66 hr66=> .b (HD ?_) λr67 Y6=> .b (zpf ?_ ?_ ?_) λr68 hr68=> .j (λy69:Aj=>wt y69≤3000) (λy69 hy69=>V6 _ ?_)
  λk70 K0=> .c (λGW=>K0 _ ?_)
  λGW=>K0 _ ?_)
  λk61 DY=> .c (λIW=> .bi ?_ ?_ λe62 he62 Z6=>DY _ ?_)
  λIW=>DY _ ?_)
  λk58 b7=> .c (λSW=>b7 _ ?_)
  λSW=> .b (dN ?_) λr59 d7=>b7 _ ?_)
  λmW=>V6 _ ?_)
  λh9=> .j (λy71:Aj×Ar=>wt y71.1≤3000∧nB y71.2) (λy71 hy71=>J0 _ ?_)
  λk72 m7=> .c (λgY=>m7 _ ?_)
  λgY=> .j (λy73:Aj×Ar=>wt y73.1≤3000∧nB y73.2) (λy73 hy73=>m7 _ ?_)
  λk74 n7=> .c (λiY=>n7 _ ?_)
  λiY=> .j (λy75:Aj×Ar=>wt y75.1≤3000∧nB y75.2) (λy75 hy75=>n7 _ ?_)
  λk76 L0=> .c (λoY=> .b (HD ?_) λr77 hr77=>L0 _ ?_)
  λoY=> .j (λy78:Aj×Ar=>wt y78.1≤3000∧nB y78.2) (λy78 hy78=>L0 _ ?_)
  λk79 o7=> .c (λYY=>o7 _ ?_)
  λYY=> .j (λy80:Aj×Ar=>wt y80.1≤3000∧nB y80.2) (λy80 hy80=>o7 _ ?_)
  λk81 s7=> .c (λT0=> .b (HD ?_) λr82 hr82=>s7 _ ?_)
  λT0=> .j (λy83:Ar×Aj=>nB y83.1∧wt y83.2≤3000) (λy83 hy83=>s7 _ ?_)
  λk84 t7=> .c (λqZ=> .b (dN ?_) λr85 hr85=> .j (λy86:Aj×Ar=>wt y86.1≤3000∧nB y86.2) (λy86 hy86=>t7 _ ?_)
  λk87 v7=> .c (λrZ=> .b (HD ?_) λr88 hr88=>v7 _ ?_)
  λrZ=>v7 _ ?_)
  λqZ=> .j (λy89:Aj×Ar=>wt y89.1≤3000∧nB y89.2) (λy89 hy89=>t7 _ ?_)
  λk90 M0=> .c (λNZ=> .b (LS (2) (4) ?_ (by simp) (by decide)) λr91 hr91=> .b (LS (24) (44) ?_ (by simp) (by decide)) λr92 hr92=>M0 _ ?_)
  λNZ=>M0 _ ?_)
  λk49 O0=> .c (λ_=>O0 _)
  λ_=>O0 _)
  λk43 IX=> .c (λOZ=> .b (HD ?_) λr44 F4=>IX _ ?_)
  λOZ=>IX _ ?_)
  λk40 DZ=> .c (λC1=> .b (dN ?_) λr41 U1=>DZ _ ?_)
  λC1=>DZ _ ?_)
  λk34 WY=> .c (λ_=>WY _)
  λ_=>WY _)
  λk28 zY=> .c (λ_=>zY _)
  λ_=>zY _)
  λk21 CY=> .c (λ_=>CY _)
  λ_=>CY _)
  λk13 gW=> .c (λ_=>gW _)
  λU7=> .jt (λy14=>gW _)
  λk15 B0=> .c (λ_=>B0 _)
  λ_=>B0 _)
  λk8 qW=> .bi ?_ ?_ λe9 nZ bY=> .c (λY4=> .b (dN ?_) λr10 uW=>qW _ ?_)
  λY4=>qW _ ?_)
  λk5 sW=> .c (λZ4=> .b (dN ?_) λr6 vW=>sW _ ?_)
  λZ4=>sW _ ?_
 all_goals (try simp only[NB]at *)<;>(try simp(disch:=omega) only[DA,SA]at *)<;>omega
def zoD{a0}:Ok (Do a0) λr=>(True)∧(r=true→1≤a0.Kind∧a0.Kind≤10∧a0.B.length≤200∧0≤a0.I∧0≤a0.J):=by
 unfold Do
 refine .j (λy1:Bool=>y1=true→1≤a0.Kind∧a0.Kind≤10∧a0.B.length≤200∧0≤a0.I∧0≤a0.J) (λy1 ZV=> .s ⟨trivial,λq1=>have i2:=ZV q1;?_⟩)
  λk2 IV=> .c (λh3=> .c (λh4=> .c (λh5=>IV _ λq6=>?_)
  λ_=>IV _ nofun)
  λ_=>IV _ nofun)
  λ_=>IV _ nofun
 all_goals (try simp only[NB]at *)<;>omega
def zpH{a0 a1 a2}(ha:wt a0≤300000)(hb:wt a1≤500000000)(hc:wt a2≤500000000):Ok (Fp a0 a1 a2) λr=>r.1.length≤10000:=by
 unfold Fp
 refine .c (λh1=> .s ?_)
  λh1=> .j (λy1:(List (List UInt8))=>wt y1≤3300) (λy1 ZV=>have hyw:=QB y1; .c (λh2=> .s ?_)
  λh2=> .h ?_ (.bg ?_ λe71 he71 z7=> .g ?_ (.s ?_)))
  λk2 IV=> .l (λx3:(List (List UInt8))×Int=>0≤x3.2∧x3.2≤(a0.length:Int)∧wt x3.1≤201 *x3.2) (λx3:(List (List UInt8))×Int=>((a0.length:Int) - x3.2).toNat) (λx3 WX k4 iW=>have hpw:=QB x3.1; .c (λh3=> .bi ?_ ?_ λe5 gX ZW=>have m4:=zw5 e5.Kind; .j (λy6:Bool=>y6=false→1≤e5.Kind∧e5.Kind≤10∧e5.B.length≤200∧0≤e5.I∧0≤e5.J∧nd e5.Kind≤(x3.1.length:Int)) (λy6 oZ=> .c (λh4=> .s ?_)
  λh4=>have i5:=oZ h4; .b (zae ?_) λr10 uW=> .j (λy11:(List UInt8)=>y11.length≤500000000) (λy11 G4=> .j (λy68:Bool=>y68=false→y11.length≤200) (λy68 hy68=> .c (λh6=> .s ?_)
  λh6=>have i7:=hy68 h6; .h ?_ (.g (have:=TD x3.1 ((qA .i64 (x3.1.length:Int) r10 - 0).toNat);?_) (iW _ (have:=TD x3.1 ((qA .i64 (x3.1.length:Int) r10 - 0).toNat);?_) (have:=TD x3.1 ((qA .i64 (x3.1.length:Int) r10 - 0).toNat);?_))))
  λk69 A7=> .c (λ_=>A7 _ nofun)
  λh8=>A7 _ λq9=>?_)
  λk12 BW=> .c (λmW=> .g ?_ (BW _ ?_))
  λmW=> .j (λy13:(List UInt8)=>y13.length≤500000000) (λy13 eY=>BW _ ?_)
  λk14 eW=> .c (λGW=> .c (λIW=> .s ?_)
  λIW=> .bi ?_ ?_ λe15 AY BY=> .g ?_ (eW _ ?_))
  λGW=> .j (λy16:(List UInt8)=>y16.length≤500000000) (λy16 E4=>eW _ ?_)
  λk17 lX=> .c (λSW=> .c (λgY=> .s ?_)
  λgY=> .bi ?_ ?_ λe18 he18 K6=> .g ?_ (lX _ ?_))
  λSW=> .j (λy19:(List UInt8)=>y19.length≤500000000) (λy19 hy19=>lX _ ?_)
  λk20 EY=> .c (λiY=> .h ?_ (.bg ?_ λe21 he21 he21w=> .b (zuF ?_) λr22 mX=> .c (λoY=> .s ?_)
  λoY=>EY _ ?_))
  λiY=> .j (λy23:(List UInt8)=>y23.length≤500000000) (λy23 A4=>EY _ ?_)
  λk24 bX=> .c (λYY=> .h ?_ (.bg ?_ λe25 he25 B7=> .g ?_ (.h ?_ (.bg ?_ λe27 he27 C7=> .g ?_ (bX _ ?_)))))
  λYY=> .j (λy28:(List UInt8)=>y28.length≤500000000) (λy28 hy28=>bX _ ?_)
  λk29 P0=> .c (λT0=> .h ?_ (.bg ?_ λe30 D7 he30w=> .h ?_ (.bg ?_ λe32 he32 he32w=> .c (λqZ=> .s ?_)
  λqZ=> .j (λy33:(List UInt8)=>y33.length≤500000000) (λy33 hy33=>P0 _ ?_)
  λk34 WY=> .l (λx35:(List UInt8)×Int=>0≤x35.2∧x35.2≤(e30.length:Int)∧(x35.1.length:Int)=x35.2) (λx35:(List UInt8)×Int=>((e30.length:Int) - x35.2).toNat) (λx35 hx35 k36 VY=> .h ?_ (.m D7 (.c (λrZ=> .h ?_ (.m D7 (.bi ?_ ?_ λe39 he39 he39w=> .h ?_ (.m he32 (.bi ?_ ?_ λe42 he42 he42w=> .g ?_ (VY _ ?_ ?_))))))
  λrZ=>WY _ ?_))) ?_ ?_)))
  λT0=> .j (λy44:(List UInt8)=>y44.length≤500000000) (λy44 hy44=>P0 _ ?_)
  λk45 E7=> .c (λNZ=> .h ?_ (.bg ?_ λe46 he46 he46w=> .h ?_ (.bg ?_ λe48 he48 he48w=>have hhm:=XK e46 e48;E7 _ ?_)))
  λNZ=> .j (λy50:(List UInt8)=>y50.length≤500000000) (λy50 hy50=>E7 _ ?_)
  λk51 J0=> .c (λB1=> .h ?_ (.bg ?_ λe52 he52 he52w=> .h ?_ (.bg ?_ λe54 he54 he54w=> .b gU λr55 hr55=>J0 _ ?_)))
  λB1=> .j (λy56:(List UInt8)=>y56.length≤500000000) (λy56 hy56=>J0 _ ?_)
  λk57 F7=> .c (λOZ=> .h ?_ (.bg ?_ λe58 he58 Q6=> .b (IR ?_) λr59 d7=>F7 _ ?_))
  λOZ=> .j (λy60:(List UInt8)=>y60.length≤500000000) (λy60 W6=>F7 _ ?_)
  λk61 DY=> .c (λC1=> .h ?_ (.bg ?_ λe62 he62 Z6=> .h ?_ (.bg ?_ λe64 he64 X6=> .h ?_ (.bg ?_ λe66 he66 he66w=> .b (zeo ?_ ?_) λr67 Y6=>DY _ ?_))))
  λC1=>DY _ ?_)
  λk7 wW=> .b zoD λr8 ⟨QW,hr8i⟩=> .c (λ_=>wW _ nofun)
  λL4=>have i26:=hr8i (nf L4); .b (zae ?_) λr9 FX=>wW _ λq27=>?_)
  λh3=>IV _ ?_) ?_ ?_
 all_goals (try simp only[NB]at *)<;>(try simp(disch:=omega) only[DA,SA]at *)<;>omega
def zih{a0 a1}(ha:wt a0≤1000000000):Ok (Fr a0 a1) λr=>wt r≤wt a0:=by
 unfold Fr
 refine .m (oA ?_) (.jt (λy2=> .j (λy4:As=>wt y4≤wt a0) (λy4 mZ=> .s ?_)
  λk5 sW=> .c (λh1=>sW _ ?_)
  λh1=>sW _ ?_)
  λk3 JV=> .c (λ_=>JV _)
  λ_=>JV _)
 all_goals (try simp only[NB]at *)<;>omega
def GP{a0 a1 a2}(ha:wt a0≤1000000000)(hb:wt a1≤1000)(hc:wt a2≤1000000)(hd:TW a0):Ok (Cd a0 a1 a2) λr=>wt r≤wt a0+1003000+wt a2∧wt r.Clients+wt r.S≤wt a0.Clients+wt a0.S∧TW r:=by
 unfold Cd;refine have hw:=QB a1;
 .j (λy1:Aa=>wt y1≤wt a0+1003000∧wt y1.Clients+wt y1.S≤wt a0.Clients+wt a0.S∧TW y1) (λy1 ZV=> .g ?_ (.s ?_))
  λk2 IV=> .l (λx3:Int×Aa=>0≤x3.1∧x3.1≤(a1.length:Int)∧wt x3.2≤wt a0+1001 *x3.1∧wt x3.2.Clients+wt x3.2.S≤wt a0.Clients+wt a0.S∧TW x3.2) (λx3:Int×Aa=>((a1.length:Int) - x3.1).toNat) (λx3 WX k4 iW=> .c (λh1=> .j (λy5:Aa=>wt y5≤wt a0+1001 *x3.1+1001∧wt y5.Clients+wt y5.S≤wt a0.Clients+wt a0.S∧TW y5) (λy5 A6=>iW _ ?_ ?_)
  λk6 EW=> .c (λh2=> .bi ?_ ?_ λe7 MZ uY=> .g ?_ (EW _ ?_))
  λh2=>EW _ ?_)
  λh1=>IV _ ?_) ?_ ?_
 all_goals (try simp only[NB]at *)<;>(try simp(disch:=omega) only[DA,SA]at *)<;>omega
def BV{a0 a1 a2 a3 a4}(ha:wt a0≤900000000)(hb:wt a2≤zgB a0.Clients a1.toNat+2000)(hc:a3.length≤3)(hd:wt a3≤1000000)(he:wt a4≤1000000)(hf:TW a0)(hg:0≤a1∧a1≤1)(hh:a2.Id=fJ a0.Clients a1.toNat):Ok (Dj a0 a1 a2 a3 a4) λr=>wt r≤wt a0+1006000+wt a4∧wt r.Clients+wt r.S≤wt a0.Clients+wt a0.S+2000∧TW r:=by
 unfold Dj;refine .h ?_ (.bg ?_ λe1 mY B6=>have hwa:=eO mY;have lY:=nM (l:=a0.Clients) (i:=a1.toNat) (x:=a2) (by have:=tG mY;omega) (zM mY) 0;have nX:=nM (l:=a0.Clients) (i:=a1.toNat) (x:=a2) (by have:=tG mY;omega) (zM mY) 1;have hsw:=mU (x:=a2) mY; .b (zdO ?_ ?_) λr2 DW=> .b (GP (have:=wD a0.Clients a1.toNat a2;?_) (have:=wD a0.Clients a1.toNat a2;?_) (have:=wD a0.Clients a1.toNat a2;?_) (have:=wD a0.Clients a1.toNat a2;?_)) λr3 pW=> .s ?_)
 all_goals (try simp only[NB]at *)<;>omega
def znX{a0 a1 a2 a3}(ha:wt a0≤900000000)(hb:wt a3≤900000000)(hc:TW a0)(hd:0≤a1∧a1≤2):Ok (Hr a0 a1 a2 a3) λr=>wt r.1≤1000∧wt r.2≤wt a0+100000∧wt r.2.Clients+wt r.2.S≤wt a0.Clients+wt a0.S+50000∧TW r.2:=by
 unfold Hr
 refine .c (λh1=> .b (zmZ ?_ ?_) λr1 QV=> .g ?_ (.b (zhb ?_) λr2 DW=> .s ?_))
  λh1=> .b (zgX ?_) λr3 pW=> .c (λh2=> .s ?_)
  λh2=> .h ?_ (.bg ?_ λe4 TY vY=> .b (zm3 ?_ ?_) λr5 RV=> .h ?_ (.m TY (have lY:=nM (l:=a0.Clients) (i:=(qA .i64 a1 1).toNat) (x:=r5.1) (by have:=tG TY;omega) (zM TY) 0;have nX:=nM (l:=a0.Clients) (i:=(qA .i64 a1 1).toNat) (x:=r5.1) (by have:=tG TY;omega) (zM TY) 1;have hsw:=mU (x:=r5.1) TY; .g ?_ (.b (zdO ?_ ?_) λr7 FW=> .s (have:=wD a0.Clients ((qA .i64 a1 1).toNat) r5.1;?_)))))
 all_goals (try simp only[NB]at *)<;>(try simp(disch:=omega) only[DA,SA]at *)<;>omega
def pT{a0 a1 a2 a3}(ha:wt a0≤800000000)(hb:wt a3≤900000000)(hc:TW a0)(hd:0≤a1∧a1≤2):Ok (Cz a0 a1 a2 a3) λr=>wt r≤wt a0+1200000∧wt r.Clients+wt r.S≤wt a0.Clients+wt a0.S+50000∧TW r:=by
 unfold Cz;refine .b (znX ?_ ?_ ?_ ?_) λr1 QV=> .b (GP ?_ ?_ ?_ ?_) λr2 DW=> .s ?_
 all_goals (try simp only[NB]at *)<;>omega
def zg7{a0 a1}(ha:wt a0≤900000000)(hb:wt a1≤4000000)(hc:TW a0):Ok (Fq a0 a1) λr=>wt r.2≤wt a0+4001000∧wt r.2.Clients+wt r.2.S≤wt a0.Clients+wt a0.S∧TW r.2:=by
 unfold Fq;refine have hk:=QB a0.Known;
 .b (zox ?_) λr1 QV=>have hl:=QB r1; .c (λh1=> .s ?_)
  λh1=> .g ?_ (.g ?_ (.g ?_ (.s ?_)))
 all_goals (try simp only[NB]at *)<;>(try simp(disch:=omega) only[DA,SA]at *)<;>omega
def zn8{a0}(ha:wt a0≤800000000)(hb:TW a0):Ok (Gx a0) λr=>wt r.1≤1000∧wt r.2≤wt a0+120000∧wt r.2.Clients+wt r.2.S≤wt a0.Clients+wt a0.S+60000∧TW r.2:=by
 unfold Gx
 refine .j (λy1:(List Ak)×Aa=>wt y1.1≤804∧wt y1.2≤wt a0+6000∧wt y1.2.Clients+wt y1.2.S≤wt a0.Clients+wt a0.S∧TW y1.2) (λy1 ZV=> .b (zmY ?_) λr9 FX=> .g ?_ (.s ?_))
  λk2 IV=> .l (λx3:(List Ak)×Int×Aa=>0≤x3.2.1∧x3.2.1≤2∧wt x3.1≤402 *x3.2.1∧wt x3.2.2≤wt a0+3000 *x3.2.1∧wt x3.2.2.Clients+wt x3.2.2.S≤wt a0.Clients+wt a0.S∧TW x3.2.2) (λx3:(List Ak)×Int×Aa=>(2 - x3.2.1).toNat) (λx3 WX k4 iW=> .c (λh1=> .h ?_ (.bg ?_ λe5 gX ZW=> .b (zmV ?_) λr6 vW=> .h ?_ (.m gX (have lY:=nM (l:=x3.2.2.Clients) (i:=x3.2.1.toNat) (x:=r6.1) (by have:=tG gX;omega) (zM gX) 0;have nX:=nM (l:=x3.2.2.Clients) (i:=x3.2.1.toNat) (x:=r6.1) (by have:=tG gX;omega) (zM gX) 1;have hsw:=mU (x:=r6.1) gX; .g ?_ (.b (zdO ?_ ?_) λr8 QW=> .g ?_ (iW _ (have:=wD x3.2.2.Clients x3.2.1.toNat r6.1;?_) (have:=wD x3.2.2.Clients x3.2.1.toNat r6.1;?_)))))))
  λh1=>IV _ ?_) ?_ ?_
 all_goals (try simp only[NB]at *)<;>(try simp(disch:=omega) only[DA,SA]at *)<;>omega
set_option maxHeartbeats 4000000 in
theorem zpo{a0 a1}(ha:wt a0≤400000000)(hb:wt a0.Clients+wt a0.S≤4000000)(hc:TW a0)(hd:0≤a1.I∧0≤a1.J∧0≤a1.N)(he:wt a1≤300000):Ok (Hw a0 a1) λr=>wt r.2≤wt a0+5100000∧wt r.2.Clients+wt r.2.S≤wt a0.Clients+wt a0.S+61000∧TW r.2:=by
 unfold Hw;refine have hsn:=QB a0.Seen;
 have hd1:=yH (a:=a1.I) (n:=2) ?_ ?_;
 have hd2:=yH (a:=a1.J) (n:=3) ?_ ?_;
 .jt (λy1=> .j (λy3:Ak=>wt y3≤wt a0) (λy3 z6=> .j (λy6:Aa=>wt y6≤wt a0+5100000∧wt y6.Clients+wt y6.S≤wt a0.Clients+wt a0.S+61000∧TW y6) (λy6 oZ=> .s ?_)
  λk7 wW=> .c (λh1=> .b (zcv ?_) λr8 QW=>have hn:wt (xE r8.2)=wt r8.2:=(by simp only[xE,dK,zE,FA,List.length_nil];omega); .h ?_ (.bg ?_ λe9 nZ bY=>have hie9:=tG nZ;have hve9:=eO nZ; .b (zpF ?_ ?_) λr10 uW=> .c (λh2=> .s ?_)
  λh2=> .m (zag ?_) (.g ?_ (.b (BV ?_ ?_ ?_ ?_ ?_ ?_ ?_ ?_) λr12 QX=>wW _ ?_))))
  λh1=> .j (λy13:Aa=>wt y13≤wt a0+5100000∧wt y13.Clients+wt y13.S≤wt a0.Clients+wt a0.S+61000∧TW y13) (λy13 eY=>wW _ ?_)
  λk14 eW=> .c (λh3=> .h ?_ (.bg ?_ λe15 AY BY=>have hie15:=tG AY;have hve15:=eO AY; .b (zmX ?_ ?_) λr16 TX=> .c (λh4=> .s ?_)
  λh4=> .b (BV ?_ ?_ ?_ ?_ ?_ ?_ ?_ ?_) λr17 A0=>eW _ ?_))
  λh3=> .j (λy18:Aa=>wt y18≤wt a0+5100000∧wt y18.Clients+wt y18.S≤wt a0.Clients+wt a0.S+61000∧TW y18) (λy18 C4=>eW _ ?_)
  λk19 pX=> .c (λh5=> .b (zm9 ?_ ?_) λr20 C0=> .c (λh6=> .s ?_)
  λh6=> .b (zhb ?_) λr21 S1=> .b (GP ?_ ?_ ?_ ?_) λr22 mX=>pX _ ?_)
  λh5=> .j (λy23:Aa=>wt y23≤wt a0+5100000∧wt y23.Clients+wt y23.S≤wt a0.Clients+wt a0.S+61000∧TW y23) (λy23 A4=>pX _ ?_)
  λk24 bX=> .c (λh7=> .c (λh8=> .s ?_)
  λh8=> .b (zn8 ?_ ?_) λr25 D0=> .b (GP ?_ ?_ ?_ ?_) λr26 yY=>bX _ ?_)
  λh7=> .j (λy27:Aa=>wt y27≤wt a0+5100000∧wt y27.Clients+wt y27.S≤wt a0.Clients+wt a0.S+61000∧TW y27) (λy27 hy27=>bX _ ?_)
  λk28 zY=> .c (λh9=> .h ?_ (.bg ?_ λe29 fY G7=>have hie29:=tG fY;have hve29:=eO fY; .b (zpM ?_) λr31 J6=> .h ?_ (.m fY (have lY:=nM (l:=a0.Clients) (i:=(zA .i64 a1.I 2).toNat) (x:=r31) (by have:=tG fY;omega) (zM fY) 0;have nX:=nM (l:=a0.Clients) (i:=(zA .i64 a1.I 2).toNat) (x:=r31) (by have:=tG fY;omega) (zM fY) 1;have hsw:=mU (x:=r31) fY;zY _ (have:=wD a0.Clients ((zA .i64 a1.I 2).toNat) r31;?_)))))
  λh9=> .j (λy33:Aa=>wt y33≤wt a0+5100000∧wt y33.Clients+wt y33.S≤wt a0.Clients+wt a0.S+61000∧TW y33) (λy33 hy33=>zY _ ?_)
  λk34 WY=> .c (λmW=> .h ?_ (.bg ?_ λe35 H7 he35w=>have hie35:=tG H7;have hve35:=eO H7; .b (zmK ?_) λr36 hr36=> .c (λGW=> .s ?_)
  λGW=> .b (BV ?_ ?_ ?_ ?_ ?_ ?_ ?_ ?_) λr37 I6=>WY _ ?_))
  λmW=> .j (λy38:Aa=>wt y38≤wt a0+5100000∧wt y38.Clients+wt y38.S≤wt a0.Clients+wt a0.S+61000∧TW y38) (λy38 I7=>WY _ ?_)
  λk39 Q0=> .c (λIW=> .b (iU ?_ ?_) λr40 hr40=> .c (λSW=> .s ?_)
  λSW=> .b (pT ?_ ?_ ?_ ?_) λr41 U1=>Q0 _ ?_)
  λIW=> .j (λy42:Aa=>wt y42≤wt a0+5100000∧wt y42.Clients+wt y42.S≤wt a0.Clients+wt a0.S+61000∧TW y42) (λy42 T1=>Q0 _ ?_)
  λk43 IX=> .c (λgY=> .b (pT ?_ ?_ ?_ ?_) λr45 hr45=>IX _ ?_)
  λgY=> .j (λy46:Aa=>wt y46≤wt a0+5100000∧wt y46.Clients+wt y46.S≤wt a0.Clients+wt a0.S+61000∧TW y46) (λy46 hy46=>IX _ ?_)
  λk47 H0=> .c (λiY=> .b (pT ?_ ?_ ?_ ?_) λr48 hr48=>H0 _ ?_)
  λiY=> .j (λy49:Aa=>wt y49≤wt a0+5100000∧wt y49.Clients+wt y49.S≤wt a0.Clients+wt a0.S+61000∧TW y49) (λy49 O6=>H0 _ ?_)
  λk50 I0=> .c (λoY=> .b (iU ?_ ?_) λr51 J7=> .j (λy52:Bool=>y52=false→0≤r51∧0<y3.B.length) (λy52 hy52=> .c (λYY=> .s ?_)
  λYY=>have i18:=hy52 YY;have hd4:=yH (a:=a1.N) (n:=(([]++y3.B).length:Int)) ?_ ?_; .g ?_ (.n ?_ (.h ?_ (.bg ?_ λe55 he55 he55w=> .h ?_ (.bg ?_ λe57 he57 he57w=> .b (pT (have:=wD ([]++y3.B) (zA .i64 a1.N (([]++y3.B).length:Int):Int).toNat (UInt8.ofNat (qB .u8 ((e55.toNat:Nat):Int) (IntKind.wrap .u8 (gA .i64 1 (zA .i64 a1.J 255)):Int):Int).toNat);?_) (have:=wD ([]++y3.B) (zA .i64 a1.N (([]++y3.B).length:Int):Int).toNat (UInt8.ofNat (qB .u8 ((e55.toNat:Nat):Int) (IntKind.wrap .u8 (gA .i64 1 (zA .i64 a1.J 255)):Int):Int).toNat);?_) (have:=wD ([]++y3.B) (zA .i64 a1.N (([]++y3.B).length:Int):Int).toNat (UInt8.ofNat (qB .u8 ((e55.toNat:Nat):Int) (IntKind.wrap .u8 (gA .i64 1 (zA .i64 a1.J 255)):Int):Int).toNat);?_) (have:=wD ([]++y3.B) (zA .i64 a1.N (([]++y3.B).length:Int):Int).toNat (UInt8.ofNat (qB .u8 ((e55.toNat:Nat):Int) (IntKind.wrap .u8 (gA .i64 1 (zA .i64 a1.J 255)):Int):Int).toNat);?_)) λr59 d7=>I0 _ ?_)))))
  λk53 K7=> .c (λ_=>K7 _ nofun)
  λqZ=>K7 _ λq20=>?_)
  λoY=> .j (λy60:Aa=>wt y60≤wt a0+5100000∧wt y60.Clients+wt y60.S≤wt a0.Clients+wt a0.S+61000∧TW y60) (λy60 W6=>I0 _ ?_)
  λk61 DY=> .c (λNZ=> .b (zpH ?_ ?_ ?_) λr62 hr62=> .c (λB1=> .s ?_)
  λB1=> .b (pT ?_ ?_ ?_ ?_) λr64 hr64=>DY _ ?_)
  λNZ=> .j (λy65:Aa=>wt y65≤wt a0+5100000∧wt y65.Clients+wt y65.S≤wt a0.Clients+wt a0.S+61000∧TW y65) (λy65 hy65=>DY _ ?_)
  λk66 L7=> .c (λOZ=> .b (zpO ?_) λr67 Y6=>have hl67:=QB r67.2; .c (λC1=> .s ?_)
  λC1=> .b (GP ?_ ?_ ?_ ?_) λr68 hr68=>L7 _ ?_)
  λOZ=> .j (λy69:Aa=>wt y69≤wt a0+5100000∧wt y69.Clients+wt y69.S≤wt a0.Clients+wt a0.S+61000∧TW y69) (λy69 hy69=>L7 _ ?_)
  λk70 K0=> .c (λL4=> .h ?_ (.bg ?_ λe71 he71 z7=> .c (λL8=> .s ?_)
  λL8=> .h ?_ (.bg ?_ λe72 M7 he72w=>have hie72:=tG M7;have hve72:=eO M7; .b (zpA ?_) λr73 hr73=> .b (BV ?_ ?_ ?_ ?_ ?_ ?_ ?_ ?_) λr74 hr74=>K0 _ ?_)))
  λL4=> .j (λy75:Aa=>wt y75≤wt a0+5100000∧wt y75.Clients+wt y75.S≤wt a0.Clients+wt a0.S+61000∧TW y75) (λy75 hy75=>K0 _ ?_)
  λk76 L0=> .c (λX4=> .b (zmI ?_) λr77 hr77=> .c (λU7=> .s ?_)
  λU7=> .b (GP ?_ ?_ ?_ ?_) λr78 hr78=>L0 _ ?_)
  λX4=> .c (λV7=> .j (λy79:Bool×Aa=>wt y79.2≤wt a0+5100000∧wt y79.2.Clients+wt y79.2.S≤wt a0.Clients+wt a0.S+61000∧TW y79.2) (λy79 hy79=> .s ?_)
  λk80 N7=> .h ?_ (.bg ?_ λe81 he81 he81w=> .c (λY4=> .h ?_ (.bg ?_ λe82 O7 he82w=>have hie82:=tG O7;have hve82:=eO O7; .b (zg7 ?_ ?_ ?_) λr83 hr83=>N7 _ ?_))
  λY4=>N7 _ ?_))
  λV7=> .c (λZ4=> .j (λy84:Bool×Aa=>wt y84.2≤wt a0+5100000∧wt y84.2.Clients+wt y84.2.S≤wt a0.Clients+wt a0.S+61000∧TW y84.2) (λy84 hy84=> .s ?_)
  λk85 I4=> .c (λM8=> .bi ?_ ?_ λe86 he86 he86w=> .c (λN8=> .bi ?_ ?_ λe87 he87 he87w=> .b (zg7 ?_ ?_ ?_) λr88 hr88=>I4 _ ?_)
  λN8=>I4 _ ?_)
  λM8=>I4 _ ?_)
  λZ4=> .j (λy89:Aa=>wt y89≤wt a0+5100000∧wt y89.Clients+wt y89.S≤wt a0.Clients+wt a0.S+61000∧TW y89) (λy89 hy89=>L0 _ ?_)
  λk90 M0=> .c (λO8=> .j (λy91:Aa=>wt y91≤wt a0+5100000∧wt y91.Clients+wt y91.S≤wt a0.Clients+wt a0.S+61000∧TW y91) (λy91 hy91=>M0 _ ?_)
  λk92 P7=> .c (λP8=> .b (zih ?_) λr93 hr93=>P7 _ ?_)
  λP8=> .b (zih ?_) λr94 hr94=>P7 _ ?_)
  λO8=>M0 _ ?_)
  λk4 iW=> .c (λQ8=> .c (λR8=> .s ?_)
  λR8=>have hd3:=yH (a:=a1.I) (n:=(a0.Seen.length:Int)) ?_ ?_; .n ?_ (.h ?_ (.bg ?_ λe5 gX ZW=>iW _ ?_)))
  λQ8=>iW _ ?_)
  λk2 IV=> .c (λ_=>IV _)
  λ_=>IV _
 all_goals (try simp only[NB]at *)<;>(try simp(disch:=omega) only[DA,SA]at *)<;>omega
end Go.D
namespace Go.D
end Go.D
namespace Go.D
end Go.D

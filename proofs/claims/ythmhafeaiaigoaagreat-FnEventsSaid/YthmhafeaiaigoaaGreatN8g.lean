/-
 The reference's machine comes to an end, and what it gives is small.
-/
import Derived.Test.YthmhafeaiaigoaaGreatN8c
set_option linter.all false
namespace Go.D
def nd(k:Int):Int:=if k≤3 then 0 else if k=4∨k=9 then 1 else if k=10 then 3 else 2
def zxH(k:Int):0≤nd k∧nd k≤3∧(k=4→nd k=1)∧(k=5→nd k=2)∧(k=6→nd k=2)∧(k=7→nd k=2)∧(k=8→nd k=2)∧(k=9→nd k=1)∧(k=10→nd k=3):=by
 unfold nd
 repeat' split
 all_goals omega
def zaW{a0}(ha:0≤a0∧a0≤10):Ok (Dk a0) λr=>r=nd a0∧0≤nd a0∧nd a0≤3:=by
 have:a0=0∨a0=1∨a0=2∨a0=3∨a0=4∨a0=5∨a0=6∨a0=7∨a0=8∨a0=9∨a0=10:=by omega
 rcases this with rfl | rfl | rfl | rfl | rfl | rfl | rfl | rfl | rfl | rfl | rfl<;>exact⟨_,rfl,by decide⟩
def zjq{a0}(ha:mA a0):Ok (Kj a0) λr=>mA r.2∧r.1.B.length≤32∧1≤r.1.Kind∧r.1.Kind≤10:=by
 unfold Kj
 refine .b (YA (1) (10) ?_ (by simp) (by decide)) λr1 OV=> .j (λy2:Af×Bc=>mA y2.1∧y2.2.B.length≤32∧1≤y2.2.Kind∧y2.2.Kind≤10) (λy2 xW=> .b (RA ?_) λr6 vW=> .b (YA (0) (16) ?_ (by simp) (by decide)) λr7 IW=> .s ?_)
  λk3 KV=> .c (λh1=> .b (YA (0) (32) ?_ (by simp) (by decide)) λr4 VV=> .b (KB ?_ ?_) λr5 RV=>KV _ ?_)
  λh1=>KV _ ?_
 all_goals (try simp only[NB]at *)<;>omega
def zpa{a0 a1}(ha:mA a0)(hb:0<a1∧a1≤20):Ok (Iy a0 a1) λr=>mA r.2∧wt r.1≤1000:=by
 unfold Iy
 refine .b (RA ?_) λr1 OV=> .j (λy2:(List Bc)×Int×Af=>mA y2.2.2∧wt y2.1≤700∧y2.2.1≤21) (λy2 xW=> .j (λy16:(List Bc)=>wt y16≤1000) (λy16 qY=> .s ?_)
  λk17 lW=> .l (λx18:(List Bc)×Int=>wt x18.1+x18.2≤730∧wt x18.1≤729∧x18.2≤30) (λx18:(List Bc)×Int=>x18.2.toNat) (λx18 H7 k19 GW=> .c (λh1=> .g ?_ (GW _ ?_ ?_))
  λh1=>lW _ ?_) ?_ ?_)
  λk3 KV=> .l (λx4:(List Bc)×Int×Int×Af=>0≤x4.2.2.1∧x4.2.2.1≤20∧wt x4.1+33 *x4.2.2.1≤660∧x4.2.1+x4.2.2.1≤20∧ -2 *20≤x4.2.1 - 2 *x4.2.2.1∧mA x4.2.2.2) (λx4:(List Bc)×Int×Int×Af=>x4.2.2.1.toNat) (λx4 P5 k5 gW=> .c (λh2=> .b (zjq ?_) λr6 vW=> .j (λy7:Af×Bc=>mA y7.1∧y7.2.B.length≤32∧1≤y7.2.Kind∧y7.2.Kind≤10) (λy7 xY=> .b (zaW ?_) λr15 PW=> .g ?_ (gW _ ?_ ?_))
  λk8 sW=> .l (λx9:Int×Af×Bc=>0≤x9.1∧x9.1≤6∧mA x9.2.1∧x9.2.2.B.length≤32∧1≤x9.2.2.Kind∧x9.2.2.Kind≤10) (λx9:Int×Af×Bc=>(6 - x9.1).toNat) (λx9 hx9 k10 QV=> .j (λy11:Bool=>y11=true→x9.1<6) (λy11 GY=> .c (λh3=>have i4:=GY h3; .b (zjq ?_) λr14 nX=>QV _ ?_ ?_)
  λh3=>sW _ ?_)
  λk12 ZV=> .c (λh5=> .b (zaW ?_) λr13 eX=>ZV _ λq6=>?_)
  λ_=>ZV _ nofun) ?_ ?_)
  λh2=>KV _ ?_) ?_ ?_
 all_goals (try simp only[NB]at *)<;>(try simp(disch:=omega) only[DA,JA]at *)<;>omega
def zq9{a0}(ha:mA a0):Ok (Iz a0) λr=>mA r.2.2∧r.2.1.length≤40:=by
 unfold Iz
 refine .b (RA ?_) λr1 OV=> .c (λh1=> .b (RA ?_) λr2 fW=> .b (KB ?_ ?_) λr3 tW=> .s ?_)
  λh1=> .c (λh2=> .b (RA ?_) λr4 VV=> .b (KB ?_ ?_) λr5 RV=> .s ?_)
  λh2=> .b (YA (0) (40) ?_ (by simp) (by decide)) λr6 vW=> .b (KB ?_ ?_) λr7 IW=> .s ?_
 all_goals (try simp only[NB]at *)<;>(try simp(disch:=omega) only[DA,JA]at *)<;>omega
def zix{a0 a1 a2 a3}(ha:mA a0)(hb:wt a1≤900000000)(hc:2≤a1.Clients.length):Ok (Kk a0 a1 a2 a3) λr=>wt r.1≤3000∧mA r.2.1:=by
 unfold Kk;refine have tY:=FB a1.Known;
 .b (RA ?_) λr1 OV=> .b (RA ?_) λr2 fW=> .b (RA ?_) λr3 tW=> .j (λy4:Bool×Af=>mA y4.2) (λy4 BY=> .c (λh1=> .s ?_)
  λh1=> .j (λy7:Bool×Af=>mA y7.2) (λy7 xY=> .c (λh2=> .s ?_)
  λh2=> .b (RA ?_) λr11 zW=> .jt (λy12=> .j (λy16:Am×Af×Am=>wt y16.1≤3000∧mA y16.2.1) (λy16 qY=> .s ?_)
  λk17 lW=> .c (λh3=> .b (RA ?_) λr18 ZX=> .b (KB ?_ ?_) λr19 FX=>lW _ ?_)
  λh3=> .jt (λy20=> .j (λy22:Am×Af×Am=>wt y22.1≤3000∧mA y22.2.1) (λy22 Y4=>lW _ ?_)
  λk23 aY=> .c (λh4=> .b (RA ?_) λr24 vX=> .b (RA ?_) λr25 wX=> .b (KB ?_ ?_) λr26 JX=>aY _ ?_)
  λh4=> .jt (λy27=> .j (λy29:Am×Af×Am=>wt y29.1≤3000∧mA y29.2.1) (λy29 o7=>aY _ ?_)
  λk30 XY=> .c (λh5=>XY _ ?_)
  λh5=> .j (λy31:Am×Af×Am=>wt y31.1≤3000∧mA y31.2.1) (λy31 t5=>XY _ ?_)
  λk32 aZ=> .c (λh6=>aZ _ ?_)
  λh6=> .jt (λy33=> .j (λy35:Am×Af×Am=>wt y35.1≤3000∧mA y35.2.1) (λy35 s7=>aZ _ ?_)
  λk36 pY=> .c (λh7=>pY _ ?_)
  λh7=> .b (RA ?_) λr37 d5=> .b (RA ?_) λr38 hr38=> .j (λy39:Bool×Af=>mA y39.2) (λy39 hy39=> .j (λy42:Af×Am=>mA y42.1∧wt y42.2≤500) (λy42 U2=> .b (RA ?_) λr46 hr46=> .c (λh8=> .s ?_)
  λh8=> .b (RA ?_) λr47 hr47=> .jt (λy48=> .j (λy50:Am×Af=>wt y50.1≤3000∧mA y50.2) (λy50 hy50=>pY _ ?_)
  λk51 E1=> .c (λh9=> .b (zpa ?_ ?_) λr52 hr52=> .j (λy53:Af×Am=>mA y53.1∧wt y53.2≤3000) (λy53 hy53=>E1 _ ?_)
  λk54 I7=> .c (λuW=> .b (RA ?_) λr55 hr55=> .bi ?_ ?_ λe56 he56 C7=> .j (λy57:Bool×Af=>mA y57.2) (λy57 hy57=> .j (λy60:(List UInt8)=>y60.length≤900000000) (λy60 J7=> .b (zq9 ?_) λr63 hr63=> .bi ?_ ?_ λe64 he64 K7=> .b (RA ?_) λr65 hr65=> .b (RA ?_) λr66 hr66=> .b (RA ?_) λr67 L7=> .b (zrA ?_ ?_ ?_) λr68 hr68=> .j (λy69:Am=>wt y69≤3000) (λy69 hy69=>I7 _ ?_)
  λk70 F1=> .c (λHW=>F1 _ ?_)
  λHW=>F1 _ ?_)
  λk61 bZ=> .c (λWW=> .bi ?_ ?_ λe62 he62 M7=>bZ _ ?_)
  λWW=>bZ _ ?_)
  λk58 N7=> .c (λoX=>N7 _ ?_)
  λoX=> .b (KE ?_) λr59 O7=>N7 _ ?_)
  λuW=>I7 _ ?_)
  λh9=> .j (λy71:Am×Af=>wt y71.1≤3000∧mA y71.2) (λy71 hy71=>E1 _ ?_)
  λk72 P7=> .c (λJY=>P7 _ ?_)
  λJY=> .j (λy73:Am×Af=>wt y73.1≤3000∧mA y73.2) (λy73 hy73=>P7 _ ?_)
  λk74 Q7=> .c (λKY=>Q7 _ ?_)
  λKY=> .j (λy75:Am×Af=>wt y75.1≤3000∧mA y75.2) (λy75 hy75=>Q7 _ ?_)
  λk76 I1=> .c (λPY=> .b (RA ?_) λr77 hr77=>I1 _ ?_)
  λPY=> .j (λy78:Am×Af=>wt y78.1≤3000∧mA y78.2) (λy78 hy78=>I1 _ ?_)
  λk79 R7=> .c (λyZ=>R7 _ ?_)
  λyZ=> .j (λy80:Am×Af=>wt y80.1≤3000∧mA y80.2) (λy80 hy80=>R7 _ ?_)
  λk81 S7=> .c (λN1=> .b (RA ?_) λr82 hr82=>S7 _ ?_)
  λN1=> .j (λy83:Af×Am=>mA y83.1∧wt y83.2≤3000) (λy83 hy83=>S7 _ ?_)
  λk84 T7=> .c (λOZ=> .b (KE ?_) λr85 hr85=> .j (λy86:Am×Af=>wt y86.1≤3000∧mA y86.2) (λy86 hy86=>T7 _ ?_)
  λk87 U7=> .c (λPZ=> .b (RA ?_) λr88 hr88=>U7 _ ?_)
  λPZ=>U7 _ ?_)
  λOZ=> .j (λy89:Am×Af=>wt y89.1≤3000∧mA y89.2) (λy89 hy89=>T7 _ ?_)
  λk90 J1=> .c (λW1=> .b (YA (2) (4) ?_ (by simp) (by decide)) λr91 hr91=> .b (YA (24) (44) ?_ (by simp) (by decide)) λr92 hr92=>J1 _ ?_)
  λW1=>J1 _ ?_)
  λk49 L1=> .c (λ_=>L1 _)
  λ_=>L1 _)
  λk43 cY=> .c (λI0=> .b (RA ?_) λr44 s5=>cY _ ?_)
  λI0=>cY _ ?_)
  λk40 B0=> .c (λY1=> .b (KE ?_) λr41 B1=>B0 _ ?_)
  λY1=>B0 _ ?_)
  λk34 wZ=> .c (λ_=>wZ _)
  λ_=>wZ _)
  λk28 gX=> .c (λ_=>gX _)
  λ_=>gX _)
  λk21 aW=> .c (λ_=>aW _)
  λ_=>aW _)
  λk13 iW=> .c (λ_=>iW _)
  λH8=> .jt (λy14=>iW _)
  λk15 QW=> .c (λ_=>QW _)
  λ_=>QW _)
  λk8 sW=> .bi ?_ ?_ λe9 MZ CY=> .c (λS5=> .b (KE ?_) λr10 pW=>sW _ ?_)
  λS5=>sW _ ?_)
  λk5 gW=> .c (λT5=> .b (KE ?_) λr6 vW=>gW _ ?_)
  λT5=>gW _ ?_
 all_goals (try simp only[NB]at *)<;>(try simp(disch:=omega) only[DA,JA]at *)<;>omega
def zqL{a0}:Ok (Da a0) λr=>(True)∧(r=true→1≤a0.Kind∧a0.Kind≤10∧a0.B.length≤200∧0≤a0.I∧0≤a0.J):=by
 unfold Da
 refine .j (λy1:Bool=>y1=true→1≤a0.Kind∧a0.Kind≤10∧a0.B.length≤200∧0≤a0.I∧0≤a0.J) (λy1 mW=> .s ⟨trivial,λq1=>have i2:=mW q1;?_⟩)
  λk2 JV=> .c (λh3=> .c (λh4=> .c (λh5=>JV _ λq6=>?_)
  λ_=>JV _ nofun)
  λ_=>JV _ nofun)
  λ_=>JV _ nofun
 all_goals (try simp only[NB]at *)<;>omega
def zr9{a0 a1 a2}(ha:wt a0≤300000)(hb:wt a1≤500000000)(hc:wt a2≤500000000):Ok (Fs a0 a1 a2) λr=>r.1.length≤10000:=by
 unfold Fs
 refine .c (λh1=> .s ?_)
  λh1=> .j (λy1:(List (List UInt8))=>wt y1≤3300) (λy1 mW=>have hyw:=FB y1; .c (λh2=> .s ?_)
  λh2=> .h ?_ (.bg ?_ λe71 he71 V7=> .g ?_ (.s ?_)))
  λk2 JV=> .l (λx3:(List (List UInt8))×Int=>0≤x3.2∧x3.2≤(a0.length:Int)∧wt x3.1≤201 *x3.2) (λx3:(List (List UInt8))×Int=>((a0.length:Int) - x3.2).toNat) (λx3 DY k4 TV=>have hpw:=FB x3.1; .c (λh3=> .bi ?_ ?_ λe5 CX uX=>have S4:=zxH e5.Kind; .j (λy6:Bool=>y6=false→1≤e5.Kind∧e5.Kind≤10∧e5.B.length≤200∧0≤e5.I∧0≤e5.J∧nd e5.Kind≤(x3.1.length:Int)) (λy6 yX=> .c (λh4=> .s ?_)
  λh4=>have i5:=yX h4; .b (zaW ?_) λr10 pW=> .j (λy11:(List UInt8)=>y11.length≤500000000) (λy11 GY=> .j (λy68:Bool=>y68=false→y11.length≤200) (λy68 hy68=> .c (λh6=> .s ?_)
  λh6=>have i7:=hy68 h6; .h ?_ (.g (have:=VD x3.1 ((sA .i64 (x3.1.length:Int) r10 - 0).toNat);?_) (TV _ (have:=VD x3.1 ((sA .i64 (x3.1.length:Int) r10 - 0).toNat);?_) (have:=VD x3.1 ((sA .i64 (x3.1.length:Int) r10 - 0).toNat);?_))))
  λk69 W7=> .c (λ_=>W7 _ nofun)
  λh8=>W7 _ λq9=>?_)
  λk12 ZV=> .c (λuW=> .g ?_ (ZV _ ?_))
  λuW=> .j (λy13:(List UInt8)=>y13.length≤500000000) (λy13 GX=>ZV _ ?_)
  λk14 SV=> .c (λHW=> .c (λWW=> .s ?_)
  λWW=> .bi ?_ ?_ λe15 YY ZY=> .g ?_ (SV _ ?_))
  λHW=> .j (λy16:(List UInt8)=>y16.length≤500000000) (λy16 qY=>SV _ ?_)
  λk17 lW=> .c (λoX=> .c (λJY=> .s ?_)
  λJY=> .bi ?_ ?_ λe18 o5 A1=> .g ?_ (lW _ ?_))
  λoX=> .j (λy19:(List UInt8)=>y19.length≤500000000) (λy19 hy19=>lW _ ?_)
  λk20 dY=> .c (λKY=> .h ?_ (.bg ?_ λe21 he21 he21w=> .b (zw2 ?_) λr22 fX=> .c (λPY=> .s ?_)
  λPY=>dY _ ?_))
  λKY=> .j (λy23:(List UInt8)=>y23.length≤500000000) (λy23 uZ=>dY _ ?_)
  λk24 qW=> .c (λyZ=> .h ?_ (.bg ?_ λe25 he25 X7=> .g ?_ (.h ?_ (.bg ?_ λe27 Y7 T3=> .g ?_ (qW _ ?_)))))
  λyZ=> .j (λy28:(List UInt8)=>y28.length≤500000000) (λy28 v5=>qW _ ?_)
  λk29 eY=> .c (λN1=> .h ?_ (.bg ?_ λe30 Z7 he30w=> .h ?_ (.bg ?_ λe32 b8 d8=> .c (λOZ=> .s ?_)
  λOZ=> .j (λy33:(List UInt8)=>y33.length≤500000000) (λy33 hy33=>eY _ ?_)
  λk34 wZ=> .l (λx35:(List UInt8)×Int=>0≤x35.2∧x35.2≤(e30.length:Int)∧(x35.1.length:Int)=x35.2) (λx35:(List UInt8)×Int=>((e30.length:Int) - x35.2).toNat) (λx35 hx35 k36 pY=> .h ?_ (.m Z7 (.c (λPZ=> .h ?_ (.m Z7 (.bi ?_ ?_ λe39 he39 he39w=> .h ?_ (.m b8 (.bi ?_ ?_ λe42 he42 he42w=> .g ?_ (pY _ ?_ ?_))))))
  λPZ=>wZ _ ?_))) ?_ ?_)))
  λN1=> .j (λy44:(List UInt8)=>y44.length≤500000000) (λy44 hy44=>eY _ ?_)
  λk45 g8=> .c (λW1=> .h ?_ (.bg ?_ λe46 he46 he46w=> .h ?_ (.bg ?_ λe48 he48 he48w=>have hhm:=qL e46 e48;g8 _ ?_)))
  λW1=> .j (λy50:(List UInt8)=>y50.length≤500000000) (λy50 hy50=>g8 _ ?_)
  λk51 E1=> .c (λX1=> .h ?_ (.bg ?_ λe52 he52 he52w=> .h ?_ (.bg ?_ λe54 he54 he54w=> .b bV λr55 hr55=>E1 _ ?_)))
  λX1=> .j (λy56:(List UInt8)=>y56.length≤500000000) (λy56 hy56=>E1 _ ?_)
  λk57 j8=> .c (λI0=> .h ?_ (.bg ?_ λe58 he58 D7=> .b (oM ?_) λr59 O7=>j8 _ ?_))
  λI0=> .j (λy60:(List UInt8)=>y60.length≤500000000) (λy60 J7=>j8 _ ?_)
  λk61 bZ=> .c (λY1=> .h ?_ (.bg ?_ λe62 he62 M7=> .h ?_ (.bg ?_ λe64 he64 K7=> .h ?_ (.bg ?_ λe66 he66 he66w=> .b (zfK ?_ ?_) λr67 L7=>bZ _ ?_))))
  λY1=>bZ _ ?_)
  λk7 UV=> .b zqL λr8 ⟨BW,hr8i⟩=> .c (λ_=>UV _ nofun)
  λD5=>have i26:=hr8i (nf D5); .b (zaW ?_) λr9 SW=>UV _ λq27=>?_)
  λh3=>JV _ ?_) ?_ ?_
 all_goals (try simp only[NB]at *)<;>(try simp(disch:=omega) only[DA,JA]at *)<;>omega
def zjs{a0 a1}(ha:wt a0≤1000000000):Ok (Fu a0 a1) λr=>wt r≤wt a0:=by
 unfold Fu
 refine .m (pA ?_) (.jt (λy2=> .j (λy4:Au=>wt y4≤wt a0) (λy4 BY=> .s ?_)
  λk5 gW=> .c (λh1=>gW _ ?_)
  λh1=>gW _ ?_)
  λk3 KV=> .c (λ_=>KV _)
  λ_=>KV _)
 all_goals (try simp only[NB]at *)<;>omega
def lQ{a0 a1 a2}(ha:wt a0≤1000000000)(hb:wt a1≤1000)(hc:wt a2≤1000000)(hd:TW a0):Ok (Cc a0 a1 a2) λr=>wt r≤wt a0+1003000+wt a2∧wt r.Clients+wt r.S≤wt a0.Clients+wt a0.S∧TW r:=by
 unfold Cc;refine have hw:=FB a1;
 .j (λy1:Ab=>wt y1≤wt a0+1003000∧wt y1.Clients+wt y1.S≤wt a0.Clients+wt a0.S∧TW y1) (λy1 mW=> .g ?_ (.s ?_))
  λk2 JV=> .l (λx3:Int×Ab=>0≤x3.1∧x3.1≤(a1.length:Int)∧wt x3.2≤wt a0+1001 *x3.1∧wt x3.2.Clients+wt x3.2.S≤wt a0.Clients+wt a0.S∧TW x3.2) (λx3:Int×Ab=>((a1.length:Int) - x3.1).toNat) (λx3 DY k4 TV=> .c (λh1=> .j (λy5:Ab=>wt y5≤wt a0+1001 *x3.1+1001∧wt y5.Clients+wt y5.S≤wt a0.Clients+wt a0.S∧TW y5) (λy5 d7=>TV _ ?_ ?_)
  λk6 OW=> .c (λh2=> .bi ?_ ?_ λe7 YZ EY=> .g ?_ (OW _ ?_))
  λh2=>OW _ ?_)
  λh1=>JV _ ?_) ?_ ?_
 all_goals (try simp only[NB]at *)<;>(try simp(disch:=omega) only[DA,JA]at *)<;>omega
def zaM{a0 a1 a2 a3 a4}(ha:wt a0≤900000000)(hb:wt a2≤zhz a0.Clients a1.toNat+2000)(hc:a3.length≤3)(hd:wt a3≤1000000)(he:wt a4≤1000000)(hf:TW a0)(hg:0≤a1∧a1≤1)(hh:a2.Id=zJ a0.Clients a1.toNat):Ok (Dl a0 a1 a2 a3 a4) λr=>wt r≤wt a0+1006000+wt a4∧wt r.Clients+wt r.S≤wt a0.Clients+wt a0.S+2000∧TW r:=by
 unfold Dl;refine .h ?_ (.bg ?_ λe1 NY m7=>have hwa:=tO NY;have MY:=zM (l:=a0.Clients) (i:=a1.toNat) (x:=a2) (by have:=GG NY;omega) (PM NY) 0;have HX:=zM (l:=a0.Clients) (i:=a1.toNat) (x:=a2) (by have:=GG NY;omega) (PM NY) 1;have n9:=mS (x:=a2) NY; .b (ze0 ?_ ?_) λr2 fW=> .b (lQ (have:=EC a0.Clients a1.toNat a2;?_) (have:=EC a0.Clients a1.toNat a2;?_) (have:=EC a0.Clients a1.toNat a2;?_) (have:=EC a0.Clients a1.toNat a2;?_)) λr3 tW=> .s ?_)
 all_goals (try simp only[NB]at *)<;>omega
def zqe{a0 a1 a2 a3}(ha:wt a0≤900000000)(hb:wt a3≤900000000)(hc:TW a0)(hd:0≤a1∧a1≤2):Ok (Hn a0 a1 a2 a3) λr=>wt r.1≤1000∧wt r.2≤wt a0+100000∧wt r.2.Clients+wt r.2.S≤wt a0.Clients+wt a0.S+50000∧TW r.2:=by
 unfold Hn
 refine .c (λh1=> .b (zo4 ?_ ?_) λr1 OV=> .g ?_ (.b (ziN ?_) λr2 fW=> .s ?_))
  λh1=> .b (zii ?_) λr3 tW=> .c (λh2=> .s ?_)
  λh2=> .h ?_ (.bg ?_ λe4 tZ WY=> .b (zeN ?_ ?_) λr5 RV=> .h ?_ (.m tZ (have MY:=zM (l:=a0.Clients) (i:=(sA .i64 a1 1).toNat) (x:=r5.1) (by have:=GG tZ;omega) (PM tZ) 0;have HX:=zM (l:=a0.Clients) (i:=(sA .i64 a1 1).toNat) (x:=r5.1) (by have:=GG tZ;omega) (PM tZ) 1;have n9:=mS (x:=r5.1) tZ; .g ?_ (.b (ze0 ?_ ?_) λr7 IW=> .s (have:=EC a0.Clients ((sA .i64 a1 1).toNat) r5.1;?_)))))
 all_goals (try simp only[NB]at *)<;>(try simp(disch:=omega) only[DA,JA]at *)<;>omega
def ZT{a0 a1 a2 a3}(ha:wt a0≤800000000)(hb:wt a3≤900000000)(hc:TW a0)(hd:0≤a1∧a1≤2):Ok (Cz a0 a1 a2 a3) λr=>wt r≤wt a0+1200000∧wt r.Clients+wt r.S≤wt a0.Clients+wt a0.S+50000∧TW r:=by
 unfold Cz;refine .b (zqe ?_ ?_ ?_ ?_) λr1 OV=> .b (lQ ?_ ?_ ?_ ?_) λr2 fW=> .s ?_
 all_goals (try simp only[NB]at *)<;>omega
def ziF{a0 a1}(ha:wt a0≤900000000)(hb:wt a1≤4000000)(hc:TW a0):Ok (Ft a0 a1) λr=>wt r.2≤wt a0+4001000∧wt r.2.Clients+wt r.2.S≤wt a0.Clients+wt a0.S∧TW r.2:=by
 unfold Ft;refine have hk:=FB a0.Known;
 .b (zq1 ?_) λr1 OV=>have hl:=FB r1; .c (λh1=> .s ?_)
  λh1=> .g ?_ (.g ?_ (.g ?_ (.s ?_)))
 all_goals (try simp only[NB]at *)<;>(try simp(disch:=omega) only[DA,JA]at *)<;>omega
def zqg{a0}(ha:wt a0≤800000000)(hb:TW a0):Ok (Gy a0) λr=>wt r.1≤1000∧wt r.2≤wt a0+120000∧wt r.2.Clients+wt r.2.S≤wt a0.Clients+wt a0.S+60000∧TW r.2:=by
 unfold Gy
 refine .j (λy1:(List Ap)×Ab=>wt y1.1≤804∧wt y1.2≤wt a0+6000∧wt y1.2.Clients+wt y1.2.S≤wt a0.Clients+wt a0.S∧TW y1.2) (λy1 mW=> .b (zo7 ?_) λr9 SW=> .g ?_ (.s ?_))
  λk2 JV=> .l (λx3:(List Ap)×Int×Ab=>0≤x3.2.1∧x3.2.1≤2∧wt x3.1≤402 *x3.2.1∧wt x3.2.2≤wt a0+3000 *x3.2.1∧wt x3.2.2.Clients+wt x3.2.2.S≤wt a0.Clients+wt a0.S∧TW x3.2.2) (λx3:(List Ap)×Int×Ab=>(2 - x3.2.1).toNat) (λx3 DY k4 TV=> .c (λh1=> .h ?_ (.bg ?_ λe5 CX uX=> .b (zoZ ?_) λr6 vW=> .h ?_ (.m CX (have MY:=zM (l:=x3.2.2.Clients) (i:=x3.2.1.toNat) (x:=r6.1) (by have:=GG CX;omega) (PM CX) 0;have HX:=zM (l:=x3.2.2.Clients) (i:=x3.2.1.toNat) (x:=r6.1) (by have:=GG CX;omega) (PM CX) 1;have n9:=mS (x:=r6.1) CX; .g ?_ (.b (ze0 ?_ ?_) λr8 BW=> .g ?_ (TV _ (have:=EC x3.2.2.Clients x3.2.1.toNat r6.1;?_) (have:=EC x3.2.2.Clients x3.2.1.toNat r6.1;?_)))))))
  λh1=>JV _ ?_) ?_ ?_
 all_goals (try simp only[NB]at *)<;>(try simp(disch:=omega) only[DA,JA]at *)<;>omega
set_option maxHeartbeats 4000000 in
theorem zjk{a0 a1}(ha:wt a0≤400000000)(hb:wt a0.Clients+wt a0.S≤4000000)(hc:TW a0)(hd:0≤a1.I∧0≤a1.J∧0≤a1.N)(he:wt a1≤300000):Ok (Fv a0 a1) λr=>wt r.2≤wt a0+5100000∧wt r.2.Clients+wt r.2.S≤wt a0.Clients+wt a0.S+61000∧TW r.2:=by
 unfold Fv;refine have hsn:=FB a0.Seen;
 have hd1:=mI (a:=a1.I) (n:=2) ?_ ?_;
 have hd2:=mI (a:=a1.J) (n:=3) ?_ ?_;
 .jt (λy1=> .j (λy3:Ap=>wt y3≤wt a0) (λy3 OY=> .j (λy6:Ab=>wt y6≤wt a0+5100000∧wt y6.Clients+wt y6.S≤wt a0.Clients+wt a0.S+61000∧TW y6) (λy6 yX=> .s ?_)
  λk7 UV=> .c (λh1=> .b (zdC ?_) λr8 BW=>have hn:wt (LE r8.2)=wt r8.2:=(by simp only[LE,dJ,NE,FA,List.length_nil];omega); .h ?_ (.bg ?_ λe9 MZ CY=>have hie9:=GG MZ;have hve9:=tO MZ; .b (zjR ?_ ?_) λr10 pW=> .c (λh2=> .s ?_)
  λh2=> .m (za6 ?_) (.g ?_ (.b (zaM ?_ ?_ ?_ ?_ ?_ ?_ ?_ ?_) λr12 yW=>UV _ ?_))))
  λh1=> .j (λy13:Ab=>wt y13≤wt a0+5100000∧wt y13.Clients+wt y13.S≤wt a0.Clients+wt a0.S+61000∧TW y13) (λy13 GX=>UV _ ?_)
  λk14 SV=> .c (λh3=> .h ?_ (.bg ?_ λe15 YY ZY=>have hie15:=GG YY;have hve15:=tO YY; .b (zoH ?_ ?_) λr16 jX=> .c (λh4=> .s ?_)
  λh4=> .b (zaM ?_ ?_ ?_ ?_ ?_ ?_ ?_ ?_) λr17 YX=>SV _ ?_))
  λh3=> .j (λy18:Ab=>wt y18≤wt a0+5100000∧wt y18.Clients+wt y18.S≤wt a0.Clients+wt a0.S+61000∧TW y18) (λy18 A0=>SV _ ?_)
  λk19 GW=> .c (λh5=> .b (zo6 ?_ ?_) λr20 FY=> .c (λh6=> .s ?_)
  λh6=> .b (ziN ?_) λr21 o0=> .b (lQ ?_ ?_ ?_ ?_) λr22 fX=>GW _ ?_)
  λh5=> .j (λy23:Ab=>wt y23≤wt a0+5100000∧wt y23.Clients+wt y23.S≤wt a0.Clients+wt a0.S+61000∧TW y23) (λy23 uZ=>GW _ ?_)
  λk24 qW=> .c (λh7=> .c (λh8=> .s ?_)
  λh8=> .b (zqg ?_ ?_) λr25 wX=> .b (lQ ?_ ?_ ?_ ?_) λr26 JX=>qW _ ?_)
  λh7=> .j (λy27:Ab=>wt y27≤wt a0+5100000∧wt y27.Clients+wt y27.S≤wt a0.Clients+wt a0.S+61000∧TW y27) (λy27 n5=>qW _ ?_)
  λk28 gX=> .c (λh9=> .h ?_ (.bg ?_ λe29 HY m8=>have hie29:=GG HY;have hve29:=tO HY; .b (zsu ?_) λr31 m5=> .h ?_ (.m HY (have MY:=zM (l:=a0.Clients) (i:=(zA .i64 a1.I 2).toNat) (x:=r31) (by have:=GG HY;omega) (PM HY) 0;have HX:=zM (l:=a0.Clients) (i:=(zA .i64 a1.I 2).toNat) (x:=r31) (by have:=GG HY;omega) (PM HY) 1;have n9:=mS (x:=r31) HY;gX _ (have:=EC a0.Clients ((zA .i64 a1.I 2).toNat) r31;?_)))))
  λh9=> .j (λy33:Ab=>wt y33≤wt a0+5100000∧wt y33.Clients+wt y33.S≤wt a0.Clients+wt a0.S+61000∧TW y33) (λy33 hy33=>gX _ ?_)
  λk34 wZ=> .c (λuW=> .h ?_ (.bg ?_ λe35 n8 he35w=>have hie35:=GG n8;have hve35:=tO n8; .b (zot ?_) λr36 V2=> .c (λHW=> .s ?_)
  λHW=> .b (zaM ?_ ?_ ?_ ?_ ?_ ?_ ?_ ?_) λr37 d5=>wZ _ ?_))
  λuW=> .j (λy38:Ab=>wt y38≤wt a0+5100000∧wt y38.Clients+wt y38.S≤wt a0.Clients+wt a0.S+61000∧TW y38) (λy38 z5=>wZ _ ?_)
  λk39 cZ=> .c (λWW=> .b (zcc ?_ ?_) λr40 hr40=> .c (λoX=> .s ?_)
  λoX=> .b (ZT ?_ ?_ ?_ ?_) λr41 B1=>cZ _ ?_)
  λWW=> .j (λy42:Ab=>wt y42≤wt a0+5100000∧wt y42.Clients+wt y42.S≤wt a0.Clients+wt a0.S+61000∧TW y42) (λy42 U2=>cZ _ ?_)
  λk43 cY=> .c (λJY=> .b (ZT ?_ ?_ ?_ ?_) λr45 hr45=>cY _ ?_)
  λJY=> .j (λy46:Ab=>wt y46≤wt a0+5100000∧wt y46.Clients+wt y46.S≤wt a0.Clients+wt a0.S+61000∧TW y46) (λy46 hy46=>cY _ ?_)
  λk47 C1=> .c (λKY=> .b (ZT ?_ ?_ ?_ ?_) λr48 hr48=>C1 _ ?_)
  λKY=> .j (λy49:Ab=>wt y49≤wt a0+5100000∧wt y49.Clients+wt y49.S≤wt a0.Clients+wt a0.S+61000∧TW y49) (λy49 B7=>C1 _ ?_)
  λk50 D1=> .c (λPY=> .b (zcc ?_ ?_) λr51 o8=> .j (λy52:Bool=>y52=false→0≤r51∧0<y3.B.length) (λy52 hy52=> .c (λyZ=> .s ?_)
  λyZ=>have i18:=hy52 yZ;have hd4:=mI (a:=a1.N) (n:=(([]++y3.B).length:Int)) ?_ ?_; .g ?_ (.n ?_ (.h ?_ (.bg ?_ λe55 he55 he55w=> .h ?_ (.bg ?_ λe57 he57 he57w=> .b (ZT (have:=EC ([]++y3.B) (zA .i64 a1.N (([]++y3.B).length:Int):Int).toNat (UInt8.ofNat (AB .u8 ((e55.toNat:Nat):Int) (IntKind.wrap .u8 (iA .i64 1 (zA .i64 a1.J 255)):Int):Int).toNat);?_) (have:=EC ([]++y3.B) (zA .i64 a1.N (([]++y3.B).length:Int):Int).toNat (UInt8.ofNat (AB .u8 ((e55.toNat:Nat):Int) (IntKind.wrap .u8 (iA .i64 1 (zA .i64 a1.J 255)):Int):Int).toNat);?_) (have:=EC ([]++y3.B) (zA .i64 a1.N (([]++y3.B).length:Int):Int).toNat (UInt8.ofNat (AB .u8 ((e55.toNat:Nat):Int) (IntKind.wrap .u8 (iA .i64 1 (zA .i64 a1.J 255)):Int):Int).toNat);?_) (have:=EC ([]++y3.B) (zA .i64 a1.N (([]++y3.B).length:Int):Int).toNat (UInt8.ofNat (AB .u8 ((e55.toNat:Nat):Int) (IntKind.wrap .u8 (iA .i64 1 (zA .i64 a1.J 255)):Int):Int).toNat);?_)) λr59 O7=>D1 _ ?_)))))
  λk53 s8=> .c (λ_=>s8 _ nofun)
  λOZ=>s8 _ λq20=>?_)
  λPY=> .j (λy60:Ab=>wt y60≤wt a0+5100000∧wt y60.Clients+wt y60.S≤wt a0.Clients+wt a0.S+61000∧TW y60) (λy60 J7=>D1 _ ?_)
  λk61 bZ=> .c (λW1=> .b (zr9 ?_ ?_ ?_) λr62 hr62=> .c (λX1=> .s ?_)
  λX1=> .b (ZT ?_ ?_ ?_ ?_) λr64 hr64=>bZ _ ?_)
  λW1=> .j (λy65:Ab=>wt y65≤wt a0+5100000∧wt y65.Clients+wt y65.S≤wt a0.Clients+wt a0.S+61000∧TW y65) (λy65 hy65=>bZ _ ?_)
  λk66 t8=> .c (λI0=> .b (zr5 ?_) λr67 L7=>have hl67:=FB r67.2; .c (λY1=> .s ?_)
  λY1=> .b (lQ ?_ ?_ ?_ ?_) λr68 hr68=>t8 _ ?_)
  λI0=> .j (λy69:Ab=>wt y69≤wt a0+5100000∧wt y69.Clients+wt y69.S≤wt a0.Clients+wt a0.S+61000∧TW y69) (λy69 hy69=>t8 _ ?_)
  λk70 F1=> .c (λD5=> .h ?_ (.bg ?_ λe71 he71 V7=> .c (λu9=> .s ?_)
  λu9=> .h ?_ (.bg ?_ λe72 v8 he72w=>have hie72:=GG v8;have hve72:=tO v8; .b (zsb ?_) λr73 hr73=> .b (zaM ?_ ?_ ?_ ?_ ?_ ?_ ?_ ?_) λr74 hr74=>F1 _ ?_)))
  λD5=> .j (λy75:Ab=>wt y75≤wt a0+5100000∧wt y75.Clients+wt y75.S≤wt a0.Clients+wt a0.S+61000∧TW y75) (λy75 hy75=>F1 _ ?_)
  λk76 I1=> .c (λR5=> .b (zoz ?_) λr77 hr77=> .c (λH8=> .s ?_)
  λH8=> .b (lQ ?_ ?_ ?_ ?_) λr78 hr78=>I1 _ ?_)
  λR5=> .c (λI8=> .j (λy79:Bool×Ab=>wt y79.2≤wt a0+5100000∧wt y79.2.Clients+wt y79.2.S≤wt a0.Clients+wt a0.S+61000∧TW y79.2) (λy79 hy79=> .s ?_)
  λk80 w8=> .h ?_ (.bg ?_ λe81 he81 he81w=> .c (λS5=> .h ?_ (.bg ?_ λe82 z8 he82w=>have hie82:=GG z8;have hve82:=tO z8; .b (ziF ?_ ?_ ?_) λr83 hr83=>w8 _ ?_))
  λS5=>w8 _ ?_))
  λI8=> .c (λT5=> .j (λy84:Bool×Ab=>wt y84.2≤wt a0+5100000∧wt y84.2.Clients+wt y84.2.S≤wt a0.Clients+wt a0.S+61000∧TW y84.2) (λy84 hy84=> .s ?_)
  λk85 A5=> .c (λv9=> .bi ?_ ?_ λe86 he86 he86w=> .c (λw9=> .bi ?_ ?_ λe87 he87 he87w=> .b (ziF ?_ ?_ ?_) λr88 hr88=>A5 _ ?_)
  λw9=>A5 _ ?_)
  λv9=>A5 _ ?_)
  λT5=> .j (λy89:Ab=>wt y89≤wt a0+5100000∧wt y89.Clients+wt y89.S≤wt a0.Clients+wt a0.S+61000∧TW y89) (λy89 hy89=>I1 _ ?_)
  λk90 J1=> .c (λz9=> .j (λy91:Ab=>wt y91≤wt a0+5100000∧wt y91.Clients+wt y91.S≤wt a0.Clients+wt a0.S+61000∧TW y91) (λy91 hy91=>J1 _ ?_)
  λk92 A8=> .c (λA9=> .b (zjs ?_) λr93 hr93=>A8 _ ?_)
  λA9=> .b (zjs ?_) λr94 hr94=>A8 _ ?_)
  λz9=>J1 _ ?_)
  λk4 TV=> .c (λB9=> .c (λC9=> .s ?_)
  λC9=>have hd3:=mI (a:=a1.I) (n:=(a0.Seen.length:Int)) ?_ ?_; .n ?_ (.h ?_ (.bg ?_ λe5 CX uX=>TV _ ?_)))
  λB9=>TV _ ?_)
  λk2 JV=> .c (λ_=>JV _)
  λ_=>JV _
 all_goals (try simp only[NB]at *)<;>(try simp(disch:=omega) only[DA,JA]at *)<;>omega
def zq6{a0}(ha:mA a0):Ok (Ix a0) λr=>mA r.2∧wt r.1≤4000∧TW r.1:=by
 unfold Ix;refine .b (KB ?_ ?_) λr1 OV=> .b (KB ?_ ?_) λr2 fW=> .b (KB ?_ ?_) λr3 tW=> .b (RA ?_) λr4 VV=> .b (zr4 ?_ ?_) λr5 RV=> .s ?_
 all_goals (try simp only[NB]at *)<;>(try simp(disch:=omega) only[DA,JA]at *)<;>omega
def zpf{a0 a1 a2}(ha:mA a0)(hb:a1≤40):Ok (Jb a0 a1 a2) λr=>mA r.2.2.2∧wt r.2.2.1≤400000000∧TW r.2.2.1∧wt r.1≤4000∧wt r.2.1≤200000:=by
 unfold Jb
 refine .b (zq6 ?_) λr1 OV=> .cp ?_ (.b (RA ?_) λr3 tW=> .j (λy4:(List Am)×Af×Int×Ab=>mA y4.2.1∧wt y4.2.2.2≤400000000∧TW y4.2.2.2∧wt y4.1≤200000) (λy4 BY=> .s ?_)
  λk5 gW=> .l (λx6:(List Am)×Int×Af×Int×Ab=>0≤x6.2.1∧x6.2.1≤60∧mA x6.2.2.1∧wt x6.1+3001 *x6.2.1≤200000∧TW x6.2.2.2.2∧wt x6.2.2.2.2+5100000 *x6.2.1≤320000000∧wt x6.2.2.2.2.Clients+wt x6.2.2.2.2.S+61000 *x6.2.1≤3700000) (λx6:(List Am)×Int×Af×Int×Ab=>x6.2.1.toNat) (λx6 b7 k7 UV=> .c (λh1=> .b (zix ?_ ?_ ?_) λr8 BW=> .g ?_ (.cp ?_ (.j (λy10:Bool×Ab=>wt y10.2≤wt x6.2.2.2.2+5100000∧wt y10.2.Clients+wt y10.2.S≤wt x6.2.2.2.2.Clients+wt x6.2.2.2.2.S+61000∧TW y10.2) (λy10 cX=> .j (λy13:Ab×Unit=>wt y13.1≤wt x6.2.2.2.2+5100000∧wt y13.1.Clients+wt y13.1.S≤wt x6.2.2.2.2.Clients+wt x6.2.2.2.2.S+61000∧TW y13.1) (λy13 GX=>UV _ ?_ ?_)
  λk14 SV=> .c (λh2=>SV _ ?_)
  λh2=>SV _ ?_)
  λk11 PV=> .c (λh3=> .c (λh4=>have f5:=nO h4; .b (zjk ?_ ?_ ?_ ?_ ?_) λr12 yW=>PV _ ?_)
  λh4=>PV _ ?_)
  λh3=>PV _ ?_)))
  λh1=>gW _ ?_) ?_ ?_)
 all_goals (try simp only[NB]at *)<;>(try simp(disch:=omega) only[DA,JA]at *)<;>omega
def zpw{a0 a1}(ha:mA a0)(hb:a1≤40):Ok (Jc a0 a1) λr=>mA r.2∧wt r.1≤400000000∧TW r.1:=by
 unfold Jc;refine .b (KE ?_) λr1 OV=> .b (zpf ?_ ?_) λr2 fW=> .s ?_
 all_goals (try simp only[NB]at *)<;>omega
end Go.D
namespace Go.D
def zeV{a0}(ha:mA a0):Ok (Hs a0) λr=>r.1.length≤12∧mA r.2:=by
 unfold Hs
 refine .b (RA ?_) λr1 OV=> .j (λy2:(List UInt8)=>y2.length≤12) (λy2 xW=> .s ?_)
  λk3 KV=> .l (λx4:(List UInt8)×Int=>0≤x4.2∧x4.2≤12∧(x4.1.length:Int)≤x4.2) (λx4:(List UInt8)×Int=>(12 - x4.2).toNat) (λx4 P5 k5 gW=> .c (λh1=> .g ?_ (gW _ ?_ ?_))
  λh1=>KV _ ?_) ?_ ?_
 all_goals (try simp only[NB]at *)<;>(try simp(disch:=omega) only[DA,JA]at *)<;>omega
def zqC{a0}(ha:mA a0):Ok (Jd a0) λr=>r.1.length≤32∧mA r.2:=by
 unfold Jd
 refine .b (RA ?_) λr1 OV=> .j (λy2:(List UInt8)=>y2.length≤32) (λy2 xW=> .s ?_)
  λk3 KV=> .l (λx4:(List UInt8)×Int=>0≤x4.2∧x4.2≤32∧(x4.1.length:Int)≤x4.2) (λx4:(List UInt8)×Int=>(32 - x4.2).toNat) (λx4 P5 k5 gW=> .c (λh1=> .g ?_ (gW _ ?_ ?_))
  λh1=>KV _ ?_) ?_ ?_
 all_goals (try simp only[NB]at *)<;>(try simp(disch:=omega) only[DA,JA]at *)<;>omega
def zp5{a0}(ha:mA a0):Ok (Je a0) λr=>wt r.1≤100∧mA r.2:=by
 unfold Je;refine .b (RA ?_) λr1 OV=> .b (RA ?_) λr2 fW=> .b (RA ?_) λr3 tW=> .b (RA ?_) λr4 VV=> .b (RA ?_) λr5 RV=> .b (zeV ?_) λr6 vW=> .b (zeV ?_) λr7 IW=> .b (zqC ?_) λr8 BW=> .b (zeV ?_) λr9 SW=> .b (RA ?_) λr10 pW=> .b (RA ?_) λr12 yW=> .s ?_
 all_goals (try simp only[NB]at *)<;>(try simp(disch:=omega) only[DA,JA]at *)<;>omega
def zqW{a0}(ha:mA a0):Ok (Jf a0) λr=>mA r.2:=by
 unfold Jf
 refine .b (KE ?_) λr1 OV=> .c (λh1=> .b (RA ?_) λr2 fW=> .b (zqT ?_) λr3 tW=> .b (RA ?_) λr4 VV=> .s ?_)
  λh1=> .b (RA ?_) λr5 RV=> .s ?_
 all_goals (try simp only[NB]at *)<;>(try simp(disch:=omega) only[DA,JA]at *)<;>omega
def xN{a0}(ha:mA a0):Ok (Db a0) λr=>mA r.2:=by
 unfold Db
 refine .b (zqW ?_) λr1 OV=> .b (RA ?_) λr2 fW=> .j (λy3:Af×Ai=>mA y3.1) (λy3 OY=> .s ?_)
  λk4 TV=> .c (λh1=> .b (zrK ?_) λr5 RV=>TV _ ?_)
  λh1=> .j (λy6:Af×Ai=>mA y6.1) (λy6 yX=>TV _ ?_)
  λk7 UV=> .c (λh2=> .b (YA (-1) (65536) ?_ (by simp) (by decide)) λr8 BW=>UV _ ?_)
  λh2=>UV _ ?_
 all_goals (try simp only[NB]at *)<;>omega
def zq0{a0}(ha:mA a0):Ok (Jg a0) λr=>wt r.1≤250∧mA r.2:=by
 unfold Jg
 refine .b (zp5 ?_) λr1 OV=> .b (RA ?_) λr2 fW=> .j (λy3:Af×Ad=>mA y3.1∧wt y3.2≤250) (λy3 OY=> .s ?_)
  λk4 TV=> .c (λh1=> .b (YA (-1) (18) ?_ (by simp) (by decide)) λr5 RV=>TV _ ?_)
  λh1=> .j (λy6:Af×Ad=>mA y6.1∧wt y6.2≤250) (λy6 yX=>TV _ ?_)
  λk7 UV=> .c (λh2=> .b (YA (-1) (10) ?_ (by simp) (by decide)) λr8 BW=>UV _ ?_)
  λh2=> .j (λy9:Af×Ad=>mA y9.1∧wt y9.2≤250) (λy9 UY=>UV _ ?_)
  λk10 QV=> .c (λh3=> .b (YA (-1) (2) ?_ (by simp) (by decide)) λr11 zW=>QV _ ?_)
  λh3=> .j (λy12:Af×Ad=>mA y12.1∧wt y12.2≤250) (λy12 nY=>QV _ ?_)
  λk13 iW=> .c (λh4=> .b (YA (0) (11) ?_ (by simp) (by decide)) λr14 nX=> .b (KB ?_ ?_) λr15 PW=>iW _ ?_)
  λh4=> .j (λy16:Af×Ad=>mA y16.1∧wt y16.2≤250) (λy16 qY=>iW _ ?_)
  λk17 lW=> .c (λh5=> .b (YA (0) (13) ?_ (by simp) (by decide)) λr18 ZX=> .b (KB ?_ ?_) λr19 FX=>lW _ ?_)
  λh5=> .j (λy20:Af×Ad=>mA y20.1∧wt y20.2≤250) (λy20 rY=>lW _ ?_)
  λk21 aW=> .c (λh6=> .b (YA (-1) (4294967296) ?_ (by simp) (by decide)) λr22 fX=>aW _ ?_)
  λh6=> .j (λy23:Af×Ad=>mA y23.1∧wt y23.2≤250) (λy23 uZ=>aW _ ?_)
  λk24 qW=> .c (λh7=> .b (YA (-1) (281474976710656) ?_ (by simp) (by decide)) λr25 wX=>qW _ ?_)
  λh7=> .j (λy26:Af×Ad=>mA y26.1∧wt y26.2≤250) (λy26 v1=>qW _ ?_)
  λk27 dX=> .c (λh8=> .b (YA (0) (101) ?_ (by simp) (by decide)) λr28 R2=> .b (KB ?_ ?_) λr29 vZ=>dX _ ?_)
  λh8=> .j (λy30:Af×Ad=>mA y30.1∧wt y30.2≤250) (λy30 hy30=>dX _ ?_)
  λk31 dZ=> .c (λh9=> .b (YA (0) (31) ?_ (by simp) (by decide)) λr32 hr32=> .b (KB ?_ ?_) λr33 B5=>dZ _ ?_)
  λh9=> .j (λy34:Af×Ad=>mA y34.1∧wt y34.2≤250) (λy34 W2=>dZ _ ?_)
  λk35 fY=> .c (λuW=> .b (xN ?_) λr36 V2=>fY _ ?_)
  λuW=> .j (λy37:Af×Ad=>mA y37.1∧wt y37.2≤250) (λy37 hy37=>fY _ ?_)
  λk38 B8=> .c (λHW=> .b (YA (-1) (1000001) ?_ (by simp) (by decide)) λr39 hr39=>B8 _ ?_)
  λHW=>B8 _ ?_
 all_goals (try simp only[NB]at *)<;>omega
end Go.D
namespace Go.D
end Go.D

/-
 The program's machine comes to an end; what is right stays right.
-/
import Derived.Test.YtmhnaidnoljllaaGreatP1
set_option linter.all false
namespace Go.D
def zgW{a0 a1 a2 a3 a4}(ha:kC a0=true)(hb:oB a3=true)(hc:a4.length≤100):Ok (Gh a0 a1 a2 a3 a4) λr=>GE a0 r.1∧vE r.2.1∧(r.2.1.length≤2∧wt r.2.1≤800)∧TB r.2.2.1∧r.2.2.1.length≤5:=by
 unfold Gh;refine have:=TE ha;have hl:=@GM a0 ha;have:=NN ha;have:=jD hb;
 .m (oA ?_) (.j0 (.m (oA ?_) (.c (λh1=> .kt (.s ⟨?_,?_,?_,?_,?_⟩))
  λh1=>have:=SK (nf h1); .c (λh2=> .kt (.s ⟨?_,?_,?_,?_,?_⟩))
  λh2=>have hd:=h2;have hl:=hl h2; .c (λh3=> .s ⟨?_,?_,?_,?_,?_⟩)
  λh3=>have:=rF (nf h3); .b (zgT ?_ ?_) λr5 RV=> .c (λh4=> .s ⟨?_,?_,?_,?_,?_⟩)
  λh4=>have hx:=RV.2.2.2.2 (by simpa using h4);have hS:=uM (a:=a0) (c:=r5.1) (p:=a0.P) (l:=a1) ha RV.1 (RV.2.1.1.trans hl.2.1) (RV.2.1.2.trans hl.2.2.1) hl.2.2.2.1 hx.2.2 hd;have hfs:=zfN hx.1 hx.2.1;have UX:=uB.1 hx.2.2; .b (zhC ?_) λr6 vW=> .b (fP ?_) λr7 FW=> .b (zaV ?_ ?_ ?_) λr8 QW=>have:=AS QW; .j (λy9:(List Ad)×(List Aq)×Ai=>(TB y9.1∧y9.1.length≤3)∧vE y9.2.1∧(y9.2.1.length≤1∧wt y9.2.1≤400)∧(GE a0 y9.2.2∧y9.2.2.Dead=false)) (λy9 z1=>have hs9:=z1.2.2.2.1.1;have:=TE hs9;have hl9:=GM hs9 z1.2.2.2.2;have:=kE z1.1.1; .b (zpa ?_ ?_) λr23 V1=> .b (cP ?_ ?_) λr24 RX=>have hS9:=ziA z1.2.2.2.1 (uM (a:=y9.2.2) (c:=r24.1) (p:=r23.1) (l:=y9.2.2.Last) hs9 RX.1 (RX.2.1.1.trans hl9.2.1) (RX.2.1.2.1.trans hl9.2.2.1) V1.1 hl9.2.2.2.2.2 z1.2.2.2.2); .j0 (.c (λh5=> .kt (.s ⟨?_,?_,?_,?_,?_⟩))
  λh5=> .c (λh6=> .s ⟨?_,?_,?_,?_,?_⟩)
  λh6=> .g ?_ (.b (HL ?_ ?_) λr27 XY=>have:=AS XY;have KW:=jE.2 ⟨z1.1.1,kD.2 ⟨XY,qC⟩⟩; .g ?_ (.s ⟨?_,?_,?_,?_,?_⟩))))
  λk10 bW=> .c (λh7=> .m (oA ?_) (.g ?_ (bW _ ⟨?_,?_,?_,?_⟩)))
  λh7=> .j0 (.c (λh8=> .b (zoN ?_ ?_) λr15 cY=>have hS15:=uM (a:=a0) (c:=r5.1) (p:=r15.1) (l:=a1) ha RV.1 (RV.2.1.1.trans hl.2.1) (RV.2.1.2.trans hl.2.2.1) cY hx.2.2 hd; .j0 (.c (λh9=> .m (oA ?_) (.g ?_ (bW _ ⟨?_,?_,?_,?_⟩)))
  λh9=>bW _ ⟨?_,?_,?_,?_⟩))
  λh8=> .j0 (.c (λmW=> .b (znj ?_ ?_ ?_) λr22 mX=>have hS22:=ziA hS mX.1;have:=kE mX.2.2.2.1;have KW:=jE.2 ⟨kD.2 ⟨QW,qC⟩,mX.2.2.2.1⟩; .g ?_ (.g ?_ (bW _ ⟨?_,?_,?_,?_⟩)))
  λmW=>bW _ ⟨?_,?_,?_,?_⟩)))))
 all_goals first | trivial | assumption | exact qC | exact UG | exact hS.1 | ((try simp only[NB]at *)<;>omega) | grind [eA,mA,fO,UG,zfw,nC,LC,tE,GA,kD,qC,jE]
def zmA{a0 a1 a2 a3}(ha:BB a0=true)(hb:eA a1 0 1000000=true)(hc:GA a2=true)(hd:oB a3=true)(he:PB a3.Kind=true):Ok (Jr a0 a1 a2 a3) λr=>BB r.1=true∧r.1.Psks=a0.Psks∧vE r.2.1∧(r.2.1.length≤2∧wt r.2.1≤1000)∧TB r.2.2∧r.2.2.length≤8:=by
 unfold Jr;refine have hfs:=zfN hd he;have:=oF ha;have S:=IE.1 ha;have:=S.tab;have:=jD hd;have hw:=QB a0.T.L;
 .m (oA ?_) (have:=JN a0.T a3.Sn; .j (λy2:Bool=>y2=false→0≤AE a0.T a3.Sn) (λy2 rW=> .c (λh1=> .s ⟨?_,?_,?_,?_,?_,?_⟩)
  λh1=> .m (oA ?_) (have:=PI a0.D; .b (zhr ?_) λr6 _=> .j (λy7:(List UInt8)=>y7.length≤12) (λy7 IY=>have S2:=KE.1 S.tab; .bm ?_ ?_ λe9 nZ bY=>have LZ:=S2.el _ nZ;have:=TE LZ; .b (zgW ?_ ?_ ?_) λr10 uW=>have:=TE uW.1.1;have:=kE uW.2.2.2.1; .b (zab ?_ ?_) λr11 YW=>have hid:=λe he=>(YW.2.1 e he).elim (S.id e) λh=>(by rw[h,uW.1.2.1];exact S.id _ nZ);have Z2:=cJ (d:=⟨a0.Psks,a0.J,a0.D,r11.1,a0.Cr⟩) ha rfl S.jar S.dice YW.1 S.cr hid;have hsv2:=cJ (d:=⟨a0.Psks,a0.J,(QC a0.D).1,r11.1,a0.Cr⟩) ha rfl S.jar ((PI a0.D).2.2.1 S.dice) YW.1 S.cr hid; .j (λy12:(List Ad)×Ac=>TB y12.1∧y12.1.length≤8∧BB y12.2=true∧y12.2.Psks=a0.Psks) (λy12 tY=> .s ⟨?_,?_,?_,?_,?_,?_⟩)
  λk13 gW=> .c (λh2=> .m (oA ?_) (.m (oA ?_) (.m (oA ?_) (have:=zbF y7;have:=@za0 y7; .g ?_ (.g ?_ (gW _ ⟨?_,?_,?_,?_⟩))))))
  λh2=>gW _ ⟨?_,?_,?_,?_⟩)
  λk8 qW=> .c (λh3=>qW _ ?_)
  λh3=>qW _ ?_))
  λk3 JV=> .c (λh4=>JV _ ?_)
  λh4=> .bm ?_ ?_ λe4 TY vY=>JV _ ?_)
 all_goals first | trivial | assumption | exact qC | exact UG | ((try simp only[NB]at *)<;>omega) | grind [eA,mA,nC,LC,tE,GA,kD,qC,jE]
def zou{a0}(ha:wt a0≤1000000000):Ok (Dt a0) λr=>0≤r:=by
 unfold Dt;refine .b (zdE ?_) λr1 QV=> .s ?_
 all_goals first | trivial | ((try simp only[NB]at *)<;>omega) | grind [eA,mA]
def zoU{a0 a1 a2}(ha:UC a0=true):Ok (Du a0 a1 a2) λr=>UC r.1=true:=by
 unfold Du;refine have:=BI ha;have:=IS a0 a1;
 .m (oA ?_) (.j0 (.c (λh1=> .kt (.s ?_))
  λh1=>have:=BI (nf h1); .c (λh2=> .kt (.s ?_))
  λh2=> .b (zhh ?_) λr4 SV=> .c (λh3=> .s ?_)
  λh3=> .h ?_ (.bg ?_ λe5 gX ZW=>have hg:=zfS ha gX;have hk:=@zk5 a0 _ e5 e5.Got (gA .i64 e5.Sent a2) ha gX;have hi:=@DA e5.Sent a2; .h ?_ (.m gX (.s (have:=wD a0 ((fB a0 a1).toNat) (⟨e5.A,e5.Got,gA .i64 e5.Sent a2⟩:Al);?_))))))
 all_goals first | trivial | ((try simp only[NB]at *)<;>(try simp(disch:=omega) only[DA,SA]at *)<;>omega) | grind [eA,mA]
def zm6{a0 a1 a2 a3}(ha:BB a0=true)(hb:wt a3≤900000000):Ok (In a0 a1 a2 a3) λr=>BB r.1=true∧r.1.Psks=a0.Psks∧vE r.2.1∧(r.2.1.length≤3∧wt r.2.1≤9100)∧TB r.2.2∧r.2.2.length≤8:=by
 unfold In;refine have:=oF ha;have S:=IE.1 ha;have:=S.cr;
 .m (oA ?_) (.j0 (.m (oA ?_) (.c (λh1=> .kt (.s ⟨?_,?_,?_,?_,?_,?_⟩))
  λh1=>have:=oF (nf h1); .c (λh2=> .kt (.s ⟨?_,?_,?_,?_,?_,?_⟩))
  λh2=> .c (λh3=> .s ⟨?_,?_,?_,?_,?_,?_⟩)
  λh3=>have:=rF (nf h3); .b (zpQ ?_) λr5 RV=>have Z2:=cJ (d:=⟨a0.Psks,a0.J,a0.D,a0.T,r5⟩) ha rfl S.jar S.dice S.tab RV S.id; .b (zdI ?_) λr6 vW=> .j (λy7:(List Aq)×(List Ad)×Ac=>vE y7.1∧(y7.1.length≤3∧wt y7.1≤2000)∧TB y7.2.1∧y7.2.1.length≤8∧BB y7.2.2=true∧y7.2.2.Psks=a0.Psks) (λy7 IY=> .j (λy18:(List Aq)×Ac=>vE y18.1∧(y18.1.length≤3∧wt y18.1≤9100)∧BB y18.2=true∧y18.2.Psks=a0.Psks) (λy18 C4=> .s ⟨?_,?_,?_,?_,?_,?_⟩)
  λk19 pX=> .l (λx20:(List Aq)×Int×Ac=>(0≤x20.2.1∧x20.2.1≤(y7.1.length:Int))∧vE x20.1∧((x20.1.length:Int)≤x20.2.1∧wt x20.1≤3001 *x20.2.1)∧BB x20.2.2=true∧x20.2.2.Psks=a0.Psks) (λx20:(List Aq)×Int×Ac=>((y7.1.length:Int) - x20.2.1).toNat) (λx20 K4 k21 CY=>have hx:=oF K4.2.2.2.1;have X:=IE.1 K4.2.2.2.1;have:=X.cr; .c (λh4=> .j (λy22:(List Aq)×Ac=>vE y22.1∧((y22.1.length:Int)≤x20.2.1+1∧wt y22.1≤3001 *x20.2.1+3001)∧BB y22.2=true∧y22.2.Psks=a0.Psks) (λy22 F6=>CY _ ⟨?_,?_,?_,?_,?_⟩ ?_)
  λk23 wY=> .h ?_ (.bg ?_ λe24 he24 he24w=>have ho:=IY.1 _ (List.mem_of_getElem? he24); .b (zh9 ?_) λr25 _=> .j (λy26:Ac=>BB y26=true∧y26.Psks=a0.Psks) (λy26 z4=> .g ?_ (wY _ ⟨?_,?_,?_,?_⟩))
  λk27 GX=> .c (λh5=> .b (zou ?_) λr28 C6=> .b (zoU ?_) λr29 D4=>have hsv2:=cJ (d:=⟨x20.2.2.Psks,x20.2.2.J,x20.2.2.D,x20.2.2.T,r29.1⟩) K4.2.2.2.1 rfl X.jar X.dice X.tab D4 X.id; .c (λh6=>wY _ ⟨?_,?_,?_,?_⟩)
  λh6=>GX _ ⟨?_,?_⟩)
  λh5=>GX _ ⟨?_,?_⟩))
  λh4=>pX _ ⟨?_,?_,?_,?_⟩) ⟨?_,?_,?_,?_,?_⟩ ?_)
  λk8 qW=> .c (λh7=>qW _ ⟨?_,?_,?_,?_,?_,?_⟩)
  λh7=> .j0 (.c (λh8=> .b (znT ?_ ?_ ?_ ?_) λr11 YW=>qW _ ⟨?_,?_,?_,?_,?_,?_⟩)
  λh8=> .j0 (.c (λh9=> .b (zmS ?_ ?_ ?_ ?_) λr14 UY=>qW _ ⟨?_,?_,?_,?_,?_,?_⟩)
  λh9=> .j0 (.c (λmW=> .b (zmA ?_ ?_ ?_ ?_ ?_) λr17 A0=>qW _ ⟨?_,?_,?_,?_,?_,?_⟩)
  λmW=>qW _ ⟨?_,?_,?_,?_,?_,?_⟩))))))
 all_goals first | trivial | assumption | exact qC | exact UG | ((try simp only[NB]at *)<;>(try simp(disch:=omega) only[DA,SA]at *)<;>omega) | grind [eA,mA,fO,UG,zfw]
end Go.D
namespace Go.D
def znA{a0 a1 a2}(ha:oB a2=true)(hb:1≤a1∧a1≤9):Ok (Er a0 a1 a2) λr=>wt r.1≤100∧(r.2=true→oB r.1=true)∧(r.2=true→r.1.Kind=3∧r.1.Id=a1∧r.1.Cn=a2.Cn∧r.1.Sn=a2.Sn):=by
 unfold Er;refine have:=jD ha;have W4:=@UU a2 ha;
 .j0 (.c (λh1=> .kt (.s ⟨?_,?_,?_⟩))
  λh1=> .m (oA ?_) (.c (λh2=> .s ⟨?_,?_,?_⟩)
  λh2=>have:=jD (nf h2); .b (zhH ?_ ?_ ?_) λr4 SV=> .c (λh3=> .s ⟨?_,?_,?_⟩)
  λh3=> .m (oA ?_) (.m (oA ?_) (.m (oA ?_) (.s ⟨?_,?_,?_⟩)))))
 all_goals first | trivial | ((try simp only[NB]at *)<;>omega) | grind [eA,mA,oB,PB]
def zgU{a0 a1}(ha:XB a0=true):Ok (Bw a0 a1) λr=>XB r=true∧(r.Role=a0.Role∧r.Sn=a0.Sn∧r.Next=a0.Next):=by
 unfold Bw;refine have:=GC ha;
 .m (oA ?_) (.j (λy2:Bool=>True) (λy2 rW=> .j0 (.c (λh1=> .s ⟨?_,?_⟩)
  λh1=> .s ⟨?_,?_⟩))
  λk3 JV=> .m (oA ?_) (.c (λh2=>have:=GC h2; .c (λh3=> .c (λh4=> .c (λh5=>JV _ ?_)
  λh5=>JV _ ?_)
  λh4=>JV _ ?_)
  λh3=>JV _ ?_)
  λh2=>JV _ ?_))
 all_goals first | trivial | ((try simp only[NB]at *)<;>omega) | grind [eA,mA,XB,GG,JF]
def zm8{a0 a1}:Ok (Cf a0 a1) λr=>r=true→a0.On=true∧NC a0=true∧eA a1 0 1000000=true:=by
 unfold Cf
 refine .j0 (.c (λh1=> .c (λh2=> .c (λh3=> .s ?_)
  λh3=> .s ?_)
  λh2=> .s ?_)
  λh1=> .s ?_)
 all_goals first | trivial | ((try simp only[NB]at *)<;>omega) | grind [eA,mA]
def zgP{a0 a1}(ha:NC a0=true):Ok (Cm a0 a1) λr=>NC r.1=true∧(r.2=0→r.1=a0)∧(r.2≠2→r.1.On=a0.On)∧(r.2≠0→a0.On=true):=by
 unfold Cm;refine have hw:=@zva a0 ha;have hm:=zfG (KB .i64 2 a0.Wait) 8;have h1:=@DA a0.Tries 1;have h2:=@zvl a0.Wait;have h3:=@DA a1 (sD (KB .i64 2 a0.Wait) 8);
 .b zm8 λr1 QV=> .c (λh1=> .s ⟨?_,?_,?_,?_⟩)
  λh1=> .c (λh2=> .s ⟨?_,?_,?_,?_⟩)
  λh2=> .s ⟨?_,?_,?_,?_⟩
 all_goals first | trivial | ((try simp only[NB]at *)<;>(try simp(disch:=omega) only[DA,SA]at *)<;>omega) | grind [eA,mA,NC,vF]
def zon{a0 a1}(ha:dB a0=true)(hb:a0.St=3)(hc:eA a1 0 1000000=true):Ok (Gj a0 a1) λr=>dB r.1=true∧(r.1.Id=a0.Id∧r.1.Psk=a0.Psk∧r.1.At=a0.At)∧TB r.2.2∧r.2.2.length≤6∧(r.2.1.length≤1∧wt r.2.1≤400):=by
 unfold Gj;refine have:=ID ha;have hc:=zmk ha hb;have:=GC hc.1;
 .c (λh1=> .b (zaP ?_) λr1 QV=> .b (zaA ?_ ?_ ?_) λr2 DW=> .s ⟨?_,?_,?_,?_,?_⟩)
  λh1=> .m (oA ?_) (.b (zgU ?_) λr4 SV=> .b (zgP ?_) λr5 RV=> .c (λh2=> .s ⟨?_,?_,?_,?_,?_⟩)
  λh2=> .j (λy6:Ae=>dB y6=true∧(y6.Id=a0.Id∧y6.Psk=a0.Psk∧y6.At=a0.At)∧y6.St=3) (λy6 oZ=>have:=ID oZ.1;have hc6:=zmk oZ.1 oZ.2.2; .b (zg4 ?_) λr9 FX=> .c (λh3=> .s ⟨?_,?_,?_,?_,?_⟩)
  λh3=> .b (HL ?_ ?_) λr10 uW=> .s ⟨?_,?_,?_,?_,?_⟩)
  λk7 wW=> .c (λh4=> .b EV λr8 QW=>wW _ ⟨?_,?_,?_⟩)
  λh4=>wW _ ⟨?_,?_,?_⟩)
 all_goals first | trivial | ((try simp only[NB]at *)<;>(try simp(disch:=omega) only[DA,SA]at *)<;>omega) | grind [eA,mA,dB,kD,qC,gH]
def zgL{a0 a1}(ha:dB a0=true):Ok (Eu a0 a1) λr=>dB r.1=true∧(r.1.Id=a0.Id∧r.1.Psk=a0.Psk∧r.1.At=a0.At)∧TB r.2.2∧r.2.2.length≤6∧(r.2.1.length≤1∧wt r.2.1≤400):=by
 unfold Eu;refine have:=ID ha;
 .m (oA ?_) (.j0 (.m (oA ?_) (.c (λh1=> .kt (.s ⟨?_,?_,?_,?_,?_⟩))
  λh1=>have:=ID (nf h1); .c (λh2=> .kt (.s ⟨?_,?_,?_,?_,?_⟩))
  λh2=> .c (λh3=> .s ⟨?_,?_,?_,?_,?_⟩)
  λh3=> .c (λh4=> .b (zon ?_ ?_ ?_) λr5 RV=> .s ⟨?_,?_,?_,?_,?_⟩)
  λh4=> .b (zgP ?_) λr6 vW=> .c (λh5=> .b (zaP ?_) λr7 FW=> .m (oA ?_) (.s ⟨?_,?_,?_,?_,?_⟩))
  λh5=> .jt (λy10=> .c (λh6=> .b (zhp ?_) λr12 QX=> .s ⟨?_,?_,?_,?_,?_⟩)
  λh6=> .c (λh7=> .m (oA ?_) (.s ⟨?_,?_,?_,?_,?_⟩))
  λh7=> .s ⟨?_,?_,?_,?_,?_⟩)
  λk11 fW=> .c (λh8=>fW _)
  λh8=>fW _)))
 all_goals first | trivial | ((try simp only[NB]at *)<;>omega) | grind [eA,mA,dB,MI,kD,qC,nC,LC,tE,GA]
def zmR{a0 a1 a2}(ha:dB a0=true)(hb:oB a2=true)(hc:a2.Kind=2)(hd:a0.St=1)(he:a2.Cn=a0.Cn)(hf:eA a1 0 1000000=true):Ok (Dg a0 a1 a2) λr=>dB r.1=true∧(r.1.Id=a0.Id∧r.1.Psk=a0.Psk∧r.1.At=a0.At)∧TB r.2.2∧r.2.2.length≤6∧(r.2.1.length≤1∧wt r.2.1≤400):=by
 unfold Dg;refine have:=ID ha;have M2:=zxc ha hd;have hf:=UU hb hc;
 .m (oA ?_) (.b (znA ?_ ?_) λr2 DW=> .c (λh1=> .s ⟨?_,?_,?_,?_,?_⟩)
  λh1=> .b EV λr3 pW=> .b (zg5 ?_ ?_ ?_) λr4 SV=> .b (zha ?_ ?_ ?_) λr5 RV=>have:=GC RV.1; .m (oA ?_) (.m (oA ?_) (.b zdy λr8 QW=> .b (zdB ?_ ?_ ?_) λr9 FX=> .b (zd7 ?_ ?_) λr10 uW=> .m (oA ?_) (.s ⟨?_,?_,?_,?_,?_⟩))))
 all_goals first | trivial | ((try simp only[NB]at *)<;>omega) | grind [eA,mA,dB,MI,kD,qC,nC,LC,tE,GA]
def zm2{a0 a1 a2}(ha:dB a0=true)(hb:oB a2=true)(hc:PB a2.Kind=true)(hd:a0.St=2∨a0.St=3)(he:eA a1 0 1000000=true):Ok (Cl a0 a1 a2) λr=>dB r.1=true∧(r.1.Id=a0.Id∧r.1.Psk=a0.Psk∧r.1.At=a0.At)∧TB r.2.2∧r.2.2.length≤6∧(r.2.1.length≤1∧wt r.2.1≤400):=by
 unfold Cl;refine have:=ID ha;have hfs:=zfN hb hc;have J8:=jD hb;have hc2:=zli ha hd;have:=GC hc2.1;
 .m (oA ?_) (.b (zgT ?_ ?_) λr2 DW=>have:=GC DW.1; .c (λh1=> .s ⟨?_,?_,?_,?_,?_⟩)
  λh1=> .b (zhC ?_) λr3 pW=> .b (fP ?_) λr4 SV=> .b (zaV ?_ ?_ ?_) λr5 RV=>have:=AS RV; .j (λy6:(List Ad)×Ae=>TB y6.1∧y6.1.length≤2∧(y6.2.Id=a0.Id∧y6.2.Psk=a0.Psk∧y6.2.At=a0.At∧y6.2.C=r2.1∧y6.2.R=a0.R∧y6.2.St=3∧y6.2.Cn=a0.Cn∧y6.2.Last=a1)∧(wF y6.2.Fin=true∧vF y6.2.T=true)) (λy6 oZ=>have:=kE oZ.1; .j (λy12:(List Ad)×Ae=>TB y12.1∧y12.1.length≤3∧dB y12.2=true∧(y12.2.Id=a0.Id∧y12.2.Psk=a0.Psk∧y12.2.At=a0.At∧y12.2.C=r2.1∧y12.2.St=3)) (λy12 tY=>have:=kE tY.1; .j (λy17:(List Ad)=>TB y17∧y17.length≤4) (λy17 S0=>have:=kE S0.1; .c (λh2=> .s ⟨?_,?_,?_,?_,?_⟩)
  λh2=> .b (cP ?_ ?_) λr21 S1=>have:=GC S1.1;have hh:=S1.2.2.2; .c (λh3=> .s ⟨?_,?_,?_,?_,?_⟩)
  λh3=> .m (oA ?_) (.b (HL ?_ ?_) λr23 V1=>have KW:TB [r23,(⟨8,0,0,[],r21.2.1.Sn,r21.2.1.Epoch,0,r2.2.1,[],(⟨0,0⟩:Af),0⟩:Ad)]:=kD.2 ⟨V1,kD.2 ⟨(by grind [nC,LC,tE,eA,GA,gH]),qC⟩⟩;have:=kE KW;have hno2:=jE.2 ⟨S0.1,KW⟩; .g ?_ (.s ⟨?_,?_,?_,?_,?_⟩)))
  λk18 cX=> .c (λh4=> .m (oA ?_) (.g ?_ (cX _ ⟨?_,?_⟩)))
  λh4=>cX _ ⟨?_,?_⟩)
  λk13 gW=> .c (λh5=> .m (oA ?_) (.m (oA ?_) (.g ?_ (gW _ ⟨?_,?_,?_,?_⟩))))
  λh5=>gW _ ⟨?_,?_,?_,?_⟩)
  λk7 wW=> .c (λh6=> .m (oA ?_) (.m (oA ?_) (.m (oA ?_) (.g ?_ (wW _ ⟨?_,?_,?_,?_⟩)))))
  λh6=>wW _ ⟨?_,?_,?_,?_⟩)
 all_goals first | trivial | assumption | ((try simp only[NB]at *)<;>omega) | grind [eA,mA,dB,MI,kD,qC,jE,nC,LC,tE,GA,wF,vF,NC]
def zgM{a0 a1 a2}(ha:dB a0=true)(hb:oB a2=true)(hc:eA a1 0 1000000=true):Ok (Es a0 a1 a2) λr=>dB r.1=true∧(r.1.Id=a0.Id∧r.1.Psk=a0.Psk∧r.1.At=a0.At)∧TB r.2.2∧r.2.2.length≤6∧(r.2.1.length≤1∧wt r.2.1≤400):=by
 unfold Es;refine have:=ID ha;have:=jD hb;
 .j0 (.m (oA ?_) (.c (λh1=> .kt (.m (oA ?_) (.s ⟨?_,?_,?_,?_,?_⟩)))
  λh1=>have:=ID (nf h1); .c (λh2=> .kt (.m (oA ?_) (.s ⟨?_,?_,?_,?_,?_⟩)))
  λh2=> .m (oA ?_) (.c (λh3=> .m (oA ?_) (.s ⟨?_,?_,?_,?_,?_⟩))
  λh3=>have:=jD (nf h3); .j (λy6:Bool=>y6=true→a2.Kind=2∧a0.St=1∧a2.Cn=a0.Cn) (λy6 oZ=> .c (λh4=> .b (zmR ?_ ?_ ?_ ?_ ?_ ?_) λr9 FX=> .s ⟨?_,?_,?_,?_,?_⟩)
  λh4=> .j (λy10:Bool=>y10=true→PB a2.Kind=true∧(a0.St=2∨a0.St=3)) (λy10 SX=> .c (λh5=> .b (zm2 ?_ ?_ ?_ ?_ ?_) λr12 QX=> .s ⟨?_,?_,?_,?_,?_⟩)
  λh5=> .m (oA ?_) (.s ⟨?_,?_,?_,?_,?_⟩))
  λk11 fW=> .c (λh6=> .c (λh7=>fW _ ?_)
  λh7=>fW _ ?_)
  λh6=>fW _ ?_)
  λk7 wW=> .c (λh8=> .c (λh9=> .m (oA ?_) (wW _ ?_))
  λh9=>wW _ ?_)
  λh8=>wW _ ?_)))
 all_goals first | trivial | assumption | exact qC | ((try simp only[NB]at *)<;>omega) | grind [eA,mA]
end Go.D
namespace Go.D
def zid{a0 a1 a2 a3}(ha:wt a0≤4000000000)(hb:wt a3≤900000000):Ok (Bf a0 a1 a2 a3) λr=>(ZA a0=true→ZA r.1=true)∧(∃m,r.1.Notes=a0.Notes++m)∧wt r.1≤wt a0+100000∧wt r.2≤1000∧(ZA a0=true→a1=0→sI r.2 LD)∧(ZA a0=true→∀c,a1≠0→a0.Clients[(qA .i64 a1 1).toNat]?=some c→sI r.2 c.At∧SO r.2)∧(ZA a0=false→r.1=a0∧r.2=[])∧r.1.Now=a0.Now:=by
 unfold Bf
 refine .m (oA ?_) (.j0 (.m (oA ?_) (.c (λh1=> .kt (.s ⟨?_,?_,?_,?_,?_,?_,?_,?_⟩))
  λh1=>have:=UJ (nf h1);have A1:=nf h1;have W:=SB.1 A1;have:=W.srv; .c (λh2=> .kt (.s ⟨?_,?_,?_,?_,?_,?_,?_,?_⟩))
  λh2=> .c (λh3=> .s ⟨?_,?_,?_,?_,?_,?_,?_,?_⟩)
  λh3=>have:=rF (nf h3); .c (λh4=> .b (zm6 ?_ ?_) λr5 RV=>have:=kE RV.2.2.2.2.1;have:=oF RV.1;have K8:=zeF A1 RV.1 RV.2.1 RV.2.2.2.2.1; .g ?_ (.b (zdL ?_ ?_) λr6 vW=> .s ⟨?_,?_,?_,?_,?_,?_,?_,?_⟩))
  λh4=> .b (zdI ?_) λr7 FW=> .c (λh5=> .s ⟨?_,?_,?_,?_,?_,?_,?_,?_⟩)
  λh5=> .bi ?_ ?_ λe8 W2 Q1=>have ce:=AH A1 (List.mem_of_getElem? W2);have cf:=ID ce; .b (zgM ?_ ?_ ?_) λr9 FX=>have:=kE FX.2.2.1;have:=ID FX.1;have hwc:=zeI A1 W2 FX.1 FX.2.1.1 FX.2.1.2.1 FX.2.2.1; .h ?_ (.m W2 (.g ?_ (.b (CV ?_ ?_) λr11 YW=>have hw11:∀c,a1≠0→a0.Clients[(qA .i64 a1 1).toNat]?=some c→sI r11 c.At∧SO r11:=λc _ hc=>(by have e:=Option.some.inj (W2.symm.trans hc);subst e;have:=YW.2 (by rw[FX.2.1.2.2];exact zc9 ce);rwa [FX.2.1.2.2]at this); .s (have:=wD a0.Clients ((qA .i64 a1 1).toNat) r9.1;⟨?_,?_,?_,?_,?_,?_,?_,?_⟩)))))))
 all_goals first | trivial | exact⟨[],(List.append_nil _).symm⟩ | exact⟨_,rfl⟩ | assumption | exact λ_ _=>zkh | exact λ_ _ _ _=>⟨zkh,ztF⟩ | exact λ_ _=>vW.2 | exact RV.2.2.1 | exact λk=>absurd A1 (by rw[k];decide) | exact λ_=>K8 | exact λ_=>hwc | exact λ_ _=>vW | exact λ_=>hw0 | exact λ_=>hw11 | ((try simp only[NB,TO]at *)<;>(try simp(disch:=omega) only[DA,SA]at *)<;>omega) | grind [eA,mA]
end Go.D
namespace Go.D
def znW{a0 a1}(ha:gC a0=true):Ok (Dh a0 a1) λr=>gC r=true∧r.At=a0.At:=by
 unfold Dh;refine have:=VH ha;
 .j0 (.c (λh1=> .kt (.m (oA ?_) (.s ⟨?_,?_⟩)))
  λh1=>have:=VH (nf h1); .c (λh2=> .m (oA ?_) (.s ⟨?_,?_⟩))
  λh2=> .b (zgK ?_) λr4 SV=> .s ⟨?_,?_⟩)
 all_goals first | trivial | ((try simp only[NB]at *)<;>omega) | grind [eA,mA]
def zd5{a0}(ha:kC a0=true):Ok (Et a0) λr=>GE a0 r∧r.Dead=true:=by
 unfold Et;refine have:=TE ha;
 .m (oA ?_) (.c (λh1=> .m (oA ?_) (.s ⟨?_,?_⟩))
  λh1=>have:=SK (nf h1); .m (oA ?_) (.m (oA ?_) (.s ⟨?_,?_⟩)))
 all_goals first | trivial | ((try simp only[NB]at *)<;>omega) | grind [eA,mA,GE,kC,iC,JF,vB]
def znR{a0 a1}(ha:kC a0=true):Ok (Is a0 a1) λr=>GE a0 r:=by
 unfold Is;refine have:=TE ha;have hl:=@GM a0 ha;have:=NN ha;
 .m (oA ?_) (.j0 (.m (oA ?_) (.c (λh1=> .kt (.s ?_))
  λh1=>have:=SK (nf h1); .c (λh2=> .kt (.s ?_))
  λh2=>have hd:=h2;have hl:=hl h2; .c (λh3=> .s ?_)
  λh3=> .c (λh4=> .b (zd5 ?_) λr5 RV=> .s ?_)
  λh4=> .b (zgU ?_) λr6 vW=> .b (znW ?_) λr7 FW=>have hR:=λe=>uM (a:=a0) (c:=r6) (p:=r7) (l:=a0.Last) ha vW.1 (vW.2.1.trans hl.2.1) (vW.2.2.1.trans hl.2.2.1) FW.1 hl.2.2.2.2.2 e; .s ?_)))
 all_goals first | trivial | ((try simp only[NB]at *)<;>(try simp(disch:=omega) only[DA,SA]at *)<;>omega) | grind [eA,mA]
def zoe{a0 a1}(ha:OC a0=true):Ok (Iu a0 a1) λr=>OC r=true∧Tk a0.L r.L:=by
 have hL:=mB;have hf:=dL ha;have T:=KE.1 ha
 have tr:Tk a0.L a0.L:=by
  have:∀l:List Ai,(∀e∈l,kC e=true)→F2 l l:=λl=>by
   induction l with
   | nil=>exact λ_=> .nil
   | cons e l ih=>exact λh=> .cons (NN (h e List.mem_cons_self)) (ih λx hx=>h x (List.mem_cons_of_mem _ hx))
  exact⟨_, .refl _,this _ T.el⟩
 unfold Iu;refine .j0 (.m (oA (by omega)) (.c (λ_=> .kt (.m (oA (by omega)) (.s ⟨ha,tr⟩))) λ_=> .c (λ_=> .m (oA (by omega)) (.s ⟨ha,tr⟩)) λ_=>?_));refine .j (λy:Ao=>y.Cap=a0.Cap∧Tk a0.L y.L) (λy hy=> .s ⟨?_,hy.2⟩) λk hk=> .l (λx:Int×Ao=>∃i:Nat,x.1=(i:Int)∧i≤a0.L.length∧x.2.Cap=a0.Cap∧Tk (a0.L.take i) x.2.L∧x.2.L.length≤i∧wt x.2.L≤240 *i) (λx:Int×Ao=>((a0.L.length:Int) - x.1).toNat) (λx hx k' NW=>?_) ⟨0,rfl,Nat.zero_le _,rfl,zuZ,Nat.le_refl _,Nat.le_refl _⟩ (by simp only;omega)
 ·have:=zvo ha hy.2;rwa [←hy.1]at this
 ·obtain⟨i,h1,h2,h3,h4,h5,h6⟩:=hx;refine .c (λh=>?_) λh=>hk _ ⟨h3,?_⟩
  ·simp only[B]at h;have o3:gA .i64 x.1 1=((i+1:Nat):Int):=by rw[h1,DA (by omega) (by omega)];omega
   refine .bi (by omega) (by omega) λe he hew=> .b (znR (T.el e (List.mem_of_getElem? he))) λr hr=>?_;rw[show x.1.toNat=i by omega]at he;have ht:=take_succ he;have hs:=TE hr.1;refine .jt (λy=> .j (λy:Ao=>y.Cap=a0.Cap∧Tk (a0.L.take (i+1)) y.L∧y.L.length≤i+1∧wt y.L≤240 *(i+1)) (λy hy=>NW _ ⟨i+1,o3,by omega,hy.1,hy.2.1,hy.2.2.1,hy.2.2.2⟩ (by simp only[o3];omega)) λk2 IV=> .c (λ_=> .g ?_ (IV _ ⟨h3,?_,?_,?_⟩)) λ_=>IV _ ⟨h3,?_,by omega,by omega⟩) λk2 IV=> .c (λ_=>IV _) λ_=>IV _
   ·simp only[N]at hs⊢;omega
   ·rw[ht];exact zuG h4 hr
   ·simp only[N]at hs⊢;omega
   ·simp only[N]at hs⊢;omega
   ·rw[ht];exact zt5 e h4
  ·simp only[B]at h;rw[show a0.L.take i=a0.L from List.take_of_length_le (by omega)]at h4;exact h4
def zmT{a0 a1}(ha:BB a0=true):Ok (Iv a0 a1) λr=>BB r.1=true∧r.1.Psks=a0.Psks∧TB r.2∧r.2.length≤12:=by
 unfold Iv;refine have:=oF ha;have S:=IE.1 ha;have:=S.tab;have T:=KE.1 S.tab;have hw:=QB a0.T.L;have:=T.len;
 .m (oA ?_) (.j0 (.m (oA ?_) (.c (λh1=> .kt (.s ⟨?_,?_,?_,?_⟩))
  λh1=>have:=oF (nf h1); .c (λh2=> .s ⟨?_,?_,?_,?_⟩)
  λh2=> .b (zoe ?_) λr5 RV=>have:=dL RV.1;have Z2:=cJ (d:=⟨a0.Psks,a0.J,a0.D,r5,a0.Cr⟩) ha rfl S.jar S.dice RV.1 S.cr (λe he=>(by obtain⟨d,h1,h2⟩:=zlc RV.2 he;have e1:e.Id=d.Id:=h2.2.1;show e.Id≤(a0.Psks.length:Int);rw[e1];exact S.id d h1)); .j (λy6:(List Ad)=>TB y6∧y6.length≤12) (λy6 oZ=> .s ⟨?_,?_,?_,?_⟩)
  λk7 wW=> .l (λx8:(List Ad)×Int=>(0≤x8.2∧x8.2≤(a0.T.L.length:Int))∧TB x8.1∧(x8.1.length:Int)≤x8.2) (λx8:(List Ad)×Int=>((a0.T.L.length:Int) - x8.2).toNat) (λx8 E6 k9 KX=>have:=kE E6.2.1; .c (λh3=> .bm ?_ ?_ λe10 SY XX=>have LZ:=T.el _ SY;have:=TE LZ; .m (oA ?_) (have:=JN r5 e10.Sn; .j (λy12:Bool=>True) (λy12 tY=> .j (λy15:(List Ad)=>TB y15∧(y15.length:Int)≤x8.2+1) (λy15 F0=>KX _ ⟨?_,?_,?_⟩ ?_)
  λk16 aX=> .c (λh4=> .b (zaA ?_ ?_ ?_) λr17 A0=>have:=AS A0;have KW:=jE.2 ⟨E6.2.1,kD.2 ⟨A0,qC⟩⟩; .g ?_ (aX _ ⟨?_,?_⟩))
  λh4=>aX _ ⟨?_,?_⟩)
  λk13 gW=> .c (λh5=> .c (λh6=>gW _ ?_)
  λh6=> .h ?_ (.bg ?_ λe14 E0 pZ=>gW _ ?_))
  λh5=>gW _ ?_))
  λh3=>wW _ ⟨?_,?_⟩) ⟨?_,?_,?_⟩ ?_)))
 all_goals first | trivial | assumption | exact qC | exact Z2 | ((try simp only[NB]at *)<;>(try simp(disch:=omega) only[DA,SA]at *)<;>omega) | grind [eA,mA]
def zic{a0 a1}(ha:wt a0≤1000000):Ok (Iw a0 a1) λr=>(YB a0=true→YB r=true)∧wt r≤wt a0:=by
 unfold Iw
 refine .m (oA ?_) (.j (λy2:Bool=>y2=true→YB a0=true∧eA a1 0 10000=true) (λy2 rW=> .j (λy4:As=>(YB a0=true→YB y4=true)∧wt y4≤wt a0) (λy4 mZ=> .s ⟨?_,?_⟩)
  λk5 sW=> .c (λh1=>sW _ ⟨?_,?_⟩)
  λh1=>sW _ ⟨?_,?_⟩)
  λk3 JV=> .c (λh2=>have:=zfa h2;JV _ ?_)
  λh2=>JV _ ?_)
 all_goals first | trivial | ((try simp only[NB]at *)<;>omega) | grind [eA,mA,YB]
def zqj{a0 a1}(ha:wt a0≤500000000)(hb:wt a1≤1000):Ok (Ix a0 a1) λr=>r=a0∨r=a0++[a1]∧fE r=true:=by
 unfold Ix
 refine .g ?_ (.g ?_ (.m (oA ?_) (.c (λh1=> .m (oA ?_) (.s ?_))
  λh1=>have:=zbA (nf h1); .s ?_)))
 all_goals first | trivial | exact .inl rfl | ((try simp only[NB]at *)<;>omega) | grind [eA,mA]
def zhu{a0}:Ok (Do a0) λr=>r=true→1≤a0.Kind∧a0.Kind≤10∧a0.B.length≤200∧0≤a0.I∧0≤a0.J:=by
 unfold Do
 refine .j0 (.c (λh1=> .c (λh2=> .c (λh3=> .s ?_)
  λh3=> .s ?_)
  λh2=> .s ?_)
  λh1=> .s ?_)
 all_goals first | trivial | ((try simp only[NB]at *)<;>omega) | grind [eA,mA]
def zdD{a0}:Ok (Jm a0) λr=>0≤r∧r≤3∧((a0=4∨a0=9)→r=1)∧((a0=5∨a0=6∨a0=7∨a0=8)→r=2)∧(a0=10→r=3):=by
 by_cases h:4≤a0∧a0≤10
 ·have:a0=4∨a0=5∨a0=6∨a0=7∨a0=8∨a0=9∨a0=10:=by omega
  rcases this with rfl | rfl | rfl | rfl | rfl | rfl | rfl<;>exact⟨_,rfl,by decide⟩
 ·have e:∀k:Int,4≤k→k≤10→(a0==k)=false:=λk _ _=>beq_false_of_ne (by omega);refine⟨0,?_,by omega⟩;simp[Jm,aA,e]
def zo5{a0 a1}(ha:a0.length≤1000000)(hb:a0.length=a1.length):Ok (Jd a0 a1) λr=>r.length≤a0.length:=by
 unfold Jd
 refine .j (λy1:(List UInt8)=>y1.length≤a0.length) (λy1 ZV=> .s ?_)
  λk2 IV=> .l (λx3:(List UInt8)×Int=>0≤x3.2∧x3.2≤(a0.length:Int)∧(x3.1.length:Int)=x3.2) (λx3:(List UInt8)×Int=>((a0.length:Int) - x3.2).toNat) (λx3 WX k4 iW=> .c (λh1=> .bi ?_ ?_ λe5 gX ZW=> .bi ?_ ?_ λe6 dY kX=> .g ?_ (iW _ ?_ ?_))
  λh1=>IV _ ?_) ?_ ?_
 all_goals first | trivial | ((try simp only[NB]at *)<;>(try simp(disch:=omega) only[DA,SA]at *)<;>omega) | grind [eA,mA]
def zor{a0 a1 a2 a3}(ha:wt a0≤300000)(hb:wt a1≤4000)(hc:wt a2≤20000)(hd:wt a3≤1000)(he:0≤a0.I)(hf:((a0.Kind=4∨a0.Kind=9)→1≤a1.length)∧((a0.Kind=5∨a0.Kind=6∨a0.Kind=7∨a0.Kind=8)→2≤a1.length)∧(a0.Kind=10→3≤a1.length)):Ok (Je a0 a1 a2 a3) λr=>r.1.length≤500000:=by
 unfold Je
 refine .c (λh1=> .s ?_)
  λh1=> .j0 (.c (λh2=> .c (λh3=> .bi ?_ ?_ λe3 v4 R1=> .s ?_)
  λh3=> .s ?_)
  λh2=> .j0 (.c (λh4=> .c (λh5=> .bi ?_ ?_ λe6 dY kX=> .s ?_)
  λh5=> .s ?_)
  λh4=> .c (λh6=> .bi ?_ ?_ λe7 MZ uY=> .m (oA ?_) (have:=zvh e7 a0.I a0.J; .s ?_))
  λh6=> .c (λh7=> .bi ?_ ?_ λe9 nZ bY=> .bi ?_ ?_ λe10 SY XX=> .m (oA ?_) (have:=gI [e9,e10]; .s ?_))
  λh7=> .j0 (.c (λh8=> .bi ?_ ?_ λe14 E0 pZ=> .bi ?_ ?_ λe15 AY BY=> .c (λh9=> .bi ?_ ?_ λe16 t4 X2=>match(Option.some.inj (E0.symm.trans t4):e14=e16)with | rfl=>(.bi ?_ ?_ λe17 he17 he17w=>match(Option.some.inj (AY.symm.trans he17):e15=e17)with | rfl=>(.b (zo5 ?_ ?_) λr18 AZ=> .s ?_)))
  λh9=> .s ?_)
  λh8=> .c (λmW=> .bi ?_ ?_ λe19 he19 he19w=> .bi ?_ ?_ λe20 he20 he20w=>have hhm:=XK e19 e20; .s ?_)
  λmW=> .c (λGW=> .bi ?_ ?_ λe22 EZ Y2=> .bi ?_ ?_ λe23 he23 N6=> .b hU λr24 RX=> .s ?_)
  λGW=> .c (λIW=> .bi ?_ ?_ λe25 he25 B7=> .m (oA ?_) (have:=gM e25 [114,101,107,101,121];have:=@hM e25 [114,101,107,101,121]; .s ?_))
  λIW=> .c (λSW=> .bi ?_ ?_ λe27 he27 C7=> .bi ?_ ?_ λe28 he28 L6=> .bi ?_ ?_ λe29 fY G7=> .b (zes ?_ ?_) λr30 B4=> .s ?_)
  λSW=> .s ?_)))
 all_goals first | trivial | ((try simp only[NB]at *)<;>omega) | grind [eA,mA]
def zd6{a0 a1 a2}(ha:wt a0≤300000)(hb:wt a1≤20000)(hc:wt a2≤1000):Ok (Ic a0 a1 a2) λr=>r.1.length≤10000:=by
 unfold Ic;refine have hla:=QB a0;
 .c (λh1=> .s ?_)
  λh1=>have oY:a0.length≤16:=(by have:=h1;simp only[B]at this;omega); .j (λy1:(List (List UInt8))=>wt y1≤3300) (λy1 ZV=>have hyw:=QB y1; .c (λh2=> .s ?_)
  λh2=> .h ?_ (.bg ?_ λe15 AY BY=> .m (oA ?_) (.s ?_)))
  λk2 IV=> .l (λx3:(List (List UInt8))×Int=>0≤x3.2∧x3.2≤(a0.length:Int)∧wt x3.1≤201 *x3.2) (λx3:(List (List UInt8))×Int=>((a0.length:Int) - x3.2).toNat) (λx3 WX k4 iW=>have hpw:=QB x3.1; .c (λh3=> .bi ?_ ?_ λe5 gX ZW=> .b zdD λr6 vW=>have hi:gA .i64 x3.2 1=x3.2+1:=DA (by omega) (by omega);have hdz:x3.1.drop 0=x3.1:=rfl;have hs:qA .i64 (x3.1.length:Int) r6=(x3.1.length:Int) - r6:=SA (by omega) (by omega);have hw1:=TD (x3.1.drop (qA .i64 (x3.1.length:Int) r6).toNat) ((x3.1.length:Int) - qA .i64 (x3.1.length:Int) r6).toNat;have hw2:=cF x3.1 (qA .i64 (x3.1.length:Int) r6).toNat;have hw3:=TD x3.1 (qA .i64 (x3.1.length:Int) r6).toNat; .j (λy7:Bool=>y7=false→1≤e5.Kind∧e5.Kind≤10∧e5.B.length≤200∧0≤e5.I∧r6≤(x3.1.length:Int)) (λy7 IY=> .c (λh4=> .s ?_)
  λh4=> .h ?_ (.b (zor (have:=TD (List.drop ((qA .i64 (x3.1.length:Int) r6).toNat) x3.1) (((x3.1.length:Int) - (qA .i64 (x3.1.length:Int) r6)).toNat);have:=cF x3.1 ((qA .i64 (x3.1.length:Int) r6).toNat);?_) (have:=TD (List.drop ((qA .i64 (x3.1.length:Int) r6).toNat) x3.1) (((x3.1.length:Int) - (qA .i64 (x3.1.length:Int) r6)).toNat);have:=cF x3.1 ((qA .i64 (x3.1.length:Int) r6).toNat);?_) (have:=TD (List.drop ((qA .i64 (x3.1.length:Int) r6).toNat) x3.1) (((x3.1.length:Int) - (qA .i64 (x3.1.length:Int) r6)).toNat);have:=cF x3.1 ((qA .i64 (x3.1.length:Int) r6).toNat);?_) (have:=TD (List.drop ((qA .i64 (x3.1.length:Int) r6).toNat) x3.1) (((x3.1.length:Int) - (qA .i64 (x3.1.length:Int) r6)).toNat);have:=cF x3.1 ((qA .i64 (x3.1.length:Int) r6).toNat);?_) (have:=TD (List.drop ((qA .i64 (x3.1.length:Int) r6).toNat) x3.1) (((x3.1.length:Int) - (qA .i64 (x3.1.length:Int) r6)).toNat);have:=cF x3.1 ((qA .i64 (x3.1.length:Int) r6).toNat);?_) (have:=TD (List.drop ((qA .i64 (x3.1.length:Int) r6).toNat) x3.1) (((x3.1.length:Int) - (qA .i64 (x3.1.length:Int) r6)).toNat);have:=cF x3.1 ((qA .i64 (x3.1.length:Int) r6).toNat);?_)) λr10 uW=> .j (λy11:Bool=>y11=false→r10.1.length≤200) (λy11 G4=> .c (λh5=> .s ?_)
  λh5=> .h ?_ (.g (have:=TD (List.drop 0 x3.1) ((qA .i64 (x3.1.length:Int) r6 - 0).toNat);have:=cF x3.1 0;?_) (.g (have:=TD (List.drop 0 x3.1) ((qA .i64 (x3.1.length:Int) r6 - 0).toNat);have:=cF x3.1 0;?_) (iW _ (have:=TD (List.drop 0 x3.1) ((qA .i64 (x3.1.length:Int) r6 - 0).toNat);have:=cF x3.1 0;?_) (have:=TD (List.drop 0 x3.1) ((qA .i64 (x3.1.length:Int) r6 - 0).toNat);have:=cF x3.1 0;?_)))))
  λk12 BW=> .c (λh6=>BW _ ?_)
  λh6=> .c (λh7=>BW _ ?_)
  λh7=>BW _ ?_))
  λk8 qW=> .b zhu λr9 FX=> .c (λh8=>qW _ ?_)
  λh8=>qW _ ?_)
  λh3=>IV _ ?_) ?_ ?_
 all_goals first | trivial | ((try simp only[NB]at *)<;>(try simp(disch:=omega) only[DA,SA]at *)<;>omega) | grind [eA,mA,MN,VC,zF,FA]
def zgZ{a0 a1}(ha:kC a0=true)(hb:wt a1≤300000):Ok (Dw a0 a1) λr=>GE a0 r.1∧vE r.2.1∧(r.2.1.length≤1∧wt r.2.1≤400)∧TB r.2.2.1∧r.2.2.1.length≤2:=by
 unfold Dw;refine have:=TE ha;have hl:=@GM a0 ha;have:=NN ha;
 .m (oA ?_) (.j0 (.m (oA ?_) (.c (λh1=> .kt (.s ⟨?_,?_,?_,?_,?_⟩))
  λh1=>have:=SK (nf h1); .c (λh2=> .s ⟨?_,?_,?_,?_,?_⟩)
  λh2=> .c (λh3=> .s ⟨?_,?_,?_,?_,?_⟩)
  λh3=>have hd:=h3;have hl:=hl h3; .b (cP ?_ ?_) λr5 RV=>have hS:=uM (a:=a0) (c:=r5.1) (p:=a0.P) (l:=a0.Last) ha RV.1 (RV.2.1.1.trans hl.2.1) (RV.2.1.2.1.trans hl.2.2.1) hl.2.2.2.1 hl.2.2.2.2.2 hd; .c (λh4=> .s ⟨?_,?_,?_,?_,?_⟩)
  λh4=> .m (oA ?_) (.m (oA ?_) (.b (HL ?_ ?_) λr8 QW=> .s ⟨?_,?_,?_,?_,?_⟩)))))
 all_goals first | trivial | assumption | exact qC | exact UG | ((try simp only[NB]at *)<;>omega) | grind [eA,mA,gH,fO,UG,nC,LC,tE,GA,kD,qC,jE]
def zgN{a0 a1 a2 a3}(ha:BB a0=true)(hb:wt a3≤300000):Ok (Js a0 a1 a2 a3) λr=>BB r.1=true∧r.1.Psks=a0.Psks∧vE r.2.1∧(r.2.1.length≤1∧wt r.2.1≤400)∧TB r.2.2.1∧r.2.2.1.length≤2:=by
 unfold Js;refine have:=oF ha;have S:=IE.1 ha;have:=S.tab;have hw:=QB a0.T.L;
 .m (oA ?_) (.j0 (.m (oA ?_) (.c (λh1=> .kt (.s ⟨?_,?_,?_,?_,?_,?_⟩))
  λh1=>have:=oF (nf h1); .c (λh2=> .s ⟨?_,?_,?_,?_,?_,?_⟩)
  λh2=> .j0 (.c (λh3=> .kt (.s ⟨?_,?_,?_,?_,?_,?_⟩))
  λh3=> .c (λh4=> .s ⟨?_,?_,?_,?_,?_,?_⟩)
  λh4=> .bm ?_ ?_ λe7 MZ uY=>have LZ:=(KE.1 S.tab).el _ MZ;have:=TE LZ; .b (zgZ ?_ ?_) λr8 QW=>have:=TE QW.1.1; .c (λh5=> .s ⟨?_,?_,?_,?_,?_,?_⟩)
  λh5=> .b (zab ?_ ?_) λr9 FX=>have Z2:=cJ (d:=⟨a0.Psks,a0.J,a0.D,r9.1,a0.Cr⟩) ha rfl S.jar S.dice FX.1 S.cr (λe he=>(FX.2.1 e he).elim (S.id e) λh=>(by rw[h,QW.1.2.1];exact S.id _ MZ)); .s ⟨?_,?_,?_,?_,?_,?_⟩))))
 all_goals first | trivial | assumption | exact qC | exact UG | ((try simp only[NB]at *)<;>omega) | grind [eA,mA]
def zpG{a0}(ha:BB a0=true):Ok (Gi a0) λr=>BB r.1=true∧r.1.Psks=a0.Psks∧TB r.2∧r.2.length≤2:=by
 unfold Gi;refine have:=oF ha;have S:=IE.1 ha;have:=S.dice;have:=PI a0.D;have hj:=@zj4 (QC a0.D).2;have ht:=zkg (KE.1 S.tab).cap;have hl:=hj;have Z2:=λh=>cJ (d:=⟨a0.Psks,BH (QC a0.D).2,(QC a0.D).1,dF a0.T.Cap,[]⟩) ha rfl (hj h) ((PI a0.D).2.2.1 S.dice) ht rfl (λe h=>(by have h:e∈(dF a0.T.Cap).L:=h;rw[zhT (KE.1 S.tab).cap]at h;cases h));have:=uU (QC a0.D).2;have:=zeE a0.T.Cap;
 .m (oA ?_) (.j0 (.m (oA ?_) (.c (λh1=> .kt (.s ⟨?_,?_,?_,?_⟩))
  λh1=>have:=oF (nf h1); .c (λh2=> .s ⟨?_,?_,?_,?_⟩)
  λh2=> .m (oA ?_) (have:=PI a0.D; .m (oA ?_) (have:=zbF (QC a0.D).2;have:=@za0 (QC a0.D).2; .m (oA ?_) (.s ⟨?_,?_,?_,?_⟩))))))
 all_goals first | trivial | assumption | exact qC | ((try simp only[NB]at *)<;>omega) | grind [eA,mA,UE,nC,LC,tE,GA,kD,qC,jE]
def zmM{a0 a1}(ha:BB a0=true):Ok (Jt a0 a1) λr=>BB r.1=true∧r.1.Psks=a0.Psks∧TB r.2.1∧r.2.1.length≤1:=by
 unfold Jt;refine have:=oF ha;have S:=IE.1 ha;have:=S.tab;have hw:=QB a0.T.L;
 .m (oA ?_) (.m (oA ?_) (.c (λh1=> .s ⟨?_,?_,?_,?_⟩)
  λh1=>have:=oF (nf h1); .j0 (.c (λh2=> .kt (.s ⟨?_,?_,?_,?_⟩))
  λh2=> .c (λh3=> .kt (.s ⟨?_,?_,?_,?_⟩))
  λh3=> .bm ?_ ?_ λe5 gX ZW=> .c (λh4=> .s ⟨?_,?_,?_,?_⟩)
  λh4=> .bm ?_ ?_ λe6 dY kX=>have LZ:=(KE.1 S.tab).el _ dY;have:=TE LZ; .b (zd5 ?_) λr7 FW=>have:=TE FW.1.1; .b (zab ?_ ?_) λr8 QW=>have Z2:=cJ (d:=⟨a0.Psks,a0.J,a0.D,r8.1,a0.Cr⟩) ha rfl S.jar S.dice QW.1 S.cr (λe he=>(QW.2.1 e he).elim (S.id e) λh=>(by rw[h,FW.1.2.1];exact S.id _ dY)); .b (zaA ?_ ?_ ?_) λr9 FX=> .s ⟨?_,?_,?_,?_⟩)))
 all_goals first | trivial | assumption | exact qC | ((try simp only[NB]at *)<;>omega) | grind [eA,mA,kD,qC]
def zoC{a0}(ha:wt a0≤1000000):Ok (Iq a0) λr=>wt r≤400∧(∀b∈r,b.length=32):=by
 unfold Iq
 refine .m (oA ?_) (.c (λh1=> .s ⟨?_,?_⟩)
  λh1=>have:=GC (nf h1); .j (λy2:(List (List UInt8))=>wt y2≤200∧(∀b∈y2,b.length=32)) (λy2 rW=> .m (oA ?_) (.g ?_ (.j (λy6:(List (List UInt8))=>wt y6≤400∧(∀b∈y6,b.length=32)) (λy6 oZ=> .s ⟨?_,?_⟩)
  λk7 wW=> .c (λh2=> .m (oA ?_) (.g ?_ (wW _ ⟨?_,?_⟩)))
  λh2=>wW _ ⟨?_,?_⟩)))
  λk3 JV=> .c (λh3=> .m (oA ?_) (.g ?_ (JV _ ⟨?_,?_⟩)))
  λh3=>JV _ ⟨?_,?_⟩)
 all_goals first | trivial | ((try simp only[NB]at *)<;>omega) | grind [eA,mA,XB,GG,JC]
end Go.D
namespace Go.D
def yO{w:Aa}(h:ZA w=true):wt w≤22600+wt w.Notes:=by
 have:=UJ h;simp only[N,TO]at this⊢;omega
structure TkP(a0:Aa)(i:Nat)(l:List Ak)(w:Aa):Prop where
 ok:ZA w=true
 now:w.Now=a0.Now+1
 notes:∃m,w.Notes=a0.Notes++m∧m.length≤6 *i
 wires:∀x∈l,lE x=true∧x.To=LD∧∃j c,j<i∧w.Clients[j]?=some c∧x.From=c.At
 wl:wt l≤201 *i
def TkP.wt{a0:Aa}{i:Nat}{l:List Ak}{w:Aa}(h:TkP a0 i l w):wt w.Notes≤wt a0.Notes+942 *i∧wt w≤22600+wt a0.Notes+942 *i:=by
 obtain⟨m,h1,h2⟩:=h.notes;have hn:=(SB.1 h.ok).notes;have hw:=yO h.ok;rw[h1]at hn hw⊢;have:=kE (jE.1 hn).2;simp only[N]at hw⊢;omega
def zhd{a0}(ha:wt a0≤800000000):Ok (Bm a0) λr=>(ZA a0=true→ZA r.1=true)∧(∃m,r.1.Notes=a0.Notes++m)∧wt r.1≤wt a0+120000∧wt r.2≤1000∧
  (ZA a0=true→∀x∈r.2,lE x=true∧x.To=LD∧∃c∈r.1.Clients,x.From=c.At)∧(ZA a0=true→a0.Now≠1000000→r.1.Now=a0.Now+1)∧(ZA a0=false∨a0.Now=1000000→r.1=a0∧r.2=[]):=by
 have hL:=mB
 have hz:∀(_:ZA a0=false∨a0.Now=1000000),Ok (some (a0,([]:List Ak))) λr=>(ZA a0=true→ZA r.1=true)∧(∃m,r.1.Notes=a0.Notes++m)∧wt r.1≤wt a0+120000∧wt r.2≤1000∧
   (ZA a0=true→∀x∈r.2,lE x=true∧x.To=LD∧∃c∈r.1.Clients,x.From=c.At)∧(ZA a0=true→a0.Now≠1000000→r.1.Now=a0.Now+1)∧(ZA a0=false∨a0.Now=1000000→r.1=a0∧r.2=[]):=λh=>
  .s ⟨id,⟨[],(List.append_nil _).symm⟩,Nat.le_add_right _ _,Nat.zero_le _,(λ_ _ h=>nomatch h),λh1 h2=>(h.elim (λh=>absurd h (by rw[h1];decide)) λh=>absurd h h2),λ_=>⟨rfl,rfl⟩⟩
 unfold Bm;refine .m (oA (by omega)) (.j0 (.m (oA (by omega)) (.c (λh1=> .kt (hz (.inl (by simpa using h1)))) λh1=> .c (λh2=>hz (.inr (by simpa using h2))) λh2=>?_)));have A1:ZA a0=true:=by simpa using h1
 have W1:a0.Now≠1000000:=by simpa using h2
 have W:=SB.1 A1;have hn:=uB.1 W.now;have hN0:wt a0.Notes≤wt a0:=by simp only[gG];omega
 refine .j (λy:List Ak×Aa=>TkP a0 2 y.1 y.2) (λy hy=>?_) λk hk=> .l (λx:List Ak×Int×Aa=>∃i:Nat,x.2.1=(i:Int)∧i≤2∧TkP a0 i x.1 x.2.2) (λx:List Ak×Int×Aa=>(2 - x.2.1).toNat) (λx hx k' NW=>?_) ⟨0,rfl,by omega,?_⟩ (by simp only;omega)
 ·have hw:=hy.wt;have Y:=SB.1 hy.ok;refine .b (zmT Y.srv) λr hr=>?_;have hnw:=kE hr.2.2.1;refine .g (by omega) ?_;have fX:=zeF hy.ok hr.1 hr.2.1 hr.2.2.1;refine .s ⟨λ_=>fX,?_,?_,by have:=hy.wl;show wt y.1≤_;omega,λ_ x hx=>?_,λ_ _=>hy.now,λh=>?_⟩
  ·obtain⟨m,h3,_⟩:=hy.notes;exact⟨m++r.2,by show y.2.Notes++r.2=_;rw[h3,List.append_assoc]⟩
  ·have h4:=yO fX;have h5:wt (y.2.Notes++r.2)=wt y.2.Notes+wt r.2:=by simp only[N]
   have h6:wt a0.Notes≤wt a0:=by simp only[gG];omega
   show wt (⟨_,_,_,_,_,_,y.2.Notes++r.2⟩:Aa)≤_
   have h4:wt (⟨y.2.Now,y.2.Clients,r.1,y.2.D,y.2.Seen,y.2.Known,y.2.Notes++r.2⟩:Aa)≤22600+wt (y.2.Notes++r.2):=h4;omega
  ·obtain⟨w1,w2,j,c,_,w3,w4⟩:=hy.wires x hx;exact⟨w1,w2,c,List.mem_of_getElem? w3,w4⟩
  ·rcases h with h | h
   ·rw[h]at A1;cases A1
   ·exact absurd h W1
 ·obtain⟨i,e1,e2,hx⟩:=hx;have hw:=hx.wt;have X:=SB.1 hx.ok;have IZ:=X.cl;have jZ:=W.cl;refine .c (λh3=>?_) λh3=>hk _ ?_
  ·simp only[B]at h3;have o3:gA .i64 x.2.1 1=((i+1:Nat):Int):=by rw[e1,DA (by omega) (by omega)];omega
   refine .h (by simp only[B];omega) ?_;rw[show x.2.1.toNat=i by omega];refine .bg (by omega) λe9 he hew=>?_;obtain⟨c1,c2,c3⟩:=X.ci i e9 he;refine .b (zgL c1) λr hr=>?_;have hnw:=kE hr.2.2.1;have J8:=ID hr.1;refine .h (by simp only[B];omega) (.m he (.g (by omega) (.b (CV (by have:=J8.1;omega) (by omega)) λr12 IW=> .g (by have:=hx.wl;omega) (NW _ ⟨i+1,o3,by omega,?_⟩ (by simp only[o3];omega)))));have K8:=IW.2 (by rw[hr.2.1.2.2];exact zc9 c1);refine⟨zeI hx.ok he hr.1 hr.2.1.1 hr.2.1.2.1 hr.2.2.1,hx.now,?_,λz hz=>?_,?_⟩
   ·obtain⟨m,h4,h5⟩:=hx.notes;exact⟨m++r.2.2,by show x.2.2.Notes++r.2.2=_;rw[h4,List.append_assoc],by rw[List.length_append];omega⟩
   ·rcases List.mem_append.1 hz with hz | hz
    ·obtain⟨w1,w2,j,c,hj,w3,w4⟩:=hx.wires z hz;exact⟨w1,w2,j,c,by omega,by show(x.2.2.Clients.set i r.1)[j]?=_;rw[List.getElem?_set_ne (by omega)];exact w3,w4⟩
    ·obtain⟨w1,w2⟩:=K8.1 z hz;exact⟨w1,K8.2 z hz,i,r.1,by omega,by show(x.2.2.Clients.set i r.1)[i]?=_;rw[List.getElem?_set_self (by omega)],w2⟩
   ·have h4:=IW.1;have h5:wt (x.1++r12)=wt x.1+wt r12:=by simp only[N]
    have h6:=hx.wl;show wt (x.1++r12)≤_
    omega
  ·simp only[B]at h3;have:i=2:=by omega
   subst this;exact hx
 ·exact⟨zuO A1 W1,DA (by omega) (by omega),⟨[],(List.append_nil _).symm,Nat.le_refl _⟩,(λ_ h=>nomatch h),Nat.le_refl _⟩
end Go.D

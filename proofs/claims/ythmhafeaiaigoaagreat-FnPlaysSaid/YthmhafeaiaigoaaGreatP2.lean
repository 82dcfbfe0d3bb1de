/-
 The program's machine comes to an end; what is right stays right.
-/
import Derived.Test.YthmhafeaiaigoaaGreatP1
set_option linter.all false
namespace Go.D
def zir{a0 a1 a2 a3 a4}(ha:vC a0=true)(hb:wB a3=true)(hc:a4.length≤100):Ok (Gm a0 a1 a2 a3 a4) λr=>XE a0 r.1∧HE r.2.1∧(r.2.1.length≤2∧wt r.2.1≤800)∧iC r.2.2.1∧r.2.2.1.length≤5:=by
 unfold Gm;refine have:=mF ha;have hl:=@WM a0 ha;have:=iO ha;have:=uD hb;
 .m (qA ?_) (.j0 (.m (qA ?_) (.c (λh1=> .kt (.s ⟨?_,?_,?_,?_,?_⟩))
  λh1=>have:=bL (nf h1); .c (λh2=> .kt (.s ⟨?_,?_,?_,?_,?_⟩))
  λh2=>have hd:=h2;have hl:=hl h2; .c (λh3=> .s ⟨?_,?_,?_,?_,?_⟩)
  λh3=>have:=GF (nf h3); .b (zip ?_ ?_) λr5 RV=> .c (λh4=> .s ⟨?_,?_,?_,?_,?_⟩)
  λh4=>have hx:=RV.2.2.2.2 (by simpa using h4);have hS:=MM (a:=a0) (c:=r5.1) (p:=a0.P) (l:=a1) ha RV.1 (RV.2.1.1.trans hl.2.1) (RV.2.1.2.trans hl.2.2.1) hl.2.2.2.1 hx.2.2 hd;have hfs:=zg8 hx.1 hx.2.1;have uY:=fC.1 hx.2.2; .b (zje ?_) λr6 vW=> .b (tP ?_) λr7 HW=> .b (zb5 ?_ ?_ ?_) λr8 sW=>have:=YS sW; .j (λy9:(List Ad)×(List Av)×Ah=>(iC y9.1∧y9.1.length≤3)∧HE y9.2.1∧(y9.2.1.length≤1∧wt y9.2.1≤400)∧(XE a0 y9.2.2∧y9.2.2.Dead=false)) (λy9 yY=>have hs9:=yY.2.2.2.1.1;have:=mF hs9;have hl9:=WM hs9 yY.2.2.2.2;have:=CE yY.1.1; .b (zrE ?_ ?_) λr23 cZ=> .b (rP ?_ ?_) λr24 uX=>have hS9:=zkl yY.2.2.2.1 (MM (a:=y9.2.2) (c:=r24.1) (p:=r23.1) (l:=y9.2.2.Last) hs9 uX.1 (uX.2.1.1.trans hl9.2.1) (uX.2.1.2.1.trans hl9.2.2.1) cZ.1 hl9.2.2.2.2.2 yY.2.2.2.2); .j0 (.c (λh5=> .kt (.s ⟨?_,?_,?_,?_,?_⟩))
  λh5=> .c (λh6=> .s ⟨?_,?_,?_,?_,?_⟩)
  λh6=> .g ?_ (.b (WL ?_ ?_) λr27 tY=>have:=YS tY;have WW:=xE.2 ⟨yY.1.1,vD.2 ⟨tY,AC⟩⟩; .g ?_ (.s ⟨?_,?_,?_,?_,?_⟩))))
  λk10 OV=> .c (λh7=> .m (qA ?_) (.g ?_ (OV _ ⟨?_,?_,?_,?_⟩)))
  λh7=> .j0 (.c (λh8=> .b (zrf ?_ ?_) λr15 NW=>have hS15:=MM (a:=a0) (c:=r5.1) (p:=r15.1) (l:=a1) ha RV.1 (RV.2.1.1.trans hl.2.1) (RV.2.1.2.trans hl.2.2.1) NW hx.2.2 hd; .j0 (.c (λh9=> .m (qA ?_) (.g ?_ (OV _ ⟨?_,?_,?_,?_⟩)))
  λh9=>OV _ ⟨?_,?_,?_,?_⟩))
  λh8=> .j0 (.c (λtW=> .b (zpp ?_ ?_ ?_) λr22 fX=>have hS22:=zkl hS fX.1;have:=CE fX.2.2.2.1;have WW:=xE.2 ⟨vD.2 ⟨sW,AC⟩,fX.2.2.2.1⟩; .g ?_ (.g ?_ (OV _ ⟨?_,?_,?_,?_⟩)))
  λtW=>OV _ ⟨?_,?_,?_,?_⟩)))))
 all_goals first | trivial | assumption | exact AC | exact iH | exact hS.1 | ((try simp only[NB]at *)<;>omega) | grind [eA,nA,yO,iH,zgS,mC,WC,UD,GA,vD,AC,xE]
def zot{a0 a1 a2 a3}(ha:KB a0=true)(hb:eA a1 0 1000000=true)(hc:GA a2=true)(hd:wB a3=true)(he:jC a3.Kind=true):Ok (Lc a0 a1 a2 a3) λr=>KB r.1=true∧r.1.Psks=a0.Psks∧HE r.2.1∧(r.2.1.length≤2∧wt r.2.1≤1000)∧iC r.2.2∧r.2.2.length≤8:=by
 unfold Lc;refine have hfs:=zg8 hd he;have:=DF ha;have S:=rF.1 ha;have:=S.tab;have:=uD hd;have hw:=zB a0.T.L;
 .m (qA ?_) (have:=eO a0.T a3.Sn; .j (λy2:Bool=>y2=false→0≤OE a0.T a3.Sn) (λy2 xW=> .c (λh1=> .s ⟨?_,?_,?_,?_,?_,?_⟩)
  λh1=> .m (qA ?_) (have:=sL a0.D; .b (zi3 ?_) λr6 _=> .j (λy7:(List UInt8)=>y7.length≤12) (λy7 aY=>have S2:=bF.1 S.tab; .bm ?_ ?_ λe9 LZ CY=>have G0:=S2.el _ LZ;have:=mF G0; .b (zir ?_ ?_ ?_) λr10 rW=>have:=mF rW.1.1;have:=CE rW.2.2.2.1; .b (zaV ?_ ?_) λr11 zW=>have hid:=λe he=>(zW.2.1 e he).elim (S.id e) λh=>(by rw[h,rW.1.2.1];exact S.id _ LZ);have W3:=rJ (d:=⟨a0.Psks,a0.J,a0.D,r11.1,a0.Cr⟩) ha rfl S.jar S.dice zW.1 S.cr hid;have hsv2:=rJ (d:=⟨a0.Psks,a0.J,(RC a0.D).1,r11.1,a0.Cr⟩) ha rfl S.jar ((sL a0.D).2.2.1 S.dice) zW.1 S.cr hid; .j (λy12:(List Ad)×Ac=>iC y12.1∧y12.1.length≤8∧KB y12.2=true∧y12.2.Psks=a0.Psks) (λy12 HX=> .s ⟨?_,?_,?_,?_,?_,?_⟩)
  λk13 XV=> .c (λh2=> .m (qA ?_) (.m (qA ?_) (.m (qA ?_) (have:=zcU y7;have:=@zcd y7; .g ?_ (.g ?_ (XV _ ⟨?_,?_,?_,?_⟩))))))
  λh2=>XV _ ⟨?_,?_,?_,?_⟩)
  λk8 pW=> .c (λh3=>pW _ ?_)
  λh3=>pW _ ?_))
  λk3 JV=> .c (λh4=>JV _ ?_)
  λh4=> .bm ?_ ?_ λe4 rZ TY=>JV _ ?_)
 all_goals first | trivial | assumption | exact AC | exact iH | ((try simp only[NB]at *)<;>omega) | grind [eA,nA,mC,WC,UD,GA,vD,AC,xE]
def zqL{a0}(ha:wt a0≤1000000000):Ok (Dv a0) λr=>0≤r:=by
 unfold Dv;refine .b (ze1 ?_) λr1 NV=> .s ?_
 all_goals first | trivial | ((try simp only[NB]at *)<;>omega) | grind [eA,nA]
def zrn{a0 a1 a2}(ha:kD a0=true):Ok (Dw a0 a1 a2) λr=>kD r.1=true:=by
 unfold Dw;refine have:=KI ha;have:=iT a0 a1;
 .m (qA ?_) (.j0 (.c (λh1=> .kt (.s ?_))
  λh1=>have:=KI (nf h1); .c (λh2=> .kt (.s ?_))
  λh2=> .b (ziP ?_) λr4 UV=> .c (λh3=> .s ?_)
  λh3=> .h ?_ (.bg ?_ λe5 BX tX=>have hg:=zhc ha BX;have hk:=@zmM a0 _ e5 e5.Got (iA .i64 e5.Sent a2) ha BX;have hi:=@DA e5.Sent a2; .h ?_ (.m BX (.s (have:=EC a0 ((oB a0 a1).toNat) (⟨e5.A,e5.Got,iA .i64 e5.Sent a2⟩:Al);?_))))))
 all_goals first | trivial | ((try simp only[NB]at *)<;>(try simp(disch:=omega) only[DA,LA]at *)<;>omega) | grind [eA,nA]
def zpa{a0 a1 a2 a3}(ha:KB a0=true)(hb:wt a3≤900000000):Ok (In a0 a1 a2 a3) λr=>KB r.1=true∧r.1.Psks=a0.Psks∧HE r.2.1∧(r.2.1.length≤3∧wt r.2.1≤9100)∧iC r.2.2∧r.2.2.length≤8:=by
 unfold In;refine have:=DF ha;have S:=rF.1 ha;have:=S.cr;
 .m (qA ?_) (.j0 (.m (qA ?_) (.c (λh1=> .kt (.s ⟨?_,?_,?_,?_,?_,?_⟩))
  λh1=>have:=DF (nf h1); .c (λh2=> .kt (.s ⟨?_,?_,?_,?_,?_,?_⟩))
  λh2=> .c (λh3=> .s ⟨?_,?_,?_,?_,?_,?_⟩)
  λh3=>have:=GF (nf h3); .b (zsk ?_) λr5 RV=>have W3:=rJ (d:=⟨a0.Psks,a0.J,a0.D,a0.T,r5⟩) ha rfl S.jar S.dice S.tab RV S.id; .b (ziB ?_) λr6 vW=> .j (λy7:(List Av)×(List Ad)×Ac=>HE y7.1∧(y7.1.length≤3∧wt y7.1≤2000)∧iC y7.2.1∧y7.2.1.length≤8∧KB y7.2.2=true∧y7.2.2.Psks=a0.Psks) (λy7 aY=> .j (λy18:(List Av)×Ac=>HE y18.1∧(y18.1.length≤3∧wt y18.1≤9100)∧KB y18.2=true∧y18.2.Psks=a0.Psks) (λy18 z0=> .s ⟨?_,?_,?_,?_,?_,?_⟩)
  λk19 FW=> .l (λx20:(List Av)×Int×Ac=>(0≤x20.2.1∧x20.2.1≤(y7.1.length:Int))∧HE x20.1∧((x20.1.length:Int)≤x20.2.1∧wt x20.1≤3001 *x20.2.1)∧KB x20.2.2=true∧x20.2.2.Psks=a0.Psks) (λx20:(List Av)×Int×Ac=>((y7.1.length:Int) - x20.2.1).toNat) (λx20 C5 k21 kW=>have hx:=DF C5.2.2.2.1;have X:=rF.1 C5.2.2.2.1;have:=X.cr; .c (λh4=> .j (λy22:(List Av)×Ac=>HE y22.1∧((y22.1.length:Int)≤x20.2.1+1∧wt y22.1≤3001 *x20.2.1+3001)∧KB y22.2=true∧y22.2.Psks=a0.Psks) (λy22 Y4=>kW _ ⟨?_,?_,?_,?_,?_⟩ ?_)
  λk23 bY=> .h ?_ (.bg ?_ λe24 he24 he24w=>have ho:=aY.1 _ (List.mem_of_getElem? he24); .b (zjR ?_) λr25 _=> .j (λy26:Ac=>KB y26=true∧y26.Psks=a0.Psks) (λy26 Y0=> .g ?_ (bY _ ⟨?_,?_,?_,?_⟩))
  λk27 bX=> .c (λh5=> .b (zqL ?_) λr28 R2=> .b (zrn ?_) λr29 tZ=>have hsv2:=rJ (d:=⟨x20.2.2.Psks,x20.2.2.J,x20.2.2.D,x20.2.2.T,r29.1⟩) C5.2.2.2.1 rfl X.jar X.dice X.tab tZ X.id; .c (λh6=>bY _ ⟨?_,?_,?_,?_⟩)
  λh6=>bX _ ⟨?_,?_⟩)
  λh5=>bX _ ⟨?_,?_⟩))
  λh4=>FW _ ⟨?_,?_,?_,?_⟩) ⟨?_,?_,?_,?_,?_⟩ ?_)
  λk8 pW=> .c (λh7=>pW _ ⟨?_,?_,?_,?_,?_,?_⟩)
  λh7=> .j0 (.c (λh8=> .b (zpY ?_ ?_ ?_ ?_) λr11 zW=>pW _ ⟨?_,?_,?_,?_,?_,?_⟩)
  λh8=> .j0 (.c (λh9=> .b (zoV ?_ ?_ ?_ ?_) λr14 lX=>pW _ ⟨?_,?_,?_,?_,?_,?_⟩)
  λh9=> .j0 (.c (λtW=> .b (zot ?_ ?_ ?_ ?_ ?_) λr17 YX=>pW _ ⟨?_,?_,?_,?_,?_,?_⟩)
  λtW=>pW _ ⟨?_,?_,?_,?_,?_,?_⟩))))))
 all_goals first | trivial | assumption | exact AC | exact iH | ((try simp only[NB]at *)<;>(try simp(disch:=omega) only[DA,LA]at *)<;>omega) | grind [eA,nA,yO,iH,zgS]
end Go.D
namespace Go.D
def zpF{a0 a1 a2}(ha:wB a2=true)(hb:1≤a1∧a1≤9):Ok (Ey a0 a1 a2) λr=>wt r.1≤100∧(r.2=true→wB r.1=true)∧(r.2=true→r.1.Kind=3∧r.1.Id=a1∧r.1.Cn=a2.Cn∧r.1.Sn=a2.Sn):=by
 unfold Ey;refine have:=uD ha;have Q5:=@zar a2 ha;
 .j0 (.c (λh1=> .kt (.s ⟨?_,?_,?_⟩))
  λh1=> .m (qA ?_) (.c (λh2=> .s ⟨?_,?_,?_⟩)
  λh2=>have:=uD (nf h2); .b (zjl ?_ ?_ ?_) λr4 UV=> .c (λh3=> .s ⟨?_,?_,?_⟩)
  λh3=> .m (qA ?_) (.m (qA ?_) (.m (qA ?_) (.s ⟨?_,?_,?_⟩)))))
 all_goals first | trivial | ((try simp only[NB]at *)<;>omega) | grind [eA,nA,wB,jC]
def ziq{a0 a1}(ha:nC a0=true):Ok (Bu a0 a1) λr=>nC r=true∧(r.Role=a0.Role∧r.Sn=a0.Sn∧r.Next=a0.Next):=by
 unfold Bu;refine have:=XC ha;
 .m (qA ?_) (.j (λy2:Bool=>True) (λy2 xW=> .j0 (.c (λh1=> .s ⟨?_,?_⟩)
  λh1=> .s ⟨?_,?_⟩))
  λk3 JV=> .m (qA ?_) (.c (λh2=>have:=XC h2; .c (λh3=> .c (λh4=> .c (λh5=>JV _ ?_)
  λh5=>JV _ ?_)
  λh4=>JV _ ?_)
  λh3=>JV _ ?_)
  λh2=>JV _ ?_))
 all_goals first | trivial | ((try simp only[NB]at *)<;>omega) | grind [eA,nA,nC,TG,XF]
def zpc{a0 a1}:Ok (Cq a0 a1) λr=>r=true→a0.On=true∧xD a0=true∧eA a1 0 1000000=true:=by
 unfold Cq
 refine .j0 (.c (λh1=> .c (λh2=> .c (λh3=> .s ?_)
  λh3=> .s ?_)
  λh2=> .s ?_)
  λh1=> .s ?_)
 all_goals first | trivial | ((try simp only[NB]at *)<;>omega) | grind [eA,nA]
def zil{a0 a1}(ha:xD a0=true):Ok (Dy a0 a1) λr=>xD r.1=true∧(r.2=0→r.1=a0)∧(r.2≠2→r.1.On=a0.On)∧(r.2≠0→a0.On=true):=by
 unfold Dy;refine have hw:=@zxm a0 ha;have hm:=zal (OB .i64 2 a0.Wait) 8;have h1:=@DA a0.Tries 1;have h2:=@zxw a0.Wait;have h3:=@DA a1 (pD (OB .i64 2 a0.Wait) 8);
 .b zpc λr1 NV=> .c (λh1=> .s ⟨?_,?_,?_,?_⟩)
  λh1=> .c (λh2=> .s ⟨?_,?_,?_,?_⟩)
  λh2=> .s ⟨?_,?_,?_,?_⟩
 all_goals first | trivial | ((try simp only[NB]at *)<;>(try simp(disch:=omega) only[DA,LA]at *)<;>omega) | grind [eA,nA,xD,KF]
def zqB{a0 a1}(ha:tB a0=true)(hb:a0.St=3)(hc:eA a1 0 1000000=true):Ok (Li a0 a1) λr=>tB r.1=true∧(r.1.Id=a0.Id∧r.1.Psk=a0.Psk∧r.1.At=a0.At)∧iC r.2.2∧r.2.2.length≤6∧(r.2.1.length≤1∧wt r.2.1≤400):=by
 unfold Li;refine have:=WD ha;have hc:=zog ha hb;have:=XC hc.1;
 .c (λh1=> .b (zbX ?_) λr1 NV=> .b (zbu ?_ ?_ ?_) λr2 eW=> .s ⟨?_,?_,?_,?_,?_⟩)
  λh1=> .m (qA ?_) (.b (ziq ?_) λr4 UV=> .b (zil ?_) λr5 RV=> .c (λh2=> .s ⟨?_,?_,?_,?_,?_⟩)
  λh2=> .j (λy6:Ae=>tB y6=true∧(y6.Id=a0.Id∧y6.Psk=a0.Psk∧y6.At=a0.At)∧y6.St=3) (λy6 xX=>have:=WD xX.1;have hc6:=zog xX.1 xX.2.2; .b (ziC ?_) λr9 QW=> .c (λh3=> .s ⟨?_,?_,?_,?_,?_⟩)
  λh3=> .b (WL ?_ ?_) λr10 rW=> .s ⟨?_,?_,?_,?_,?_⟩)
  λk7 TV=> .c (λh4=> .b zaS λr8 sW=>TV _ ⟨?_,?_,?_⟩)
  λh4=>TV _ ⟨?_,?_,?_⟩)
 all_goals first | trivial | ((try simp only[NB]at *)<;>(try simp(disch:=omega) only[DA,LA]at *)<;>omega) | grind [eA,nA,tB,vD,AC,wH]
def zoY{a0 a1}(ha:tB a0=true):Ok (Ir a0 a1) λr=>tB r.1=true∧(r.1.Id=a0.Id∧r.1.Psk=a0.Psk∧r.1.At=a0.At)∧iC r.2.2∧r.2.2.length≤6∧(r.2.1.length≤1∧wt r.2.1≤400):=by
 unfold Ir;refine have:=WD ha;
 .m (qA ?_) (.j0 (.m (qA ?_) (.c (λh1=> .kt (.s ⟨?_,?_,?_,?_,?_⟩))
  λh1=>have:=WD (nf h1); .c (λh2=> .kt (.s ⟨?_,?_,?_,?_,?_⟩))
  λh2=> .c (λh3=> .s ⟨?_,?_,?_,?_,?_⟩)
  λh3=> .c (λh4=> .b (zqB ?_ ?_ ?_) λr5 RV=> .s ⟨?_,?_,?_,?_,?_⟩)
  λh4=> .b (zil ?_) λr6 vW=> .c (λh5=> .b (zbX ?_) λr7 HW=> .m (qA ?_) (.s ⟨?_,?_,?_,?_,?_⟩))
  λh5=> .jt (λy10=> .c (λh6=> .b (zi0 ?_) λr12 yW=> .s ⟨?_,?_,?_,?_,?_⟩)
  λh6=> .c (λh7=> .m (qA ?_) (.s ⟨?_,?_,?_,?_,?_⟩))
  λh7=> .s ⟨?_,?_,?_,?_,?_⟩)
  λk11 PV=> .c (λh8=>PV _)
  λh8=>PV _)))
 all_goals first | trivial | ((try simp only[NB]at *)<;>omega) | grind [eA,nA,tB,ZI,vD,AC,mC,WC,UD,GA]
def zoU{a0 a1 a2}(ha:tB a0=true)(hb:wB a2=true)(hc:a2.Kind=2)(hd:a0.St=1)(he:a2.Cn=a0.Cn)(hf:eA a1 0 1000000=true):Ok (Ld a0 a1 a2) λr=>tB r.1=true∧(r.1.Id=a0.Id∧r.1.Psk=a0.Psk∧r.1.At=a0.At)∧iC r.2.2∧r.2.2.length≤6∧(r.2.1.length≤1∧wt r.2.1≤400):=by
 unfold Ld;refine have:=WD ha;have J3:=zzQ ha hd;have hf:=zar hb hc;
 .m (qA ?_) (.b (zpF ?_ ?_) λr2 eW=> .c (λh1=> .s ⟨?_,?_,?_,?_,?_⟩)
  λh1=> .b zaS λr3 uW=> .b (ziD ?_ ?_ ?_) λr4 UV=> .b (ziJ ?_ ?_ ?_) λr5 RV=>have:=XC RV.1; .m (qA ?_) (.m (qA ?_) (.b zeV λr8 sW=> .b (zeY ?_ ?_ ?_) λr9 QW=> .b (zfx ?_ ?_) λr10 rW=> .m (qA ?_) (.s ⟨?_,?_,?_,?_,?_⟩))))
 all_goals first | trivial | ((try simp only[NB]at *)<;>omega) | grind [eA,nA,tB,ZI,vD,AC,mC,WC,UD,GA]
def zo6{a0 a1 a2}(ha:tB a0=true)(hb:wB a2=true)(hc:jC a2.Kind=true)(hd:a0.St=2∨a0.St=3)(he:eA a1 0 1000000=true):Ok (Le a0 a1 a2) λr=>tB r.1=true∧(r.1.Id=a0.Id∧r.1.Psk=a0.Psk∧r.1.At=a0.At)∧iC r.2.2∧r.2.2.length≤6∧(r.2.1.length≤1∧wt r.2.1≤400):=by
 unfold Le;refine have:=WD ha;have hfs:=zg8 hb hc;have t9:=uD hb;have hc2:=zmW ha hd;have:=XC hc2.1;
 .m (qA ?_) (.b (zip ?_ ?_) λr2 eW=>have:=XC eW.1; .c (λh1=> .s ⟨?_,?_,?_,?_,?_⟩)
  λh1=> .b (zje ?_) λr3 uW=> .b (tP ?_) λr4 UV=> .b (zb5 ?_ ?_ ?_) λr5 RV=>have:=YS RV; .j (λy6:(List Ad)×Ae=>iC y6.1∧y6.1.length≤2∧(y6.2.Id=a0.Id∧y6.2.Psk=a0.Psk∧y6.2.At=a0.At∧y6.2.C=r2.1∧y6.2.R=a0.R∧y6.2.St=3∧y6.2.Cn=a0.Cn∧y6.2.Last=a1)∧(LF y6.2.Fin=true∧KF y6.2.T=true)) (λy6 xX=>have:=CE xX.1; .j (λy12:(List Ad)×Ae=>iC y12.1∧y12.1.length≤3∧tB y12.2=true∧(y12.2.Id=a0.Id∧y12.2.Psk=a0.Psk∧y12.2.At=a0.At∧y12.2.C=r2.1∧y12.2.St=3)) (λy12 HX=>have:=CE HX.1; .j (λy17:(List Ad)=>iC y17∧y17.length≤4) (λy17 vZ=>have:=CE vZ.1; .c (λh2=> .s ⟨?_,?_,?_,?_,?_⟩)
  λh2=> .b (rP ?_ ?_) λr21 m0=>have:=XC m0.1;have hh:=m0.2.2.2; .c (λh3=> .s ⟨?_,?_,?_,?_,?_⟩)
  λh3=> .m (qA ?_) (.b (WL ?_ ?_) λr23 cZ=>have WW:iC [r23,(⟨8,0,0,[],r21.2.1.Sn,r21.2.1.Epoch,0,r2.2.1,[],(⟨0,0⟩:Ai),0⟩:Ad)]:=vD.2 ⟨cZ,vD.2 ⟨(by grind [mC,WC,UD,eA,GA,wH]),AC⟩⟩;have:=CE WW;have hno2:=xE.2 ⟨vZ.1,WW⟩; .g ?_ (.s ⟨?_,?_,?_,?_,?_⟩)))
  λk18 PW=> .c (λh4=> .m (qA ?_) (.g ?_ (PW _ ⟨?_,?_⟩)))
  λh4=>PW _ ⟨?_,?_⟩)
  λk13 XV=> .c (λh5=> .m (qA ?_) (.m (qA ?_) (.g ?_ (XV _ ⟨?_,?_,?_,?_⟩))))
  λh5=>XV _ ⟨?_,?_,?_,?_⟩)
  λk7 TV=> .c (λh6=> .m (qA ?_) (.m (qA ?_) (.m (qA ?_) (.g ?_ (TV _ ⟨?_,?_,?_,?_⟩)))))
  λh6=>TV _ ⟨?_,?_,?_,?_⟩)
 all_goals first | trivial | assumption | ((try simp only[NB]at *)<;>omega) | grind [eA,nA,tB,ZI,vD,AC,xE,mC,WC,UD,GA,LF,KF,xD]
def zpd{a0 a1 a2}(ha:tB a0=true)(hb:wB a2=true)(hc:eA a1 0 1000000=true):Ok (Io a0 a1 a2) λr=>tB r.1=true∧(r.1.Id=a0.Id∧r.1.Psk=a0.Psk∧r.1.At=a0.At)∧iC r.2.2∧r.2.2.length≤6∧(r.2.1.length≤1∧wt r.2.1≤400):=by
 unfold Io;refine have:=WD ha;have:=uD hb;
 .j0 (.m (qA ?_) (.c (λh1=> .kt (.m (qA ?_) (.s ⟨?_,?_,?_,?_,?_⟩)))
  λh1=>have:=WD (nf h1); .c (λh2=> .kt (.m (qA ?_) (.s ⟨?_,?_,?_,?_,?_⟩)))
  λh2=> .m (qA ?_) (.c (λh3=> .m (qA ?_) (.s ⟨?_,?_,?_,?_,?_⟩))
  λh3=>have:=uD (nf h3); .j (λy6:Bool=>y6=true→a2.Kind=2∧a0.St=1∧a2.Cn=a0.Cn) (λy6 xX=> .c (λh4=> .b (zoU ?_ ?_ ?_ ?_ ?_ ?_) λr9 QW=> .s ⟨?_,?_,?_,?_,?_⟩)
  λh4=> .j (λy10:Bool=>y10=true→jC a2.Kind=true∧(a0.St=2∨a0.St=3)) (λy10 aX=> .c (λh5=> .b (zo6 ?_ ?_ ?_ ?_ ?_) λr12 yW=> .s ⟨?_,?_,?_,?_,?_⟩)
  λh5=> .m (qA ?_) (.s ⟨?_,?_,?_,?_,?_⟩))
  λk11 PV=> .c (λh6=> .c (λh7=>PV _ ?_)
  λh7=>PV _ ?_)
  λh6=>PV _ ?_)
  λk7 TV=> .c (λh8=> .c (λh9=> .m (qA ?_) (TV _ ?_))
  λh9=>TV _ ?_)
  λh8=>TV _ ?_)))
 all_goals first | trivial | assumption | exact AC | ((try simp only[NB]at *)<;>omega) | grind [eA,nA]
end Go.D
namespace Go.D
def zsp{a0 a1 a2 a3}(ha:wt a0≤4000000000)(hb:wt a3≤900000000):Ok (Cm a0 a1 a2 a3) λr=>(eB a0=true→eB r.1=true)∧(∃m,r.1.Notes=a0.Notes++m)∧wt r.1≤wt a0+100000∧wt r.2≤1000∧(eB a0=true→a1=0→CI r.2 BE)∧(eB a0=true→∀c,a1≠0→a0.Clients[(sA .i64 a1 1).toNat]?=some c→CI r.2 c.At∧fP r.2)∧(eB a0=false→r.1=a0∧r.2=[])∧r.1.Now=a0.Now:=by
 unfold Cm
 refine .m (qA ?_) (.j0 (.m (qA ?_) (.c (λh1=> .kt (.s ⟨?_,?_,?_,?_,?_,?_,?_,?_⟩))
  λh1=>have:=mO (nf h1);have U1:=nf h1;have W:=HC.1 U1;have:=W.srv; .c (λh2=> .kt (.s ⟨?_,?_,?_,?_,?_,?_,?_,?_⟩))
  λh2=> .c (λh3=> .s ⟨?_,?_,?_,?_,?_,?_,?_,?_⟩)
  λh3=>have:=GF (nf h3); .c (λh4=> .b (zpa ?_ ?_) λr5 RV=>have:=CE RV.2.2.2.2.1;have:=DF RV.1;have u9:=zf3 U1 RV.1 RV.2.1 RV.2.2.2.2.1; .g ?_ (.b (zfa ?_ ?_) λr6 vW=> .s ⟨?_,?_,?_,?_,?_,?_,?_,?_⟩))
  λh4=> .b (ziB ?_) λr7 HW=> .c (λh5=> .s ⟨?_,?_,?_,?_,?_,?_,?_,?_⟩)
  λh5=> .bi ?_ ?_ λe8 S3 Q2=>have ce:=aT U1 (List.mem_of_getElem? S3);have cf:=WD ce; .b (zpd ?_ ?_ ?_) λr9 QW=>have:=CE QW.2.2.1;have:=WD QW.1;have hwc:=zf6 U1 S3 QW.1 QW.2.1.1 QW.2.1.2.1 QW.2.2.1; .h ?_ (.m S3 (.g ?_ (.b (zaQ ?_ ?_) λr11 zW=>have hw11:∀c,a1≠0→a0.Clients[(sA .i64 a1 1).toNat]?=some c→CI r11 c.At∧fP r11:=λc _ hc=>(by have e:=Option.some.inj (S3.symm.trans hc);subst e;have:=zW.2 (by rw[QW.2.1.2.2];exact zem ce);rwa [QW.2.1.2.2]at this); .s (have:=EC a0.Clients ((sA .i64 a1 1).toNat) r9.1;⟨?_,?_,?_,?_,?_,?_,?_,?_⟩)))))))
 all_goals first | trivial | exact⟨[],(List.append_nil _).symm⟩ | exact⟨_,rfl⟩ | assumption | exact λ_ _=>zl1 | exact λ_ _ _ _=>⟨zl1,zvY⟩ | exact λ_ _=>vW.2 | exact RV.2.2.1 | exact λk=>absurd U1 (by rw[k];decide) | exact λ_=>u9 | exact λ_=>hwc | exact λ_ _=>vW | exact λ_=>hw0 | exact λ_=>hw11 | ((try simp only[NB,HT]at *)<;>(try simp(disch:=omega) only[DA,LA]at *)<;>omega) | grind [eA,nA]
end Go.D
namespace Go.D
def zp2{a0 a1}(ha:sC a0=true):Ok (Dj a0 a1) λr=>sC r=true∧r.At=a0.At:=by
 unfold Dj;refine have:=gI ha;
 .j0 (.c (λh1=> .kt (.m (qA ?_) (.s ⟨?_,?_⟩)))
  λh1=>have:=gI (nf h1); .c (λh2=> .m (qA ?_) (.s ⟨?_,?_⟩))
  λh2=> .b (zif ?_) λr4 UV=> .s ⟨?_,?_⟩)
 all_goals first | trivial | ((try simp only[NB]at *)<;>omega) | grind [eA,nA]
def zfw{a0}(ha:vC a0=true):Ok (Fa a0) λr=>XE a0 r∧r.Dead=true:=by
 unfold Fa;refine have:=mF ha;
 .m (qA ?_) (.c (λh1=> .m (qA ?_) (.s ⟨?_,?_⟩))
  λh1=>have:=bL (nf h1); .m (qA ?_) (.m (qA ?_) (.s ⟨?_,?_⟩)))
 all_goals first | trivial | ((try simp only[NB]at *)<;>omega) | grind [eA,nA,XE,vC,tC,XF,RB]
def zpX{a0 a1}(ha:vC a0=true):Ok (Is a0 a1) λr=>XE a0 r:=by
 unfold Is;refine have:=mF ha;have hl:=@WM a0 ha;have:=iO ha;
 .m (qA ?_) (.j0 (.m (qA ?_) (.c (λh1=> .kt (.s ?_))
  λh1=>have:=bL (nf h1); .c (λh2=> .kt (.s ?_))
  λh2=>have hd:=h2;have hl:=hl h2; .c (λh3=> .s ?_)
  λh3=> .c (λh4=> .b (zfw ?_) λr5 RV=> .s ?_)
  λh4=> .b (ziq ?_) λr6 vW=> .b (zp2 ?_) λr7 HW=>have hR:=λe=>MM (a:=a0) (c:=r6) (p:=r7) (l:=a0.Last) ha vW.1 (vW.2.1.trans hl.2.1) (vW.2.2.1.trans hl.2.2.1) HW.1 hl.2.2.2.2.2 e; .s ?_)))
 all_goals first | trivial | ((try simp only[NB]at *)<;>(try simp(disch:=omega) only[DA,LA]at *)<;>omega) | grind [eA,nA]
def zqr{a0 a1}(ha:TC a0=true):Ok (Iu a0 a1) λr=>TC r=true∧Tk a0.L r.L:=by
 have hL:=DB;have hf:=qL ha;have T:=bF.1 ha
 have tr:Tk a0.L a0.L:=by
  have:∀l:List Ah,(∀e∈l,vC e=true)→F2 l l:=λl=>by
   induction l with
   | nil=>exact λ_=> .nil
   | cons e l ih=>exact λh=> .cons (iO (h e List.mem_cons_self)) (ih λx hx=>h x (List.mem_cons_of_mem _ hx))
  exact⟨_, .refl _,this _ T.el⟩
 unfold Iu;refine .j0 (.m (qA (by omega)) (.c (λ_=> .kt (.m (qA (by omega)) (.s ⟨ha,tr⟩))) λ_=> .c (λ_=> .m (qA (by omega)) (.s ⟨ha,tr⟩)) λ_=>?_));refine .j (λy:Ao=>y.Cap=a0.Cap∧Tk a0.L y.L) (λy hy=> .s ⟨?_,hy.2⟩) λk hk=> .l (λx:Int×Ao=>∃i:Nat,x.1=(i:Int)∧i≤a0.L.length∧x.2.Cap=a0.Cap∧Tk (a0.L.take i) x.2.L∧x.2.L.length≤i∧wt x.2.L≤240 *i) (λx:Int×Ao=>((a0.L.length:Int) - x.1).toNat) (λx hx k' dX=>?_) ⟨0,rfl,Nat.zero_le _,rfl,zxc,Nat.le_refl _,Nat.le_refl _⟩ (by simp only;omega)
 ·have:=zxz ha hy.2;rwa [←hy.1]at this
 ·obtain⟨i,h1,h2,h3,h4,h5,h6⟩:=hx;refine .c (λh=>?_) λh=>hk _ ⟨h3,?_⟩
  ·simp only[B]at h;have X3:iA .i64 x.1 1=((i+1:Nat):Int):=by rw[h1,DA (by omega) (by omega)];omega
   refine .bi (by omega) (by omega) λe he s9=> .b (zpX (T.el e (List.mem_of_getElem? he))) λr hr=>?_;rw[show x.1.toNat=i by omega]at he;have ht:=take_succ he;have hs:=mF hr.1;refine .jt (λy=> .j (λy:Ao=>y.Cap=a0.Cap∧Tk (a0.L.take (i+1)) y.L∧y.L.length≤i+1∧wt y.L≤240 *(i+1)) (λy hy=>dX _ ⟨i+1,X3,by omega,hy.1,hy.2.1,hy.2.2.1,hy.2.2.2⟩ (by simp only[X3];omega)) λk2 IV=> .c (λ_=> .g ?_ (IV _ ⟨h3,?_,?_,?_⟩)) λ_=>IV _ ⟨h3,?_,by omega,by omega⟩) λk2 IV=> .c (λ_=>IV _) λ_=>IV _
   ·simp only[N]at hs⊢;omega
   ·rw[ht];exact zwT h4 hr
   ·simp only[N]at hs⊢;omega
   ·simp only[N]at hs⊢;omega
   ·rw[ht];exact zwn e h4
  ·simp only[B]at h;rw[show a0.L.take i=a0.L from List.take_of_length_le (by omega)]at h4;exact h4
def zoW{a0 a1}(ha:KB a0=true):Ok (Iv a0 a1) λr=>KB r.1=true∧r.1.Psks=a0.Psks∧iC r.2∧r.2.length≤12:=by
 unfold Iv;refine have:=DF ha;have S:=rF.1 ha;have:=S.tab;have T:=bF.1 S.tab;have hw:=zB a0.T.L;have:=T.len;
 .m (qA ?_) (.j0 (.m (qA ?_) (.c (λh1=> .kt (.s ⟨?_,?_,?_,?_⟩))
  λh1=>have:=DF (nf h1); .c (λh2=> .s ⟨?_,?_,?_,?_⟩)
  λh2=> .b (zqr ?_) λr5 RV=>have:=qL RV.1;have W3:=rJ (d:=⟨a0.Psks,a0.J,a0.D,r5,a0.Cr⟩) ha rfl S.jar S.dice RV.1 S.cr (λe he=>(by obtain⟨d,h1,h2⟩:=zmS RV.2 he;have e1:e.Id=d.Id:=h2.2.1;show e.Id≤(a0.Psks.length:Int);rw[e1];exact S.id d h1)); .j (λy6:(List Ad)=>iC y6∧y6.length≤12) (λy6 xX=> .s ⟨?_,?_,?_,?_⟩)
  λk7 TV=> .l (λx8:(List Ad)×Int=>(0≤x8.2∧x8.2≤(a0.T.L.length:Int))∧iC x8.1∧(x8.1.length:Int)≤x8.2) (λx8:(List Ad)×Int=>((a0.T.L.length:Int) - x8.2).toNat) (λx8 W4 k9 jX=>have:=CE W4.2.1; .c (λh3=> .bm ?_ ?_ λe10 qY wX=>have G0:=T.el _ qY;have:=mF G0; .m (qA ?_) (have:=eO r5 e10.Sn; .j (λy12:Bool=>True) (λy12 HX=> .j (λy15:(List Ad)=>iC y15∧(y15.length:Int)≤x8.2+1) (λy15 ZZ=>jX _ ⟨?_,?_,?_⟩ ?_)
  λk16 OW=> .c (λh4=> .b (zbu ?_ ?_ ?_) λr17 YX=>have:=YS YX;have WW:=xE.2 ⟨W4.2.1,vD.2 ⟨YX,AC⟩⟩; .g ?_ (OW _ ⟨?_,?_⟩))
  λh4=>OW _ ⟨?_,?_⟩)
  λk13 XV=> .c (λh5=> .c (λh6=>XV _ ?_)
  λh6=> .h ?_ (.bg ?_ λe14 YZ SY=>XV _ ?_))
  λh5=>XV _ ?_))
  λh3=>TV _ ⟨?_,?_⟩) ⟨?_,?_,?_⟩ ?_)))
 all_goals first | trivial | assumption | exact AC | exact W3 | ((try simp only[NB]at *)<;>(try simp(disch:=omega) only[DA,LA]at *)<;>omega) | grind [eA,nA]
def zjU{a0 a1}(ha:wt a0≤1000000):Ok (Gp a0 a1) λr=>(gC a0=true→gC r=true)∧wt r≤wt a0:=by
 unfold Gp
 refine .m (qA ?_) (.j (λy2:Bool=>y2=true→gC a0=true∧eA a1 0 10000=true) (λy2 xW=> .j (λy4:Au=>(gC a0=true→gC y4=true)∧wt y4≤wt a0) (λy4 MY=> .s ⟨?_,?_⟩)
  λk5 dW=> .c (λh1=>dW _ ⟨?_,?_⟩)
  λh1=>dW _ ⟨?_,?_⟩)
  λk3 JV=> .c (λh2=>have:=zgw h2;JV _ ?_)
  λh2=>JV _ ?_)
 all_goals first | trivial | ((try simp only[NB]at *)<;>omega) | grind [eA,nA,gC]
def zsM{a0 a1}(ha:wt a0≤500000000)(hb:wt a1≤1000):Ok (Iw a0 a1) λr=>r=a0∨r=a0++[a1]∧QD r=true:=by
 unfold Iw
 refine .g ?_ (.g ?_ (.m (qA ?_) (.c (λh1=> .m (qA ?_) (.s ?_))
  λh1=>have:=zcP (nf h1); .s ?_)))
 all_goals first | trivial | exact .inl rfl | ((try simp only[NB]at *)<;>omega) | grind [eA,nA]
def zi6{a0}:Ok (Da a0) λr=>r=true→1≤a0.Kind∧a0.Kind≤10∧a0.B.length≤200∧0≤a0.I∧0≤a0.J:=by
 unfold Da
 refine .j0 (.c (λh1=> .c (λh2=> .c (λh3=> .s ?_)
  λh3=> .s ?_)
  λh2=> .s ?_)
  λh1=> .s ?_)
 all_goals first | trivial | ((try simp only[NB]at *)<;>omega) | grind [eA,nA]
def ze0{a0}:Ok (Ic a0) λr=>0≤r∧r≤3∧((a0=4∨a0=9)→r=1)∧((a0=5∨a0=6∨a0=7∨a0=8)→r=2)∧(a0=10→r=3):=by
 by_cases h:4≤a0∧a0≤10
 ·have:a0=4∨a0=5∨a0=6∨a0=7∨a0=8∨a0=9∨a0=10:=by omega
  rcases this with rfl | rfl | rfl | rfl | rfl | rfl | rfl<;>exact⟨_,rfl,by decide⟩
 ·have e:∀k:Int,4≤k→k≤10→(a0==k)=false:=λk _ _=>beq_false_of_ne (by omega);refine⟨0,?_,by omega⟩;simp[Ic,aA,e]
def zrz{a0 a1}(ha:a0.length≤1000000)(hb:a0.length=a1.length):Ok (Kw a0 a1) λr=>r.length≤a0.length:=by
 unfold Kw
 refine .j (λy1:(List UInt8)=>y1.length≤a0.length) (λy1 lW=> .s ?_)
  λk2 IV=> .l (λx3:(List UInt8)×Int=>0≤x3.2∧x3.2≤(a0.length:Int)∧(x3.1.length:Int)=x3.2) (λx3:(List UInt8)×Int=>((a0.length:Int) - x3.2).toNat) (λx3 DY k4 QV=> .c (λh1=> .bi ?_ ?_ λe5 BX tX=> .bi ?_ ?_ λe6 xY sX=> .g ?_ (QV _ ?_ ?_))
  λh1=>IV _ ?_) ?_ ?_
 all_goals first | trivial | ((try simp only[NB]at *)<;>(try simp(disch:=omega) only[DA,LA]at *)<;>omega) | grind [eA,nA]
def zqH{a0 a1 a2 a3}(ha:wt a0≤300000)(hb:wt a1≤4000)(hc:wt a2≤20000)(hd:wt a3≤1000)(he:0≤a0.I)(hf:((a0.Kind=4∨a0.Kind=9)→1≤a1.length)∧((a0.Kind=5∨a0.Kind=6∨a0.Kind=7∨a0.Kind=8)→2≤a1.length)∧(a0.Kind=10→3≤a1.length)):Ok (Kx a0 a1 a2 a3) λr=>r.1.length≤500000:=by
 unfold Kx
 refine .c (λh1=> .s ?_)
  λh1=> .j0 (.c (λh2=> .c (λh3=> .bi ?_ ?_ λe3 X4 U2=> .s ?_)
  λh3=> .s ?_)
  λh2=> .j0 (.c (λh4=> .c (λh5=> .bi ?_ ?_ λe6 xY sX=> .s ?_)
  λh5=> .s ?_)
  λh4=> .c (λh6=> .bi ?_ ?_ λe7 MZ pY=> .m (qA ?_) (have:=zxs e7 a0.I a0.J; .s ?_))
  λh6=> .c (λh7=> .bi ?_ ?_ λe9 LZ CY=> .bi ?_ ?_ λe10 qY wX=> .m (qA ?_) (have:=oI [e9,e10]; .s ?_))
  λh7=> .j0 (.c (λh8=> .bi ?_ ?_ λe14 YZ SY=> .bi ?_ ?_ λe15 VY WY=> .c (λh9=> .bi ?_ ?_ λe16 qZ NZ=>match(Option.some.inj (YZ.symm.trans qZ):e14=e16)with | rfl=>(.bi ?_ ?_ λe17 he17 he17w=>match(Option.some.inj (VY.symm.trans he17):e15=e17)with | rfl=>(.b (zrz ?_ ?_) λr18 ZX=> .s ?_)))
  λh9=> .s ?_)
  λh8=> .c (λtW=> .bi ?_ ?_ λe19 he19 he19w=> .bi ?_ ?_ λe20 he20 he20w=>have hhm:=iL e19 e20; .s ?_)
  λtW=> .c (λGW=> .bi ?_ ?_ λe22 wZ L1=> .bi ?_ ?_ λe23 A7 T3=> .b kV λr24 uX=> .s ?_)
  λGW=> .c (λUW=> .bi ?_ ?_ λe25 he25 X7=> .m (qA ?_) (have:=wM e25 [114,101,107,101,121];have:=@AM e25 [114,101,107,101,121]; .s ?_))
  λUW=> .c (λnX=> .bi ?_ ?_ λe27 Y7 U3=> .bi ?_ ?_ λe28 he28 v7=> .bi ?_ ?_ λe29 GY m8=> .b (zfR ?_ ?_) λr30 o0=> .s ?_)
  λnX=> .s ?_)))
 all_goals first | trivial | ((try simp only[NB]at *)<;>omega) | grind [eA,nA]
def zjB{a0 a1 a2}(ha:wt a0≤300000)(hb:wt a1≤20000)(hc:wt a2≤1000):Ok (Gc a0 a1 a2) λr=>r.1.length≤10000:=by
 unfold Gc;refine have hla:=zB a0;
 .c (λh1=> .s ?_)
  λh1=>have NY:a0.length≤16:=(by have:=h1;simp only[B]at this;omega); .j (λy1:(List (List UInt8))=>wt y1≤3300) (λy1 lW=>have hyw:=zB y1; .c (λh2=> .s ?_)
  λh2=> .h ?_ (.bg ?_ λe15 VY WY=> .m (qA ?_) (.s ?_)))
  λk2 IV=> .l (λx3:(List (List UInt8))×Int=>0≤x3.2∧x3.2≤(a0.length:Int)∧wt x3.1≤201 *x3.2) (λx3:(List (List UInt8))×Int=>((a0.length:Int) - x3.2).toNat) (λx3 DY k4 QV=>have hpw:=zB x3.1; .c (λh3=> .bi ?_ ?_ λe5 BX tX=> .b ze0 λr6 vW=>have hi:iA .i64 x3.2 1=x3.2+1:=DA (by omega) (by omega);have hdz:x3.1.drop 0=x3.1:=rfl;have hs:sA .i64 (x3.1.length:Int) r6=(x3.1.length:Int) - r6:=LA (by omega) (by omega);have hw1:=wD (x3.1.drop (sA .i64 (x3.1.length:Int) r6).toNat) ((x3.1.length:Int) - sA .i64 (x3.1.length:Int) r6).toNat;have hw2:=RE x3.1 (sA .i64 (x3.1.length:Int) r6).toNat;have hw3:=wD x3.1 (sA .i64 (x3.1.length:Int) r6).toNat; .j (λy7:Bool=>y7=false→1≤e5.Kind∧e5.Kind≤10∧e5.B.length≤200∧0≤e5.I∧r6≤(x3.1.length:Int)) (λy7 aY=> .c (λh4=> .s ?_)
  λh4=> .h ?_ (.b (zqH (have:=wD (List.drop ((sA .i64 (x3.1.length:Int) r6).toNat) x3.1) (((x3.1.length:Int) - (sA .i64 (x3.1.length:Int) r6)).toNat);have:=RE x3.1 ((sA .i64 (x3.1.length:Int) r6).toNat);?_) (have:=wD (List.drop ((sA .i64 (x3.1.length:Int) r6).toNat) x3.1) (((x3.1.length:Int) - (sA .i64 (x3.1.length:Int) r6)).toNat);have:=RE x3.1 ((sA .i64 (x3.1.length:Int) r6).toNat);?_) (have:=wD (List.drop ((sA .i64 (x3.1.length:Int) r6).toNat) x3.1) (((x3.1.length:Int) - (sA .i64 (x3.1.length:Int) r6)).toNat);have:=RE x3.1 ((sA .i64 (x3.1.length:Int) r6).toNat);?_) (have:=wD (List.drop ((sA .i64 (x3.1.length:Int) r6).toNat) x3.1) (((x3.1.length:Int) - (sA .i64 (x3.1.length:Int) r6)).toNat);have:=RE x3.1 ((sA .i64 (x3.1.length:Int) r6).toNat);?_) (have:=wD (List.drop ((sA .i64 (x3.1.length:Int) r6).toNat) x3.1) (((x3.1.length:Int) - (sA .i64 (x3.1.length:Int) r6)).toNat);have:=RE x3.1 ((sA .i64 (x3.1.length:Int) r6).toNat);?_) (have:=wD (List.drop ((sA .i64 (x3.1.length:Int) r6).toNat) x3.1) (((x3.1.length:Int) - (sA .i64 (x3.1.length:Int) r6)).toNat);have:=RE x3.1 ((sA .i64 (x3.1.length:Int) r6).toNat);?_)) λr10 rW=> .j (λy11:Bool=>y11=false→r10.1.length≤200) (λy11 XY=> .c (λh5=> .s ?_)
  λh5=> .h ?_ (.g (have:=wD (List.drop 0 x3.1) ((sA .i64 (x3.1.length:Int) r6 - 0).toNat);have:=RE x3.1 0;?_) (.g (have:=wD (List.drop 0 x3.1) ((sA .i64 (x3.1.length:Int) r6 - 0).toNat);have:=RE x3.1 0;?_) (QV _ (have:=wD (List.drop 0 x3.1) ((sA .i64 (x3.1.length:Int) r6 - 0).toNat);have:=RE x3.1 0;?_) (have:=wD (List.drop 0 x3.1) ((sA .i64 (x3.1.length:Int) r6 - 0).toNat);have:=RE x3.1 0;?_)))))
  λk12 jW=> .c (λh6=>jW _ ?_)
  λh6=> .c (λh7=>jW _ ?_)
  λh7=>jW _ ?_))
  λk8 pW=> .b zi6 λr9 QW=> .c (λh8=>pW _ ?_)
  λh8=>pW _ ?_)
  λh3=>IV _ ?_) ?_ ?_
 all_goals first | trivial | ((try simp only[NB]at *)<;>(try simp(disch:=omega) only[DA,LA]at *)<;>omega) | grind [eA,nA,oV,sD,NG,FA]
def ziu{a0 a1}(ha:vC a0=true)(hb:wt a1≤300000):Ok (Di a0 a1) λr=>XE a0 r.1∧HE r.2.1∧(r.2.1.length≤1∧wt r.2.1≤400)∧iC r.2.2.1∧r.2.2.1.length≤2:=by
 unfold Di;refine have:=mF ha;have hl:=@WM a0 ha;have:=iO ha;
 .m (qA ?_) (.j0 (.m (qA ?_) (.c (λh1=> .kt (.s ⟨?_,?_,?_,?_,?_⟩))
  λh1=>have:=bL (nf h1); .c (λh2=> .s ⟨?_,?_,?_,?_,?_⟩)
  λh2=> .c (λh3=> .s ⟨?_,?_,?_,?_,?_⟩)
  λh3=>have hd:=h3;have hl:=hl h3; .b (rP ?_ ?_) λr5 RV=>have hS:=MM (a:=a0) (c:=r5.1) (p:=a0.P) (l:=a0.Last) ha RV.1 (RV.2.1.1.trans hl.2.1) (RV.2.1.2.1.trans hl.2.2.1) hl.2.2.2.1 hl.2.2.2.2.2 hd; .c (λh4=> .s ⟨?_,?_,?_,?_,?_⟩)
  λh4=> .m (qA ?_) (.m (qA ?_) (.b (WL ?_ ?_) λr8 sW=> .s ⟨?_,?_,?_,?_,?_⟩)))))
 all_goals first | trivial | assumption | exact AC | exact iH | ((try simp only[NB]at *)<;>omega) | grind [eA,nA,wH,yO,iH,mC,WC,UD,GA,vD,AC,xE]
def zii{a0 a1 a2 a3}(ha:KB a0=true)(hb:wt a3≤300000):Ok (Ip a0 a1 a2 a3) λr=>KB r.1=true∧r.1.Psks=a0.Psks∧HE r.2.1∧(r.2.1.length≤1∧wt r.2.1≤400)∧iC r.2.2.1∧r.2.2.1.length≤2:=by
 unfold Ip;refine have:=DF ha;have S:=rF.1 ha;have:=S.tab;have hw:=zB a0.T.L;
 .m (qA ?_) (.j0 (.m (qA ?_) (.c (λh1=> .kt (.s ⟨?_,?_,?_,?_,?_,?_⟩))
  λh1=>have:=DF (nf h1); .c (λh2=> .s ⟨?_,?_,?_,?_,?_,?_⟩)
  λh2=> .j0 (.c (λh3=> .kt (.s ⟨?_,?_,?_,?_,?_,?_⟩))
  λh3=> .c (λh4=> .s ⟨?_,?_,?_,?_,?_,?_⟩)
  λh4=> .bm ?_ ?_ λe7 MZ pY=>have G0:=(bF.1 S.tab).el _ MZ;have:=mF G0; .b (ziu ?_ ?_) λr8 sW=>have:=mF sW.1.1; .c (λh5=> .s ⟨?_,?_,?_,?_,?_,?_⟩)
  λh5=> .b (zaV ?_ ?_) λr9 QW=>have W3:=rJ (d:=⟨a0.Psks,a0.J,a0.D,r9.1,a0.Cr⟩) ha rfl S.jar S.dice QW.1 S.cr (λe he=>(QW.2.1 e he).elim (S.id e) λh=>(by rw[h,sW.1.2.1];exact S.id _ MZ)); .s ⟨?_,?_,?_,?_,?_,?_⟩))))
 all_goals first | trivial | assumption | exact AC | exact iH | ((try simp only[NB]at *)<;>omega) | grind [eA,nA]
def zsa{a0}(ha:KB a0=true):Ok (Ez a0) λr=>KB r.1=true∧r.1.Psks=a0.Psks∧iC r.2∧r.2.length≤2:=by
 unfold Ez;refine have:=DF ha;have S:=rF.1 ha;have:=S.dice;have:=sL a0.D;have hj:=@zvO (RC a0.D).2;have ht:=zv6 (bF.1 S.tab).cap;have hl:=hj;have W3:=λh=>rJ (d:=⟨a0.Psks,lF (RC a0.D).2,(RC a0.D).1,YD a0.T.Cap,[]⟩) ha rfl (hj h) ((sL a0.D).2.2.1 S.dice) ht rfl (λe h=>(by have h:e∈(YD a0.T.Cap).L:=h;rw[zrZ (bF.1 S.tab).cap]at h;cases h));have:=BS (RC a0.D).2;have:=zcA a0.T.Cap;
 .m (qA ?_) (.j0 (.m (qA ?_) (.c (λh1=> .kt (.s ⟨?_,?_,?_,?_⟩))
  λh1=>have:=DF (nf h1); .c (λh2=> .s ⟨?_,?_,?_,?_⟩)
  λh2=> .m (qA ?_) (have:=sL a0.D; .m (qA ?_) (have:=zcU (RC a0.D).2;have:=@zcd (RC a0.D).2; .m (qA ?_) (.s ⟨?_,?_,?_,?_⟩))))))
 all_goals first | trivial | assumption | exact AC | ((try simp only[NB]at *)<;>omega) | grind [eA,nA,QE,mC,WC,UD,GA,vD,AC,xE]
def zoL{a0 a1}(ha:KB a0=true):Ok (Iq a0 a1) λr=>KB r.1=true∧r.1.Psks=a0.Psks∧iC r.2.1∧r.2.1.length≤1:=by
 unfold Iq;refine have:=DF ha;have S:=rF.1 ha;have:=S.tab;have hw:=zB a0.T.L;
 .m (qA ?_) (.m (qA ?_) (.c (λh1=> .s ⟨?_,?_,?_,?_⟩)
  λh1=>have:=DF (nf h1); .j0 (.c (λh2=> .kt (.s ⟨?_,?_,?_,?_⟩))
  λh2=> .c (λh3=> .kt (.s ⟨?_,?_,?_,?_⟩))
  λh3=> .bm ?_ ?_ λe5 BX tX=> .c (λh4=> .s ⟨?_,?_,?_,?_⟩)
  λh4=> .bm ?_ ?_ λe6 xY sX=>have G0:=(bF.1 S.tab).el _ xY;have:=mF G0; .b (zfw ?_) λr7 HW=>have:=mF HW.1.1; .b (zaV ?_ ?_) λr8 sW=>have W3:=rJ (d:=⟨a0.Psks,a0.J,a0.D,r8.1,a0.Cr⟩) ha rfl S.jar S.dice sW.1 S.cr (λe he=>(sW.2.1 e he).elim (S.id e) λh=>(by rw[h,HW.1.2.1];exact S.id _ xY)); .b (zbu ?_ ?_ ?_) λr9 QW=> .s ⟨?_,?_,?_,?_⟩)))
 all_goals first | trivial | assumption | exact AC | ((try simp only[NB]at *)<;>omega) | grind [eA,nA,vD,AC]
def zq0{a0}(ha:wt a0≤1000000):Ok (Gn a0) λr=>wt r≤400∧(∀b∈r,b.length=32):=by
 unfold Gn
 refine .m (qA ?_) (.c (λh1=> .s ⟨?_,?_⟩)
  λh1=>have:=XC (nf h1); .j (λy2:(List (List UInt8))=>wt y2≤200∧(∀b∈y2,b.length=32)) (λy2 xW=> .m (qA ?_) (.g ?_ (.j (λy6:(List (List UInt8))=>wt y6≤400∧(∀b∈y6,b.length=32)) (λy6 xX=> .s ⟨?_,?_⟩)
  λk7 TV=> .c (λh2=> .m (qA ?_) (.g ?_ (TV _ ⟨?_,?_⟩)))
  λh2=>TV _ ⟨?_,?_⟩)))
  λk3 JV=> .c (λh3=> .m (qA ?_) (.g ?_ (JV _ ⟨?_,?_⟩)))
  λh3=>JV _ ⟨?_,?_⟩)
 all_goals first | trivial | ((try simp only[NB]at *)<;>omega) | grind [eA,nA,nC,TG,aD]
end Go.D
namespace Go.D
def zaD{w:Aa}(h:eB w=true):wt w≤22600+wt w.Notes:=by
 have:=mO h;simp only[N,HT]at this⊢;omega
structure TkP(a0:Aa)(i:Nat)(l:List Ap)(w:Aa):Prop where
 ok:eB w=true
 now:w.Now=a0.Now+1
 notes:∃m,w.Notes=a0.Notes++m∧m.length≤6 *i
 wires:∀x∈l,PE x=true∧x.To=BE∧∃j c,j<i∧w.Clients[j]?=some c∧x.From=c.At
 wl:wt l≤201 *i
def TkP.wt{a0:Aa}{i:Nat}{l:List Ap}{w:Aa}(h:TkP a0 i l w):wt w.Notes≤wt a0.Notes+942 *i∧wt w≤22600+wt a0.Notes+942 *i:=by
 obtain⟨m,h1,h2⟩:=h.notes;have hn:=(HC.1 h.ok).notes;have hw:=zaD h.ok;rw[h1]at hn hw⊢;have:=CE (xE.1 hn).2;simp only[N]at hw⊢;omega
def zqe{a0}(ha:wt a0≤800000000):Ok (Dz a0) λr=>(eB a0=true→eB r.1=true)∧(∃m,r.1.Notes=a0.Notes++m)∧wt r.1≤wt a0+120000∧wt r.2≤1000∧
  (eB a0=true→∀x∈r.2,PE x=true∧x.To=BE∧∃c∈r.1.Clients,x.From=c.At)∧(eB a0=true→a0.Now≠1000000→r.1.Now=a0.Now+1)∧(eB a0=false∨a0.Now=1000000→r.1=a0∧r.2=[]):=by
 have hL:=DB
 have hz:∀(_:eB a0=false∨a0.Now=1000000),Ok (some (a0,([]:List Ap))) λr=>(eB a0=true→eB r.1=true)∧(∃m,r.1.Notes=a0.Notes++m)∧wt r.1≤wt a0+120000∧wt r.2≤1000∧
   (eB a0=true→∀x∈r.2,PE x=true∧x.To=BE∧∃c∈r.1.Clients,x.From=c.At)∧(eB a0=true→a0.Now≠1000000→r.1.Now=a0.Now+1)∧(eB a0=false∨a0.Now=1000000→r.1=a0∧r.2=[]):=λh=>
  .s ⟨id,⟨[],(List.append_nil _).symm⟩,Nat.le_add_right _ _,Nat.zero_le _,(λ_ _ h=>nomatch h),λh1 h2=>(h.elim (λh=>absurd h (by rw[h1];decide)) λh=>absurd h h2),λ_=>⟨rfl,rfl⟩⟩
 unfold Dz;refine .m (qA (by omega)) (.j0 (.m (qA (by omega)) (.c (λh1=> .kt (hz (.inl (by simpa using h1)))) λh1=> .c (λh2=>hz (.inr (by simpa using h2))) λh2=>?_)));have U1:eB a0=true:=by simpa using h1
 have E8:a0.Now≠1000000:=by simpa using h2
 have W:=HC.1 U1;have hn:=fC.1 W.now;have hN0:wt a0.Notes≤wt a0:=by simp only[qG];omega
 refine .j (λy:List Ap×Aa=>TkP a0 2 y.1 y.2) (λy hy=>?_) λk hk=> .l (λx:List Ap×Int×Aa=>∃i:Nat,x.2.1=(i:Int)∧i≤2∧TkP a0 i x.1 x.2.2) (λx:List Ap×Int×Aa=>(2 - x.2.1).toNat) (λx hx k' dX=>?_) ⟨0,rfl,by omega,?_⟩ (by simp only;omega)
 ·have hw:=hy.wt;have Y:=HC.1 hy.ok;refine .b (zoW Y.srv) λr hr=>?_;have hnw:=CE hr.2.2.1;refine .g (by omega) ?_;have AX:=zf3 hy.ok hr.1 hr.2.1 hr.2.2.1;refine .s ⟨λ_=>AX,?_,?_,by have:=hy.wl;show wt y.1≤_;omega,λ_ x hx=>?_,λ_ _=>hy.now,λh=>?_⟩
  ·obtain⟨m,h3,_⟩:=hy.notes;exact⟨m++r.2,by show y.2.Notes++r.2=_;rw[h3,List.append_assoc]⟩
  ·have h4:=zaD AX;have h5:wt (y.2.Notes++r.2)=wt y.2.Notes+wt r.2:=by simp only[N]
   have h6:wt a0.Notes≤wt a0:=by simp only[qG];omega
   show wt (⟨_,_,_,_,_,_,y.2.Notes++r.2⟩:Aa)≤_
   have h4:wt (⟨y.2.Now,y.2.Clients,r.1,y.2.D,y.2.Seen,y.2.Known,y.2.Notes++r.2⟩:Aa)≤22600+wt (y.2.Notes++r.2):=h4;omega
  ·obtain⟨w1,w2,j,c,_,w3,w4⟩:=hy.wires x hx;exact⟨w1,w2,c,List.mem_of_getElem? w3,w4⟩
  ·rcases h with h | h
   ·rw[h]at U1;cases U1
   ·exact absurd h E8
 ·obtain⟨i,e1,e2,hx⟩:=hx;have hw:=hx.wt;have X:=HC.1 hx.ok;have R1:=X.cl;have Q3:=W.cl;refine .c (λh3=>?_) λh3=>hk _ ?_
  ·simp only[B]at h3;have X3:iA .i64 x.2.1 1=((i+1:Nat):Int):=by rw[e1,DA (by omega) (by omega)];omega
   refine .h (by simp only[B];omega) ?_;rw[show x.2.1.toNat=i by omega];refine .bg (by omega) λe9 he s9=>?_;obtain⟨c1,c2,c3⟩:=X.ci i e9 he;refine .b (zoY c1) λr hr=>?_;have hnw:=CE hr.2.2.1;have t9:=WD hr.1;refine .h (by simp only[B];omega) (.m he (.g (by omega) (.b (zaQ (by have:=t9.1;omega) (by omega)) λr12 UW=> .g (by have:=hx.wl;omega) (dX _ ⟨i+1,X3,by omega,?_⟩ (by simp only[X3];omega)))));have u9:=UW.2 (by rw[hr.2.1.2.2];exact zem c1);refine⟨zf6 hx.ok he hr.1 hr.2.1.1 hr.2.1.2.1 hr.2.2.1,hx.now,?_,λz hz=>?_,?_⟩
   ·obtain⟨m,h4,h5⟩:=hx.notes;exact⟨m++r.2.2,by show x.2.2.Notes++r.2.2=_;rw[h4,List.append_assoc],by rw[List.length_append];omega⟩
   ·rcases List.mem_append.1 hz with hz | hz
    ·obtain⟨w1,w2,j,c,hj,w3,w4⟩:=hx.wires z hz;exact⟨w1,w2,j,c,by omega,by show(x.2.2.Clients.set i r.1)[j]?=_;rw[List.getElem?_set_ne (by omega)];exact w3,w4⟩
    ·obtain⟨w1,w2⟩:=u9.1 z hz;exact⟨w1,u9.2 z hz,i,r.1,by omega,by show(x.2.2.Clients.set i r.1)[i]?=_;rw[List.getElem?_set_self (by omega)],w2⟩
   ·have h4:=UW.1;have h5:wt (x.1++r12)=wt x.1+wt r12:=by simp only[N]
    have h6:=hx.wl;show wt (x.1++r12)≤_
    omega
  ·simp only[B]at h3;have:i=2:=by omega
   subst this;exact hx
 ·exact⟨zw2 U1 E8,DA (by omega) (by omega),⟨[],(List.append_nil _).symm,Nat.le_refl _⟩,(λ_ h=>nomatch h),Nat.le_refl _⟩
end Go.D

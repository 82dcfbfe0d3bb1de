/-
 The program's machine comes to an end; what is right stays right.
-/
import Derived.Test.YthmhafeaiaigoaaGreatP1
set_option linter.all false
namespace Go.D
def ziq{a0 a1 a2 a3 a4}(ha:vC a0=true)(hb:wB a3=true)(hc:a4.length≤100):Ok (Gj a0 a1 a2 a3 a4) λr=>XE a0 r.1∧IE r.2.1∧(r.2.1.length≤2∧wt r.2.1≤800)∧iC r.2.2.1∧r.2.2.1.length≤5:=by
 unfold Gj;refine have:=lF ha;have hl:=@UM a0 ha;have:=lO ha;have:=sD hb;
 .m (pA ?_) (.j0 (.m (pA ?_) (.c (λh1=> .kt (.s ⟨?_,?_,?_,?_,?_⟩))
  λh1=>have:=eL (nf h1); .c (λh2=> .kt (.s ⟨?_,?_,?_,?_,?_⟩))
  λh2=>have hd:=h2;have hl:=hl h2; .c (λh3=> .s ⟨?_,?_,?_,?_,?_⟩)
  λh3=>have:=HF (nf h3); .b (zin ?_ ?_) λr5 RV=> .c (λh4=> .s ⟨?_,?_,?_,?_,?_⟩)
  λh4=>have hx:=RV.2.2.2.2 (by simpa using h4);have hS:=LM (a:=a0) (c:=r5.1) (p:=a0.P) (l:=a1) ha RV.1 (RV.2.1.1.trans hl.2.1) (RV.2.1.2.trans hl.2.2.1) hl.2.2.2.1 hx.2.2 hd;have hfs:=zg4 hx.1 hx.2.1;have tY:=fC.1 hx.2.2; .b (ziR ?_) λr6 vW=> .b (mP ?_) λr7 IW=> .b (zbv ?_ ?_ ?_) λr8 BW=>have:=US BW; .j (λy9:(List Ad)×(List Av)×Ah=>(iC y9.1∧y9.1.length≤3)∧IE y9.2.1∧(y9.2.1.length≤1∧wt y9.2.1≤400)∧(XE a0 y9.2.2∧y9.2.2.Dead=false)) (λy9 UY=>have hs9:=UY.2.2.2.1.1;have:=lF hs9;have hl9:=UM hs9 UY.2.2.2.2;have:=BE UY.1.1; .b (zrg ?_ ?_) λr23 IY=> .b (rP ?_ ?_) λr24 vX=>have hS9:=zj2 UY.2.2.2.1 (LM (a:=y9.2.2) (c:=r24.1) (p:=r23.1) (l:=y9.2.2.Last) hs9 vX.1 (vX.2.1.1.trans hl9.2.1) (vX.2.1.2.1.trans hl9.2.2.1) IY.1 hl9.2.2.2.2.2 UY.2.2.2.2); .j0 (.c (λh5=> .kt (.s ⟨?_,?_,?_,?_,?_⟩))
  λh5=> .c (λh6=> .s ⟨?_,?_,?_,?_,?_⟩)
  λh6=> .g ?_ (.b (OL ?_ ?_) λr27 sY=>have:=US sY;have YW:=xE.2 ⟨UY.1.1,tD.2 ⟨sY,AC⟩⟩; .g ?_ (.s ⟨?_,?_,?_,?_,?_⟩))))
  λk10 QV=> .c (λh7=> .m (pA ?_) (.g ?_ (QV _ ⟨?_,?_,?_,?_⟩)))
  λh7=> .j0 (.c (λh8=> .b (zrd ?_ ?_) λr15 PW=>have hS15:=LM (a:=a0) (c:=r5.1) (p:=r15.1) (l:=a1) ha RV.1 (RV.2.1.1.trans hl.2.1) (RV.2.1.2.trans hl.2.2.1) PW hx.2.2 hd; .j0 (.c (λh9=> .m (pA ?_) (.g ?_ (QV _ ⟨?_,?_,?_,?_⟩)))
  λh9=>QV _ ⟨?_,?_,?_,?_⟩))
  λh8=> .j0 (.c (λuW=> .b (zpl ?_ ?_ ?_) λr22 fX=>have hS22:=zj2 hS fX.1;have:=BE fX.2.2.2.1;have YW:=xE.2 ⟨tD.2 ⟨BW,AC⟩,fX.2.2.2.1⟩; .g ?_ (.g ?_ (QV _ ⟨?_,?_,?_,?_⟩)))
  λuW=>QV _ ⟨?_,?_,?_,?_⟩)))))
 all_goals first | trivial | assumption | exact AC | exact fH | exact hS.1 | ((try simp only[NB]at *)<;>omega) | grind [eA,nA,qO,fH,zgW,nC,WC,SD,GA,tD,AC,xE]
def zok{a0 a1 a2 a3}(ha:MB a0=true)(hb:eA a1 0 1000000=true)(hc:GA a2=true)(hd:wB a3=true)(he:jC a3.Kind=true):Ok (Lb a0 a1 a2 a3) λr=>MB r.1=true∧r.1.Psks=a0.Psks∧IE r.2.1∧(r.2.1.length≤2∧wt r.2.1≤1000)∧iC r.2.2∧r.2.2.length≤8:=by
 unfold Lb;refine have hfs:=zg4 hd he;have:=EF ha;have S:=qF.1 ha;have:=S.tab;have:=sD hd;have hw:=FB a0.T.L;
 .m (pA ?_) (have:=gO a0.T a3.Sn; .j (λy2:Bool=>y2=false→0≤PE a0.T a3.Sn) (λy2 xW=> .c (λh1=> .s ⟨?_,?_,?_,?_,?_,?_⟩)
  λh1=> .m (pA ?_) (have:=rL a0.D; .b (zi0 ?_) λr6 _=> .j (λy7:(List UInt8)=>y7.length≤12) (λy7 xY=>have S2:=aF.1 S.tab; .bm ?_ ?_ λe9 MZ CY=>have H0:=S2.el _ MZ;have:=lF H0; .b (ziq ?_ ?_ ?_) λr10 pW=>have:=lF pW.1.1;have:=BE pW.2.2.2.1; .b (zaQ ?_ ?_) λr11 zW=>have hid:=λe he=>(zW.2.1 e he).elim (S.id e) λh=>(by rw[h,pW.1.2.1];exact S.id _ MZ);have V3:=pJ (d:=⟨a0.Psks,a0.J,a0.D,r11.1,a0.Cr⟩) ha rfl S.jar S.dice zW.1 S.cr hid;have hsv2:=pJ (d:=⟨a0.Psks,a0.J,(SC a0.D).1,r11.1,a0.Cr⟩) ha rfl S.jar ((rL a0.D).2.2.1 S.dice) zW.1 S.cr hid; .j (λy12:(List Ad)×Ac=>iC y12.1∧y12.1.length≤8∧MB y12.2=true∧y12.2.Psks=a0.Psks) (λy12 nY=> .s ⟨?_,?_,?_,?_,?_,?_⟩)
  λk13 iW=> .c (λh2=> .m (pA ?_) (.m (pA ?_) (.m (pA ?_) (have:=zcN y7;have:=@zcm y7; .g ?_ (.g ?_ (iW _ ⟨?_,?_,?_,?_⟩))))))
  λh2=>iW _ ⟨?_,?_,?_,?_⟩)
  λk8 sW=> .c (λh3=>sW _ ?_)
  λh3=>sW _ ?_))
  λk3 KV=> .c (λh4=>KV _ ?_)
  λh4=> .bm ?_ ?_ λe4 tZ WY=>KV _ ?_)
 all_goals first | trivial | assumption | exact AC | exact fH | ((try simp only[NB]at *)<;>omega) | grind [eA,nA,nC,WC,SD,GA,tD,AC,xE]
def zq4{a0}(ha:wt a0≤1000000000):Ok (Dv a0) λr=>0≤r:=by
 unfold Dv;refine .b (zeT ?_) λr1 OV=> .s ?_
 all_goals first | trivial | ((try simp only[NB]at *)<;>omega) | grind [eA,nA]
def zrL{a0 a1 a2}(ha:kD a0=true):Ok (Dw a0 a1 a2) λr=>kD r.1=true:=by
 unfold Dw;refine have:=KI ha;have:=aT a0 a1;
 .m (pA ?_) (.j0 (.c (λh1=> .kt (.s ?_))
  λh1=>have:=KI (nf h1); .c (λh2=> .kt (.s ?_))
  λh2=> .b (ziB ?_) λr4 VV=> .c (λh3=> .s ?_)
  λh3=> .h ?_ (.bg ?_ λe5 CX uX=>have hg:=zg1 ha CX;have hk:=@zms a0 _ e5 e5.Got (iA .i64 e5.Sent a2) ha CX;have hi:=@DA e5.Sent a2; .h ?_ (.m CX (.s (have:=EC a0 ((nB a0 a1).toNat) (⟨e5.A,e5.Got,iA .i64 e5.Sent a2⟩:Al);?_))))))
 all_goals first | trivial | ((try simp only[NB]at *)<;>(try simp(disch:=omega) only[DA,JA]at *)<;>omega) | grind [eA,nA]
def zoT{a0 a1 a2 a3}(ha:MB a0=true)(hb:wt a3≤900000000):Ok (Im a0 a1 a2 a3) λr=>MB r.1=true∧r.1.Psks=a0.Psks∧IE r.2.1∧(r.2.1.length≤3∧wt r.2.1≤9100)∧iC r.2.2∧r.2.2.length≤8:=by
 unfold Im;refine have:=EF ha;have S:=qF.1 ha;have:=S.cr;
 .m (pA ?_) (.j0 (.m (pA ?_) (.c (λh1=> .kt (.s ⟨?_,?_,?_,?_,?_,?_⟩))
  λh1=>have:=EF (nf h1); .c (λh2=> .kt (.s ⟨?_,?_,?_,?_,?_,?_⟩))
  λh2=> .c (λh3=> .s ⟨?_,?_,?_,?_,?_,?_⟩)
  λh3=>have:=HF (nf h3); .b (zsk ?_) λr5 RV=>have V3:=pJ (d:=⟨a0.Psks,a0.J,a0.D,a0.T,r5⟩) ha rfl S.jar S.dice S.tab RV S.id; .b (zih ?_) λr6 vW=> .j (λy7:(List Av)×(List Ad)×Ac=>IE y7.1∧(y7.1.length≤3∧wt y7.1≤2000)∧iC y7.2.1∧y7.2.1.length≤8∧MB y7.2.2=true∧y7.2.2.Psks=a0.Psks) (λy7 xY=> .j (λy18:(List Av)×Ac=>IE y18.1∧(y18.1.length≤3∧wt y18.1≤9100)∧MB y18.2=true∧y18.2.Psks=a0.Psks) (λy18 A0=> .s ⟨?_,?_,?_,?_,?_,?_⟩)
  λk19 GW=> .l (λx20:(List Av)×Int×Ac=>(0≤x20.2.1∧x20.2.1≤(y7.1.length:Int))∧IE x20.1∧((x20.1.length:Int)≤x20.2.1∧wt x20.1≤3001 *x20.2.1)∧MB x20.2.2=true∧x20.2.2.Psks=a0.Psks) (λx20:(List Av)×Int×Ac=>((y7.1.length:Int) - x20.2.1).toNat) (λx20 C5 k21 aW=>have hx:=EF C5.2.2.2.1;have X:=qF.1 C5.2.2.2.1;have:=X.cr; .c (λh4=> .j (λy22:(List Av)×Ac=>IE y22.1∧((y22.1.length:Int)≤x20.2.1+1∧wt y22.1≤3001 *x20.2.1+3001)∧MB y22.2=true∧y22.2.Psks=a0.Psks) (λy22 Y4=>aW _ ⟨?_,?_,?_,?_,?_⟩ ?_)
  λk23 aY=> .h ?_ (.bg ?_ λe24 he24 he24w=>have ho:=xY.1 _ (List.mem_of_getElem? he24); .b (zjF ?_) λr25 _=> .j (λy26:Ac=>MB y26=true∧y26.Psks=a0.Psks) (λy26 v1=> .g ?_ (aY _ ⟨?_,?_,?_,?_⟩))
  λk27 dX=> .c (λh5=> .b (zq4 ?_) λr28 R2=> .b (zrL ?_) λr29 vZ=>have hsv2:=pJ (d:=⟨x20.2.2.Psks,x20.2.2.J,x20.2.2.D,x20.2.2.T,r29.1⟩) C5.2.2.2.1 rfl X.jar X.dice X.tab vZ X.id; .c (λh6=>aY _ ⟨?_,?_,?_,?_⟩)
  λh6=>dX _ ⟨?_,?_⟩)
  λh5=>dX _ ⟨?_,?_⟩))
  λh4=>GW _ ⟨?_,?_,?_,?_⟩) ⟨?_,?_,?_,?_,?_⟩ ?_)
  λk8 sW=> .c (λh7=>sW _ ⟨?_,?_,?_,?_,?_,?_⟩)
  λh7=> .j0 (.c (λh8=> .b (zpF ?_ ?_ ?_ ?_) λr11 zW=>sW _ ⟨?_,?_,?_,?_,?_,?_⟩)
  λh8=> .j0 (.c (λh9=> .b (zoW ?_ ?_ ?_ ?_) λr14 nX=>sW _ ⟨?_,?_,?_,?_,?_,?_⟩)
  λh9=> .j0 (.c (λuW=> .b (zok ?_ ?_ ?_ ?_ ?_) λr17 YX=>sW _ ⟨?_,?_,?_,?_,?_,?_⟩)
  λuW=>sW _ ⟨?_,?_,?_,?_,?_,?_⟩))))))
 all_goals first | trivial | assumption | exact AC | exact fH | ((try simp only[NB]at *)<;>(try simp(disch:=omega) only[DA,JA]at *)<;>omega) | grind [eA,nA,qO,fH,zgW]
end Go.D
namespace Go.D
def zpL{a0 a1 a2}(ha:wB a2=true)(hb:1≤a1∧a1≤9):Ok (Ey a0 a1 a2) λr=>wt r.1≤100∧(r.2=true→wB r.1=true)∧(r.2=true→r.1.Kind=3∧r.1.Id=a1∧r.1.Cn=a2.Cn∧r.1.Sn=a2.Sn):=by
 unfold Ey;refine have:=sD ha;have Q5:=@zam a2 ha;
 .j0 (.c (λh1=> .kt (.s ⟨?_,?_,?_⟩))
  λh1=> .m (pA ?_) (.c (λh2=> .s ⟨?_,?_,?_⟩)
  λh2=>have:=sD (nf h2); .b (zjn ?_ ?_ ?_) λr4 VV=> .c (λh3=> .s ⟨?_,?_,?_⟩)
  λh3=> .m (pA ?_) (.m (pA ?_) (.m (pA ?_) (.s ⟨?_,?_,?_⟩)))))
 all_goals first | trivial | ((try simp only[NB]at *)<;>omega) | grind [eA,nA,wB,jC]
def zil{a0 a1}(ha:mC a0=true):Ok (Bu a0 a1) λr=>mC r=true∧(r.Role=a0.Role∧r.Sn=a0.Sn∧r.Next=a0.Next):=by
 unfold Bu;refine have:=YC ha;
 .m (pA ?_) (.j (λy2:Bool=>True) (λy2 xW=> .j0 (.c (λh1=> .s ⟨?_,?_⟩)
  λh1=> .s ⟨?_,?_⟩))
  λk3 KV=> .m (pA ?_) (.c (λh2=>have:=YC h2; .c (λh3=> .c (λh4=> .c (λh5=>KV _ ?_)
  λh5=>KV _ ?_)
  λh4=>KV _ ?_)
  λh3=>KV _ ?_)
  λh2=>KV _ ?_))
 all_goals first | trivial | ((try simp only[NB]at *)<;>omega) | grind [eA,nA,mC,PG,aG]
def zoU{a0 a1}:Ok (Cq a0 a1) λr=>r=true→a0.On=true∧uD a0=true∧eA a1 0 1000000=true:=by
 unfold Cq
 refine .j0 (.c (λh1=> .c (λh2=> .c (λh3=> .s ?_)
  λh3=> .s ?_)
  λh2=> .s ?_)
  λh1=> .s ?_)
 all_goals first | trivial | ((try simp only[NB]at *)<;>omega) | grind [eA,nA]
def zic{a0 a1}(ha:uD a0=true):Ok (Dy a0 a1) λr=>uD r.1=true∧(r.2=0→r.1=a0)∧(r.2≠2→r.1.On=a0.On)∧(r.2≠0→a0.On=true):=by
 unfold Dy;refine have hw:=@zw5 a0 ha;have hm:=zgx (ZB .i64 2 a0.Wait) 8;have h1:=@DA a0.Tries 1;have h2:=@zxo a0.Wait;have h3:=@DA a1 (YD (ZB .i64 2 a0.Wait) 8);
 .b zoU λr1 OV=> .c (λh1=> .s ⟨?_,?_,?_,?_⟩)
  λh1=> .c (λh2=> .s ⟨?_,?_,?_,?_⟩)
  λh2=> .s ⟨?_,?_,?_,?_⟩
 all_goals first | trivial | ((try simp only[NB]at *)<;>(try simp(disch:=omega) only[DA,JA]at *)<;>omega) | grind [eA,nA,uD,KF]
def zqs{a0 a1}(ha:sB a0=true)(hb:a0.St=3)(hc:eA a1 0 1000000=true):Ok (Lh a0 a1) λr=>sB r.1=true∧(r.1.Id=a0.Id∧r.1.Psk=a0.Psk∧r.1.At=a0.At)∧iC r.2.2∧r.2.2.length≤6∧(r.2.1.length≤1∧wt r.2.1≤400):=by
 unfold Lh;refine have:=UD ha;have hc:=znd ha hb;have:=YC hc.1;
 .c (λh1=> .b (zbN ?_) λr1 OV=> .b (zbi ?_ ?_ ?_) λr2 fW=> .s ⟨?_,?_,?_,?_,?_⟩)
  λh1=> .m (pA ?_) (.b (zil ?_) λr4 VV=> .b (zic ?_) λr5 RV=> .c (λh2=> .s ⟨?_,?_,?_,?_,?_⟩)
  λh2=> .j (λy6:Ae=>sB y6=true∧(y6.Id=a0.Id∧y6.Psk=a0.Psk∧y6.At=a0.At)∧y6.St=3) (λy6 yX=>have:=UD yX.1;have hc6:=znd yX.1 yX.2.2; .b (zis ?_) λr9 SW=> .c (λh3=> .s ⟨?_,?_,?_,?_,?_⟩)
  λh3=> .b (OL ?_ ?_) λr10 pW=> .s ⟨?_,?_,?_,?_,?_⟩)
  λk7 UV=> .c (λh4=> .b zaO λr8 BW=>UV _ ⟨?_,?_,?_⟩)
  λh4=>UV _ ⟨?_,?_,?_⟩)
 all_goals first | trivial | ((try simp only[NB]at *)<;>(try simp(disch:=omega) only[DA,JA]at *)<;>omega) | grind [eA,nA,sB,tD,AC,rH]
def zo5{a0 a1}(ha:sB a0=true):Ok (Iq a0 a1) λr=>sB r.1=true∧(r.1.Id=a0.Id∧r.1.Psk=a0.Psk∧r.1.At=a0.At)∧iC r.2.2∧r.2.2.length≤6∧(r.2.1.length≤1∧wt r.2.1≤400):=by
 unfold Iq;refine have:=UD ha;
 .m (pA ?_) (.j0 (.m (pA ?_) (.c (λh1=> .kt (.s ⟨?_,?_,?_,?_,?_⟩))
  λh1=>have:=UD (nf h1); .c (λh2=> .kt (.s ⟨?_,?_,?_,?_,?_⟩))
  λh2=> .c (λh3=> .s ⟨?_,?_,?_,?_,?_⟩)
  λh3=> .c (λh4=> .b (zqs ?_ ?_ ?_) λr5 RV=> .s ⟨?_,?_,?_,?_,?_⟩)
  λh4=> .b (zic ?_) λr6 vW=> .c (λh5=> .b (zbN ?_) λr7 IW=> .m (pA ?_) (.s ⟨?_,?_,?_,?_,?_⟩))
  λh5=> .jt (λy10=> .c (λh6=> .b (ziS ?_) λr12 yW=> .s ⟨?_,?_,?_,?_,?_⟩)
  λh6=> .c (λh7=> .m (pA ?_) (.s ⟨?_,?_,?_,?_,?_⟩))
  λh7=> .s ⟨?_,?_,?_,?_,?_⟩)
  λk11 PV=> .c (λh8=>PV _)
  λh8=>PV _)))
 all_goals first | trivial | ((try simp only[NB]at *)<;>omega) | grind [eA,nA,sB,XI,tD,AC,nC,WC,SD,GA]
def zoQ{a0 a1 a2}(ha:sB a0=true)(hb:wB a2=true)(hc:a2.Kind=2)(hd:a0.St=1)(he:a2.Cn=a0.Cn)(hf:eA a1 0 1000000=true):Ok (Lc a0 a1 a2) λr=>sB r.1=true∧(r.1.Id=a0.Id∧r.1.Psk=a0.Psk∧r.1.At=a0.At)∧iC r.2.2∧r.2.2.length≤6∧(r.2.1.length≤1∧wt r.2.1≤400):=by
 unfold Lc;refine have:=UD ha;have I3:=zxT ha hd;have hf:=zam hb hc;
 .m (pA ?_) (.b (zpL ?_ ?_) λr2 fW=> .c (λh1=> .s ⟨?_,?_,?_,?_,?_⟩)
  λh1=> .b zaO λr3 tW=> .b (zif ?_ ?_ ?_) λr4 VV=> .b (ziw ?_ ?_ ?_) λr5 RV=>have:=YC RV.1; .m (pA ?_) (.m (pA ?_) (.b zeP λr8 BW=> .b (zeO ?_ ?_ ?_) λr9 SW=> .b (zfy ?_ ?_) λr10 pW=> .m (pA ?_) (.s ⟨?_,?_,?_,?_,?_⟩))))
 all_goals first | trivial | ((try simp only[NB]at *)<;>omega) | grind [eA,nA,sB,XI,tD,AC,nC,WC,SD,GA]
def zoJ{a0 a1 a2}(ha:sB a0=true)(hb:wB a2=true)(hc:jC a2.Kind=true)(hd:a0.St=2∨a0.St=3)(he:eA a1 0 1000000=true):Ok (Ld a0 a1 a2) λr=>sB r.1=true∧(r.1.Id=a0.Id∧r.1.Psk=a0.Psk∧r.1.At=a0.At)∧iC r.2.2∧r.2.2.length≤6∧(r.2.1.length≤1∧wt r.2.1≤400):=by
 unfold Ld;refine have:=UD ha;have hfs:=zg4 hb hc;have s9:=sD hb;have hc2:=zmN ha hd;have:=YC hc2.1;
 .m (pA ?_) (.b (zin ?_ ?_) λr2 fW=>have:=YC fW.1; .c (λh1=> .s ⟨?_,?_,?_,?_,?_⟩)
  λh1=> .b (ziR ?_) λr3 tW=> .b (mP ?_) λr4 VV=> .b (zbv ?_ ?_ ?_) λr5 RV=>have:=US RV; .j (λy6:(List Ad)×Ae=>iC y6.1∧y6.1.length≤2∧(y6.2.Id=a0.Id∧y6.2.Psk=a0.Psk∧y6.2.At=a0.At∧y6.2.C=r2.1∧y6.2.R=a0.R∧y6.2.St=3∧y6.2.Cn=a0.Cn∧y6.2.Last=a1)∧(LF y6.2.Fin=true∧KF y6.2.T=true)) (λy6 yX=>have:=BE yX.1; .j (λy12:(List Ad)×Ae=>iC y12.1∧y12.1.length≤3∧sB y12.2=true∧(y12.2.Id=a0.Id∧y12.2.Psk=a0.Psk∧y12.2.At=a0.At∧y12.2.C=r2.1∧y12.2.St=3)) (λy12 nY=>have:=BE nY.1; .j (λy17:(List Ad)=>iC y17∧y17.length≤4) (λy17 eZ=>have:=BE eZ.1; .c (λh2=> .s ⟨?_,?_,?_,?_,?_⟩)
  λh2=> .b (rP ?_ ?_) λr21 o0=>have:=YC o0.1;have hh:=o0.2.2.2; .c (λh3=> .s ⟨?_,?_,?_,?_,?_⟩)
  λh3=> .m (pA ?_) (.b (OL ?_ ?_) λr23 IY=>have YW:iC [r23,(⟨8,0,0,[],r21.2.1.Sn,r21.2.1.Epoch,0,r2.2.1,[],(⟨0,0⟩:Ai),0⟩:Ad)]:=tD.2 ⟨IY,tD.2 ⟨(by grind [nC,WC,SD,eA,GA,rH]),AC⟩⟩;have:=BE YW;have hno2:=xE.2 ⟨eZ.1,YW⟩; .g ?_ (.s ⟨?_,?_,?_,?_,?_⟩)))
  λk18 FW=> .c (λh4=> .m (pA ?_) (.g ?_ (FW _ ⟨?_,?_⟩)))
  λh4=>FW _ ⟨?_,?_⟩)
  λk13 iW=> .c (λh5=> .m (pA ?_) (.m (pA ?_) (.g ?_ (iW _ ⟨?_,?_,?_,?_⟩))))
  λh5=>iW _ ⟨?_,?_,?_,?_⟩)
  λk7 UV=> .c (λh6=> .m (pA ?_) (.m (pA ?_) (.m (pA ?_) (.g ?_ (UV _ ⟨?_,?_,?_,?_⟩)))))
  λh6=>UV _ ⟨?_,?_,?_,?_⟩)
 all_goals first | trivial | assumption | ((try simp only[NB]at *)<;>omega) | grind [eA,nA,sB,XI,tD,AC,xE,nC,WC,SD,GA,LF,KF,uD]
def zoP{a0 a1 a2}(ha:sB a0=true)(hb:wB a2=true)(hc:eA a1 0 1000000=true):Ok (In a0 a1 a2) λr=>sB r.1=true∧(r.1.Id=a0.Id∧r.1.Psk=a0.Psk∧r.1.At=a0.At)∧iC r.2.2∧r.2.2.length≤6∧(r.2.1.length≤1∧wt r.2.1≤400):=by
 unfold In;refine have:=UD ha;have:=sD hb;
 .j0 (.m (pA ?_) (.c (λh1=> .kt (.m (pA ?_) (.s ⟨?_,?_,?_,?_,?_⟩)))
  λh1=>have:=UD (nf h1); .c (λh2=> .kt (.m (pA ?_) (.s ⟨?_,?_,?_,?_,?_⟩)))
  λh2=> .m (pA ?_) (.c (λh3=> .m (pA ?_) (.s ⟨?_,?_,?_,?_,?_⟩))
  λh3=>have:=sD (nf h3); .j (λy6:Bool=>y6=true→a2.Kind=2∧a0.St=1∧a2.Cn=a0.Cn) (λy6 yX=> .c (λh4=> .b (zoQ ?_ ?_ ?_ ?_ ?_ ?_) λr9 SW=> .s ⟨?_,?_,?_,?_,?_⟩)
  λh4=> .j (λy10:Bool=>y10=true→jC a2.Kind=true∧(a0.St=2∨a0.St=3)) (λy10 cX=> .c (λh5=> .b (zoJ ?_ ?_ ?_ ?_ ?_) λr12 yW=> .s ⟨?_,?_,?_,?_,?_⟩)
  λh5=> .m (pA ?_) (.s ⟨?_,?_,?_,?_,?_⟩))
  λk11 PV=> .c (λh6=> .c (λh7=>PV _ ?_)
  λh7=>PV _ ?_)
  λh6=>PV _ ?_)
  λk7 UV=> .c (λh8=> .c (λh9=> .m (pA ?_) (UV _ ?_))
  λh9=>UV _ ?_)
  λh8=>UV _ ?_)))
 all_goals first | trivial | assumption | exact AC | ((try simp only[NB]at *)<;>omega) | grind [eA,nA]
end Go.D
namespace Go.D
def zsd{a0 a1 a2 a3}(ha:wt a0≤4000000000)(hb:wt a3≤900000000):Ok (Cm a0 a1 a2 a3) λr=>(tB a0=true→tB r.1=true)∧(∃m,r.1.Notes=a0.Notes++m)∧wt r.1≤wt a0+100000∧wt r.2≤1000∧(tB a0=true→a1=0→CI r.2 AE)∧(tB a0=true→∀c,a1≠0→a0.Clients[(sA .i64 a1 1).toNat]?=some c→CI r.2 c.At∧dP r.2)∧(tB a0=false→r.1=a0∧r.2=[])∧r.1.Now=a0.Now:=by
 unfold Cm
 refine .m (pA ?_) (.j0 (.m (pA ?_) (.c (λh1=> .kt (.s ⟨?_,?_,?_,?_,?_,?_,?_,?_⟩))
  λh1=>have:=jO (nf h1);have V1:=nf h1;have W:=HC.1 V1;have:=W.srv; .c (λh2=> .kt (.s ⟨?_,?_,?_,?_,?_,?_,?_,?_⟩))
  λh2=> .c (λh3=> .s ⟨?_,?_,?_,?_,?_,?_,?_,?_⟩)
  λh3=>have:=HF (nf h3); .c (λh4=> .b (zoT ?_ ?_) λr5 RV=>have:=BE RV.2.2.2.2.1;have:=EF RV.1;have t9:=zfT V1 RV.1 RV.2.1 RV.2.2.2.2.1; .g ?_ (.b (ze1 ?_ ?_) λr6 vW=> .s ⟨?_,?_,?_,?_,?_,?_,?_,?_⟩))
  λh4=> .b (zih ?_) λr7 IW=> .c (λh5=> .s ⟨?_,?_,?_,?_,?_,?_,?_,?_⟩)
  λh5=> .bi ?_ ?_ λe8 R3 Q2=>have ce:=fT V1 (List.mem_of_getElem? R3);have cf:=UD ce; .b (zoP ?_ ?_ ?_) λr9 SW=>have:=BE SW.2.2.1;have:=UD SW.1;have hwc:=zf6 V1 R3 SW.1 SW.2.1.1 SW.2.1.2.1 SW.2.2.1; .h ?_ (.m R3 (.g ?_ (.b (zaL ?_ ?_) λr11 zW=>have hw11:∀c,a1≠0→a0.Clients[(sA .i64 a1 1).toNat]?=some c→CI r11 c.At∧dP r11:=λc _ hc=>(by have e:=Option.some.inj (R3.symm.trans hc);subst e;have:=zW.2 (by rw[SW.2.1.2.2];exact zeb ce);rwa [SW.2.1.2.2]at this); .s (have:=EC a0.Clients ((sA .i64 a1 1).toNat) r9.1;⟨?_,?_,?_,?_,?_,?_,?_,?_⟩)))))))
 all_goals first | trivial | exact⟨[],(List.append_nil _).symm⟩ | exact⟨_,rfl⟩ | assumption | exact λ_ _=>zme | exact λ_ _ _ _=>⟨zme,zvu⟩ | exact λ_ _=>vW.2 | exact RV.2.2.1 | exact λk=>absurd V1 (by rw[k];decide) | exact λ_=>t9 | exact λ_=>hwc | exact λ_ _=>vW | exact λ_=>hw0 | exact λ_=>hw11 | ((try simp only[NB,HT]at *)<;>(try simp(disch:=omega) only[DA,JA]at *)<;>omega) | grind [eA,nA]
end Go.D
namespace Go.D
def zpv{a0 a1}(ha:sC a0=true):Ok (Dj a0 a1) λr=>sC r=true∧r.At=a0.At:=by
 unfold Dj;refine have:=eI ha;
 .j0 (.c (λh1=> .kt (.m (pA ?_) (.s ⟨?_,?_⟩)))
  λh1=>have:=eI (nf h1); .c (λh2=> .m (pA ?_) (.s ⟨?_,?_⟩))
  λh2=> .b (zh6 ?_) λr4 VV=> .s ⟨?_,?_⟩)
 all_goals first | trivial | ((try simp only[NB]at *)<;>omega) | grind [eA,nA]
def zfv{a0}(ha:vC a0=true):Ok (Fa a0) λr=>XE a0 r∧r.Dead=true:=by
 unfold Fa;refine have:=lF ha;
 .m (pA ?_) (.c (λh1=> .m (pA ?_) (.s ⟨?_,?_⟩))
  λh1=>have:=eL (nf h1); .m (pA ?_) (.m (pA ?_) (.s ⟨?_,?_⟩)))
 all_goals first | trivial | ((try simp only[NB]at *)<;>omega) | grind [eA,nA,XE,vC,tC,aG,PB]
def zpA{a0 a1}(ha:vC a0=true):Ok (Ir a0 a1) λr=>XE a0 r:=by
 unfold Ir;refine have:=lF ha;have hl:=@UM a0 ha;have:=lO ha;
 .m (pA ?_) (.j0 (.m (pA ?_) (.c (λh1=> .kt (.s ?_))
  λh1=>have:=eL (nf h1); .c (λh2=> .kt (.s ?_))
  λh2=>have hd:=h2;have hl:=hl h2; .c (λh3=> .s ?_)
  λh3=> .c (λh4=> .b (zfv ?_) λr5 RV=> .s ?_)
  λh4=> .b (zil ?_) λr6 vW=> .b (zpv ?_) λr7 IW=>have hR:=λe=>LM (a:=a0) (c:=r6) (p:=r7) (l:=a0.Last) ha vW.1 (vW.2.1.trans hl.2.1) (vW.2.2.1.trans hl.2.2.1) IW.1 hl.2.2.2.2.2 e; .s ?_)))
 all_goals first | trivial | ((try simp only[NB]at *)<;>(try simp(disch:=omega) only[DA,JA]at *)<;>omega) | grind [eA,nA]
def zp8{a0 a1}(ha:TC a0=true):Ok (Is a0 a1) λr=>TC r=true∧Tk a0.L r.L:=by
 have hL:=GB;have hf:=jL ha;have T:=aF.1 ha
 have tr:Tk a0.L a0.L:=by
  have:∀l:List Ah,(∀e∈l,vC e=true)→F2 l l:=λl=>by
   induction l with
   | nil=>exact λ_=> .nil
   | cons e l ih=>exact λh=> .cons (lO (h e List.mem_cons_self)) (ih λx hx=>h x (List.mem_cons_of_mem _ hx))
  exact⟨_, .refl _,this _ T.el⟩
 unfold Is;refine .j0 (.m (pA (by omega)) (.c (λ_=> .kt (.m (pA (by omega)) (.s ⟨ha,tr⟩))) λ_=> .c (λ_=> .m (pA (by omega)) (.s ⟨ha,tr⟩)) λ_=>?_));refine .j (λy:Ao=>y.Cap=a0.Cap∧Tk a0.L y.L) (λy hy=> .s ⟨?_,hy.2⟩) λk hk=> .l (λx:Int×Ao=>∃i:Nat,x.1=(i:Int)∧i≤a0.L.length∧x.2.Cap=a0.Cap∧Tk (a0.L.take i) x.2.L∧x.2.L.length≤i∧wt x.2.L≤240 *i) (λx:Int×Ao=>((a0.L.length:Int) - x.1).toNat) (λx hx k' iX=>?_) ⟨0,rfl,Nat.zero_le _,rfl,zxi,Nat.le_refl _,Nat.le_refl _⟩ (by simp only;omega)
 ·have:=zxt ha hy.2;rwa [←hy.1]at this
 ·obtain⟨i,h1,h2,h3,h4,h5,h6⟩:=hx;refine .c (λh=>?_) λh=>hk _ ⟨h3,?_⟩
  ·simp only[B]at h;have W3:iA .i64 x.1 1=((i+1:Nat):Int):=by rw[h1,DA (by omega) (by omega)];omega
   refine .bi (by omega) (by omega) λe he hew=> .b (zpA (T.el e (List.mem_of_getElem? he))) λr hr=>?_;rw[show x.1.toNat=i by omega]at he;have ht:=take_succ he;have hs:=lF hr.1;refine .jt (λy=> .j (λy:Ao=>y.Cap=a0.Cap∧Tk (a0.L.take (i+1)) y.L∧y.L.length≤i+1∧wt y.L≤240 *(i+1)) (λy hy=>iX _ ⟨i+1,W3,by omega,hy.1,hy.2.1,hy.2.2.1,hy.2.2.2⟩ (by simp only[W3];omega)) λk2 JV=> .c (λ_=> .g ?_ (JV _ ⟨h3,?_,?_,?_⟩)) λ_=>JV _ ⟨h3,?_,by omega,by omega⟩) λk2 JV=> .c (λ_=>JV _) λ_=>JV _
   ·simp only[N]at hs⊢;omega
   ·rw[ht];exact zxg h4 hr
   ·simp only[N]at hs⊢;omega
   ·simp only[N]at hs⊢;omega
   ·rw[ht];exact zwd e h4
  ·simp only[B]at h;rw[show a0.L.take i=a0.L from List.take_of_length_le (by omega)]at h4;exact h4
def zoI{a0 a1}(ha:MB a0=true):Ok (Iu a0 a1) λr=>MB r.1=true∧r.1.Psks=a0.Psks∧iC r.2∧r.2.length≤12:=by
 unfold Iu;refine have:=EF ha;have S:=qF.1 ha;have:=S.tab;have T:=aF.1 S.tab;have hw:=FB a0.T.L;have:=T.len;
 .m (pA ?_) (.j0 (.m (pA ?_) (.c (λh1=> .kt (.s ⟨?_,?_,?_,?_⟩))
  λh1=>have:=EF (nf h1); .c (λh2=> .s ⟨?_,?_,?_,?_⟩)
  λh2=> .b (zp8 ?_) λr5 RV=>have:=jL RV.1;have V3:=pJ (d:=⟨a0.Psks,a0.J,a0.D,r5,a0.Cr⟩) ha rfl S.jar S.dice RV.1 S.cr (λe he=>(by obtain⟨d,h1,h2⟩:=zmx RV.2 he;have e1:e.Id=d.Id:=h2.2.1;show e.Id≤(a0.Psks.length:Int);rw[e1];exact S.id d h1)); .j (λy6:(List Ad)=>iC y6∧y6.length≤12) (λy6 yX=> .s ⟨?_,?_,?_,?_⟩)
  λk7 UV=> .l (λx8:(List Ad)×Int=>(0≤x8.2∧x8.2≤(a0.T.L.length:Int))∧iC x8.1∧(x8.1.length:Int)≤x8.2) (λx8:(List Ad)×Int=>((a0.T.L.length:Int) - x8.2).toNat) (λx8 W4 k9 bX=>have:=BE W4.2.1; .c (λh3=> .bm ?_ ?_ λe10 oY xX=>have H0:=T.el _ oY;have:=lF H0; .m (pA ?_) (have:=gO r5 e10.Sn; .j (λy12:Bool=>True) (λy12 nY=> .j (λy15:(List Ad)=>iC y15∧(y15.length:Int)≤x8.2+1) (λy15 m0=>bX _ ⟨?_,?_,?_⟩ ?_)
  λk16 RW=> .c (λh4=> .b (zbi ?_ ?_ ?_) λr17 YX=>have:=US YX;have YW:=xE.2 ⟨W4.2.1,tD.2 ⟨YX,AC⟩⟩; .g ?_ (RW _ ⟨?_,?_⟩))
  λh4=>RW _ ⟨?_,?_⟩)
  λk13 iW=> .c (λh5=> .c (λh6=>iW _ ?_)
  λh6=> .h ?_ (.bg ?_ λe14 ZZ VY=>iW _ ?_))
  λh5=>iW _ ?_))
  λh3=>UV _ ⟨?_,?_⟩) ⟨?_,?_,?_⟩ ?_)))
 all_goals first | trivial | assumption | exact AC | exact V3 | ((try simp only[NB]at *)<;>(try simp(disch:=omega) only[DA,JA]at *)<;>omega) | grind [eA,nA]
def zjM{a0 a1}(ha:wt a0≤1000000):Ok (Gm a0 a1) λr=>(gC a0=true→gC r=true)∧wt r≤wt a0:=by
 unfold Gm
 refine .m (pA ?_) (.j (λy2:Bool=>y2=true→gC a0=true∧eA a1 0 10000=true) (λy2 xW=> .j (λy4:Au=>(gC a0=true→gC y4=true)∧wt y4≤wt a0) (λy4 BY=> .s ⟨?_,?_⟩)
  λk5 gW=> .c (λh1=>gW _ ⟨?_,?_⟩)
  λh1=>gW _ ⟨?_,?_⟩)
  λk3 KV=> .c (λh2=>have:=zgj h2;KV _ ?_)
  λh2=>KV _ ?_)
 all_goals first | trivial | ((try simp only[NB]at *)<;>omega) | grind [eA,nA,gC]
def ztb{a0 a1}(ha:wt a0≤500000000)(hb:wt a1≤1000):Ok (Iv a0 a1) λr=>r=a0∨r=a0++[a1]∧RD r=true:=by
 unfold Iv
 refine .g ?_ (.g ?_ (.m (pA ?_) (.c (λh1=> .m (pA ?_) (.s ?_))
  λh1=>have:=zcT (nf h1); .s ?_)))
 all_goals first | trivial | exact .inl rfl | ((try simp only[NB]at *)<;>omega) | grind [eA,nA]
def zi1{a0}:Ok (Da a0) λr=>r=true→1≤a0.Kind∧a0.Kind≤10∧a0.B.length≤200∧0≤a0.I∧0≤a0.J:=by
 unfold Da
 refine .j0 (.c (λh1=> .c (λh2=> .c (λh3=> .s ?_)
  λh3=> .s ?_)
  λh2=> .s ?_)
  λh1=> .s ?_)
 all_goals first | trivial | ((try simp only[NB]at *)<;>omega) | grind [eA,nA]
def zeX{a0}:Ok (Ib a0) λr=>0≤r∧r≤3∧((a0=4∨a0=9)→r=1)∧((a0=5∨a0=6∨a0=7∨a0=8)→r=2)∧(a0=10→r=3):=by
 by_cases h:4≤a0∧a0≤10
 ·have:a0=4∨a0=5∨a0=6∨a0=7∨a0=8∨a0=9∨a0=10:=by omega
  rcases this with rfl | rfl | rfl | rfl | rfl | rfl | rfl<;>exact⟨_,rfl,by decide⟩
 ·have e:∀k:Int,4≤k→k≤10→(a0==k)=false:=λk _ _=>beq_false_of_ne (by omega);refine⟨0,?_,by omega⟩;simp[Ib,aA,e]
def zrN{a0 a1}(ha:a0.length≤1000000)(hb:a0.length=a1.length):Ok (Kv a0 a1) λr=>r.length≤a0.length:=by
 unfold Kv
 refine .j (λy1:(List UInt8)=>y1.length≤a0.length) (λy1 mW=> .s ?_)
  λk2 JV=> .l (λx3:(List UInt8)×Int=>0≤x3.2∧x3.2≤(a0.length:Int)∧(x3.1.length:Int)=x3.2) (λx3:(List UInt8)×Int=>((a0.length:Int) - x3.2).toNat) (λx3 DY k4 TV=> .c (λh1=> .bi ?_ ?_ λe5 CX uX=> .bi ?_ ?_ λe6 wY tX=> .g ?_ (TV _ ?_ ?_))
  λh1=>JV _ ?_) ?_ ?_
 all_goals first | trivial | ((try simp only[NB]at *)<;>(try simp(disch:=omega) only[DA,JA]at *)<;>omega) | grind [eA,nA]
def zqw{a0 a1 a2 a3}(ha:wt a0≤300000)(hb:wt a1≤4000)(hc:wt a2≤20000)(hd:wt a3≤1000)(he:0≤a0.I)(hf:((a0.Kind=4∨a0.Kind=9)→1≤a1.length)∧((a0.Kind=5∨a0.Kind=6∨a0.Kind=7∨a0.Kind=8)→2≤a1.length)∧(a0.Kind=10→3≤a1.length)):Ok (Kw a0 a1 a2 a3) λr=>r.1.length≤500000:=by
 unfold Kw
 refine .c (λh1=> .s ?_)
  λh1=> .j0 (.c (λh2=> .c (λh3=> .bi ?_ ?_ λe3 X4 T2=> .s ?_)
  λh3=> .s ?_)
  λh2=> .j0 (.c (λh4=> .c (λh5=> .bi ?_ ?_ λe6 wY tX=> .s ?_)
  λh5=> .s ?_)
  λh4=> .c (λh6=> .bi ?_ ?_ λe7 YZ EY=> .m (pA ?_) (have:=zxc e7 a0.I a0.J; .s ?_))
  λh6=> .c (λh7=> .bi ?_ ?_ λe9 MZ CY=> .bi ?_ ?_ λe10 oY xX=> .m (pA ?_) (have:=oI [e9,e10]; .s ?_))
  λh7=> .j0 (.c (λh8=> .bi ?_ ?_ λe14 ZZ VY=> .bi ?_ ?_ λe15 YY ZY=> .c (λh9=> .bi ?_ ?_ λe16 sZ NZ=>match(Option.some.inj (ZZ.symm.trans sZ):e14=e16)with | rfl=>(.bi ?_ ?_ λe17 he17 he17w=>match(Option.some.inj (YY.symm.trans he17):e15=e17)with | rfl=>(.b (zrN ?_ ?_) λr18 ZX=> .s ?_)))
  λh9=> .s ?_)
  λh8=> .c (λuW=> .bi ?_ ?_ λe19 he19 he19w=> .bi ?_ ?_ λe20 he20 he20w=>have hhm:=qL e19 e20; .s ?_)
  λuW=> .c (λHW=> .bi ?_ ?_ λe22 xZ M1=> .bi ?_ ?_ λe23 A7 S3=> .b eV λr24 vX=> .s ?_)
  λHW=> .c (λWW=> .bi ?_ ?_ λe25 he25 X7=> .m (pA ?_) (have:=kM e25 [114,101,107,101,121];have:=@qM e25 [114,101,107,101,121]; .s ?_))
  λWW=> .c (λoX=> .bi ?_ ?_ λe27 Y7 T3=> .bi ?_ ?_ λe28 he28 v7=> .bi ?_ ?_ λe29 HY m8=> .b (zfH ?_ ?_) λr30 z0=> .s ?_)
  λoX=> .s ?_)))
 all_goals first | trivial | ((try simp only[NB]at *)<;>omega) | grind [eA,nA]
def zjH{a0 a1 a2}(ha:wt a0≤300000)(hb:wt a1≤20000)(hc:wt a2≤1000):Ok (Ga a0 a1 a2) λr=>r.1.length≤10000:=by
 unfold Ga;refine have hla:=FB a0;
 .c (λh1=> .s ?_)
  λh1=>have PY:a0.length≤16:=(by have:=h1;simp only[B]at this;omega); .j (λy1:(List (List UInt8))=>wt y1≤3300) (λy1 mW=>have hyw:=FB y1; .c (λh2=> .s ?_)
  λh2=> .h ?_ (.bg ?_ λe15 YY ZY=> .m (pA ?_) (.s ?_)))
  λk2 JV=> .l (λx3:(List (List UInt8))×Int=>0≤x3.2∧x3.2≤(a0.length:Int)∧wt x3.1≤201 *x3.2) (λx3:(List (List UInt8))×Int=>((a0.length:Int) - x3.2).toNat) (λx3 DY k4 TV=>have hpw:=FB x3.1; .c (λh3=> .bi ?_ ?_ λe5 CX uX=> .b zeX λr6 vW=>have hi:iA .i64 x3.2 1=x3.2+1:=DA (by omega) (by omega);have hdz:x3.1.drop 0=x3.1:=rfl;have hs:sA .i64 (x3.1.length:Int) r6=(x3.1.length:Int) - r6:=JA (by omega) (by omega);have hw1:=VD (x3.1.drop (sA .i64 (x3.1.length:Int) r6).toNat) ((x3.1.length:Int) - sA .i64 (x3.1.length:Int) r6).toNat;have hw2:=uF x3.1 (sA .i64 (x3.1.length:Int) r6).toNat;have hw3:=VD x3.1 (sA .i64 (x3.1.length:Int) r6).toNat; .j (λy7:Bool=>y7=false→1≤e5.Kind∧e5.Kind≤10∧e5.B.length≤200∧0≤e5.I∧r6≤(x3.1.length:Int)) (λy7 xY=> .c (λh4=> .s ?_)
  λh4=> .h ?_ (.b (zqw (have:=VD (List.drop ((sA .i64 (x3.1.length:Int) r6).toNat) x3.1) (((x3.1.length:Int) - (sA .i64 (x3.1.length:Int) r6)).toNat);have:=uF x3.1 ((sA .i64 (x3.1.length:Int) r6).toNat);?_) (have:=VD (List.drop ((sA .i64 (x3.1.length:Int) r6).toNat) x3.1) (((x3.1.length:Int) - (sA .i64 (x3.1.length:Int) r6)).toNat);have:=uF x3.1 ((sA .i64 (x3.1.length:Int) r6).toNat);?_) (have:=VD (List.drop ((sA .i64 (x3.1.length:Int) r6).toNat) x3.1) (((x3.1.length:Int) - (sA .i64 (x3.1.length:Int) r6)).toNat);have:=uF x3.1 ((sA .i64 (x3.1.length:Int) r6).toNat);?_) (have:=VD (List.drop ((sA .i64 (x3.1.length:Int) r6).toNat) x3.1) (((x3.1.length:Int) - (sA .i64 (x3.1.length:Int) r6)).toNat);have:=uF x3.1 ((sA .i64 (x3.1.length:Int) r6).toNat);?_) (have:=VD (List.drop ((sA .i64 (x3.1.length:Int) r6).toNat) x3.1) (((x3.1.length:Int) - (sA .i64 (x3.1.length:Int) r6)).toNat);have:=uF x3.1 ((sA .i64 (x3.1.length:Int) r6).toNat);?_) (have:=VD (List.drop ((sA .i64 (x3.1.length:Int) r6).toNat) x3.1) (((x3.1.length:Int) - (sA .i64 (x3.1.length:Int) r6)).toNat);have:=uF x3.1 ((sA .i64 (x3.1.length:Int) r6).toNat);?_)) λr10 pW=> .j (λy11:Bool=>y11=false→r10.1.length≤200) (λy11 GY=> .c (λh5=> .s ?_)
  λh5=> .h ?_ (.g (have:=VD (List.drop 0 x3.1) ((sA .i64 (x3.1.length:Int) r6 - 0).toNat);have:=uF x3.1 0;?_) (.g (have:=VD (List.drop 0 x3.1) ((sA .i64 (x3.1.length:Int) r6 - 0).toNat);have:=uF x3.1 0;?_) (TV _ (have:=VD (List.drop 0 x3.1) ((sA .i64 (x3.1.length:Int) r6 - 0).toNat);have:=uF x3.1 0;?_) (have:=VD (List.drop 0 x3.1) ((sA .i64 (x3.1.length:Int) r6 - 0).toNat);have:=uF x3.1 0;?_)))))
  λk12 ZV=> .c (λh6=>ZV _ ?_)
  λh6=> .c (λh7=>ZV _ ?_)
  λh7=>ZV _ ?_))
  λk8 sW=> .b zi1 λr9 SW=> .c (λh8=>sW _ ?_)
  λh8=>sW _ ?_)
  λh3=>JV _ ?_) ?_ ?_
 all_goals first | trivial | ((try simp only[NB]at *)<;>(try simp(disch:=omega) only[DA,JA]at *)<;>omega) | grind [eA,nA,sV,vD,OG,FA]
def zid{a0 a1}(ha:vC a0=true)(hb:wt a1≤300000):Ok (Di a0 a1) λr=>XE a0 r.1∧IE r.2.1∧(r.2.1.length≤1∧wt r.2.1≤400)∧iC r.2.2.1∧r.2.2.1.length≤2:=by
 unfold Di;refine have:=lF ha;have hl:=@UM a0 ha;have:=lO ha;
 .m (pA ?_) (.j0 (.m (pA ?_) (.c (λh1=> .kt (.s ⟨?_,?_,?_,?_,?_⟩))
  λh1=>have:=eL (nf h1); .c (λh2=> .s ⟨?_,?_,?_,?_,?_⟩)
  λh2=> .c (λh3=> .s ⟨?_,?_,?_,?_,?_⟩)
  λh3=>have hd:=h3;have hl:=hl h3; .b (rP ?_ ?_) λr5 RV=>have hS:=LM (a:=a0) (c:=r5.1) (p:=a0.P) (l:=a0.Last) ha RV.1 (RV.2.1.1.trans hl.2.1) (RV.2.1.2.1.trans hl.2.2.1) hl.2.2.2.1 hl.2.2.2.2.2 hd; .c (λh4=> .s ⟨?_,?_,?_,?_,?_⟩)
  λh4=> .m (pA ?_) (.m (pA ?_) (.b (OL ?_ ?_) λr8 BW=> .s ⟨?_,?_,?_,?_,?_⟩)))))
 all_goals first | trivial | assumption | exact AC | exact fH | ((try simp only[NB]at *)<;>omega) | grind [eA,nA,rH,qO,fH,nC,WC,SD,GA,tD,AC,xE]
def zh9{a0 a1 a2 a3}(ha:MB a0=true)(hb:wt a3≤300000):Ok (Io a0 a1 a2 a3) λr=>MB r.1=true∧r.1.Psks=a0.Psks∧IE r.2.1∧(r.2.1.length≤1∧wt r.2.1≤400)∧iC r.2.2.1∧r.2.2.1.length≤2:=by
 unfold Io;refine have:=EF ha;have S:=qF.1 ha;have:=S.tab;have hw:=FB a0.T.L;
 .m (pA ?_) (.j0 (.m (pA ?_) (.c (λh1=> .kt (.s ⟨?_,?_,?_,?_,?_,?_⟩))
  λh1=>have:=EF (nf h1); .c (λh2=> .s ⟨?_,?_,?_,?_,?_,?_⟩)
  λh2=> .j0 (.c (λh3=> .kt (.s ⟨?_,?_,?_,?_,?_,?_⟩))
  λh3=> .c (λh4=> .s ⟨?_,?_,?_,?_,?_,?_⟩)
  λh4=> .bm ?_ ?_ λe7 YZ EY=>have H0:=(aF.1 S.tab).el _ YZ;have:=lF H0; .b (zid ?_ ?_) λr8 BW=>have:=lF BW.1.1; .c (λh5=> .s ⟨?_,?_,?_,?_,?_,?_⟩)
  λh5=> .b (zaQ ?_ ?_) λr9 SW=>have V3:=pJ (d:=⟨a0.Psks,a0.J,a0.D,r9.1,a0.Cr⟩) ha rfl S.jar S.dice SW.1 S.cr (λe he=>(SW.2.1 e he).elim (S.id e) λh=>(by rw[h,BW.1.2.1];exact S.id _ YZ)); .s ⟨?_,?_,?_,?_,?_,?_⟩))))
 all_goals first | trivial | assumption | exact AC | exact fH | ((try simp only[NB]at *)<;>omega) | grind [eA,nA]
def zsi{a0}(ha:MB a0=true):Ok (Ez a0) λr=>MB r.1=true∧r.1.Psks=a0.Psks∧iC r.2∧r.2.length≤2:=by
 unfold Ez;refine have:=EF ha;have S:=qF.1 ha;have:=S.dice;have:=rL a0.D;have hj:=@zvL (SC a0.D).2;have ht:=zvv (aF.1 S.tab).cap;have hl:=hj;have V3:=λh=>pJ (d:=⟨a0.Psks,jF (SC a0.D).2,(SC a0.D).1,XD a0.T.Cap,[]⟩) ha rfl (hj h) ((rL a0.D).2.2.1 S.dice) ht rfl (λe h=>(by have h:e∈(XD a0.T.Cap).L:=h;rw[zss (aF.1 S.tab).cap]at h;cases h));have:=rS (SC a0.D).2;have:=zcz a0.T.Cap;
 .m (pA ?_) (.j0 (.m (pA ?_) (.c (λh1=> .kt (.s ⟨?_,?_,?_,?_⟩))
  λh1=>have:=EF (nf h1); .c (λh2=> .s ⟨?_,?_,?_,?_⟩)
  λh2=> .m (pA ?_) (have:=rL a0.D; .m (pA ?_) (have:=zcN (SC a0.D).2;have:=@zcm (SC a0.D).2; .m (pA ?_) (.s ⟨?_,?_,?_,?_⟩))))))
 all_goals first | trivial | assumption | exact AC | ((try simp only[NB]at *)<;>omega) | grind [eA,nA,QE,nC,WC,SD,GA,tD,AC,xE]
def zoy{a0 a1}(ha:MB a0=true):Ok (Ip a0 a1) λr=>MB r.1=true∧r.1.Psks=a0.Psks∧iC r.2.1∧r.2.1.length≤1:=by
 unfold Ip;refine have:=EF ha;have S:=qF.1 ha;have:=S.tab;have hw:=FB a0.T.L;
 .m (pA ?_) (.m (pA ?_) (.c (λh1=> .s ⟨?_,?_,?_,?_⟩)
  λh1=>have:=EF (nf h1); .j0 (.c (λh2=> .kt (.s ⟨?_,?_,?_,?_⟩))
  λh2=> .c (λh3=> .kt (.s ⟨?_,?_,?_,?_⟩))
  λh3=> .bm ?_ ?_ λe5 CX uX=> .c (λh4=> .s ⟨?_,?_,?_,?_⟩)
  λh4=> .bm ?_ ?_ λe6 wY tX=>have H0:=(aF.1 S.tab).el _ wY;have:=lF H0; .b (zfv ?_) λr7 IW=>have:=lF IW.1.1; .b (zaQ ?_ ?_) λr8 BW=>have V3:=pJ (d:=⟨a0.Psks,a0.J,a0.D,r8.1,a0.Cr⟩) ha rfl S.jar S.dice BW.1 S.cr (λe he=>(BW.2.1 e he).elim (S.id e) λh=>(by rw[h,IW.1.2.1];exact S.id _ wY)); .b (zbi ?_ ?_ ?_) λr9 SW=> .s ⟨?_,?_,?_,?_⟩)))
 all_goals first | trivial | assumption | exact AC | ((try simp only[NB]at *)<;>omega) | grind [eA,nA,tD,AC]
def zqI{a0}(ha:wt a0≤1000000):Ok (Gk a0) λr=>wt r≤400∧(∀b∈r,b.length=32):=by
 unfold Gk
 refine .m (pA ?_) (.c (λh1=> .s ⟨?_,?_⟩)
  λh1=>have:=YC (nf h1); .j (λy2:(List (List UInt8))=>wt y2≤200∧(∀b∈y2,b.length=32)) (λy2 xW=> .m (pA ?_) (.g ?_ (.j (λy6:(List (List UInt8))=>wt y6≤400∧(∀b∈y6,b.length=32)) (λy6 yX=> .s ⟨?_,?_⟩)
  λk7 UV=> .c (λh2=> .m (pA ?_) (.g ?_ (UV _ ⟨?_,?_⟩)))
  λh2=>UV _ ⟨?_,?_⟩)))
  λk3 KV=> .c (λh3=> .m (pA ?_) (.g ?_ (KV _ ⟨?_,?_⟩)))
  λh3=>KV _ ⟨?_,?_⟩)
 all_goals first | trivial | ((try simp only[NB]at *)<;>omega) | grind [eA,nA,mC,PG,aD]
end Go.D
namespace Go.D
def zaz{w:Ab}(h:tB w=true):wt w≤22600+wt w.Notes:=by
 have:=jO h;simp only[N,HT]at this⊢;omega
structure TkP(a0:Ab)(i:Nat)(l:List Ap)(w:Ab):Prop where
 ok:tB w=true
 now:w.Now=a0.Now+1
 notes:∃m,w.Notes=a0.Notes++m∧m.length≤6 *i
 wires:∀x∈l,OE x=true∧x.To=AE∧∃j c,j<i∧w.Clients[j]?=some c∧x.From=c.At
 wl:wt l≤201 *i
def TkP.wt{a0:Ab}{i:Nat}{l:List Ap}{w:Ab}(h:TkP a0 i l w):wt w.Notes≤wt a0.Notes+942 *i∧wt w≤22600+wt a0.Notes+942 *i:=by
 obtain⟨m,h1,h2⟩:=h.notes;have hn:=(HC.1 h.ok).notes;have hw:=zaz h.ok;rw[h1]at hn hw⊢;have:=BE (xE.1 hn).2;simp only[N]at hw⊢;omega
def zp9{a0}(ha:wt a0≤800000000):Ok (Dz a0) λr=>(tB a0=true→tB r.1=true)∧(∃m,r.1.Notes=a0.Notes++m)∧wt r.1≤wt a0+120000∧wt r.2≤1000∧
  (tB a0=true→∀x∈r.2,OE x=true∧x.To=AE∧∃c∈r.1.Clients,x.From=c.At)∧(tB a0=true→a0.Now≠1000000→r.1.Now=a0.Now+1)∧(tB a0=false∨a0.Now=1000000→r.1=a0∧r.2=[]):=by
 have hL:=GB
 have hz:∀(_:tB a0=false∨a0.Now=1000000),Ok (some (a0,([]:List Ap))) λr=>(tB a0=true→tB r.1=true)∧(∃m,r.1.Notes=a0.Notes++m)∧wt r.1≤wt a0+120000∧wt r.2≤1000∧
   (tB a0=true→∀x∈r.2,OE x=true∧x.To=AE∧∃c∈r.1.Clients,x.From=c.At)∧(tB a0=true→a0.Now≠1000000→r.1.Now=a0.Now+1)∧(tB a0=false∨a0.Now=1000000→r.1=a0∧r.2=[]):=λh=>
  .s ⟨id,⟨[],(List.append_nil _).symm⟩,Nat.le_add_right _ _,Nat.zero_le _,(λ_ _ h=>nomatch h),λh1 h2=>(h.elim (λh=>absurd h (by rw[h1];decide)) λh=>absurd h h2),λ_=>⟨rfl,rfl⟩⟩
 unfold Dz;refine .m (pA (by omega)) (.j0 (.m (pA (by omega)) (.c (λh1=> .kt (hz (.inl (by simpa using h1)))) λh1=> .c (λh2=>hz (.inr (by simpa using h2))) λh2=>?_)));have V1:tB a0=true:=by simpa using h1
 have E8:a0.Now≠1000000:=by simpa using h2
 have W:=HC.1 V1;have hn:=fC.1 W.now;have hN0:wt a0.Notes≤wt a0:=by simp only[JF];omega
 refine .j (λy:List Ap×Ab=>TkP a0 2 y.1 y.2) (λy hy=>?_) λk hk=> .l (λx:List Ap×Int×Ab=>∃i:Nat,x.2.1=(i:Int)∧i≤2∧TkP a0 i x.1 x.2.2) (λx:List Ap×Int×Ab=>(2 - x.2.1).toNat) (λx hx k' iX=>?_) ⟨0,rfl,by omega,?_⟩ (by simp only;omega)
 ·have hw:=hy.wt;have Y:=HC.1 hy.ok;refine .b (zoI Y.srv) λr hr=>?_;have hnw:=BE hr.2.2.1;refine .g (by omega) ?_;have BX:=zfT hy.ok hr.1 hr.2.1 hr.2.2.1;refine .s ⟨λ_=>BX,?_,?_,by have:=hy.wl;show wt y.1≤_;omega,λ_ x hx=>?_,λ_ _=>hy.now,λh=>?_⟩
  ·obtain⟨m,h3,_⟩:=hy.notes;exact⟨m++r.2,by show y.2.Notes++r.2=_;rw[h3,List.append_assoc]⟩
  ·have h4:=zaz BX;have h5:wt (y.2.Notes++r.2)=wt y.2.Notes+wt r.2:=by simp only[N]
   have h6:wt a0.Notes≤wt a0:=by simp only[JF];omega
   show wt (⟨_,_,_,_,_,_,y.2.Notes++r.2⟩:Ab)≤_
   have h4:wt (⟨y.2.Now,y.2.Clients,r.1,y.2.D,y.2.Seen,y.2.Known,y.2.Notes++r.2⟩:Ab)≤22600+wt (y.2.Notes++r.2):=h4;omega
  ·obtain⟨w1,w2,j,c,_,w3,w4⟩:=hy.wires x hx;exact⟨w1,w2,c,List.mem_of_getElem? w3,w4⟩
  ·rcases h with h | h
   ·rw[h]at V1;cases V1
   ·exact absurd h E8
 ·obtain⟨i,e1,e2,hx⟩:=hx;have hw:=hx.wt;have X:=HC.1 hx.ok;have S1:=X.cl;have P3:=W.cl;refine .c (λh3=>?_) λh3=>hk _ ?_
  ·simp only[B]at h3;have W3:iA .i64 x.2.1 1=((i+1:Nat):Int):=by rw[e1,DA (by omega) (by omega)];omega
   refine .h (by simp only[B];omega) ?_;rw[show x.2.1.toNat=i by omega];refine .bg (by omega) λe9 he hew=>?_;obtain⟨c1,c2,c3⟩:=X.ci i e9 he;refine .b (zo5 c1) λr hr=>?_;have hnw:=BE hr.2.2.1;have s9:=UD hr.1;refine .h (by simp only[B];omega) (.m he (.g (by omega) (.b (zaL (by have:=s9.1;omega) (by omega)) λr12 WW=> .g (by have:=hx.wl;omega) (iX _ ⟨i+1,W3,by omega,?_⟩ (by simp only[W3];omega)))));have t9:=WW.2 (by rw[hr.2.1.2.2];exact zeb c1);refine⟨zf6 hx.ok he hr.1 hr.2.1.1 hr.2.1.2.1 hr.2.2.1,hx.now,?_,λz hz=>?_,?_⟩
   ·obtain⟨m,h4,h5⟩:=hx.notes;exact⟨m++r.2.2,by show x.2.2.Notes++r.2.2=_;rw[h4,List.append_assoc],by rw[List.length_append];omega⟩
   ·rcases List.mem_append.1 hz with hz | hz
    ·obtain⟨w1,w2,j,c,hj,w3,w4⟩:=hx.wires z hz;exact⟨w1,w2,j,c,by omega,by show(x.2.2.Clients.set i r.1)[j]?=_;rw[List.getElem?_set_ne (by omega)];exact w3,w4⟩
    ·obtain⟨w1,w2⟩:=t9.1 z hz;exact⟨w1,t9.2 z hz,i,r.1,by omega,by show(x.2.2.Clients.set i r.1)[i]?=_;rw[List.getElem?_set_self (by omega)],w2⟩
   ·have h4:=WW.1;have h5:wt (x.1++r12)=wt x.1+wt r12:=by simp only[N]
    have h6:=hx.wl;show wt (x.1++r12)≤_
    omega
  ·simp only[B]at h3;have:i=2:=by omega
   subst this;exact hx
 ·exact⟨zxe V1 E8,DA (by omega) (by omega),⟨[],(List.append_nil _).symm,Nat.le_refl _⟩,(λ_ h=>nomatch h),Nat.le_refl _⟩
end Go.D

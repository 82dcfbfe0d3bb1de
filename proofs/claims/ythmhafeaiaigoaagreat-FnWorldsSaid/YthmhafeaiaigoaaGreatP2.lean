/-
 The program's machine comes to an end; what is right stays right.
-/
import Derived.Test.YthmhafeaiaigoaaGreatP1
set_option linter.all false
namespace Go.D
def zig{a0 a1 a2 a3 a4}(ha:vC a0=true)(hb:AB a3=true)(hc:a4.length≤100):Ok (Gg a0 a1 a2 a3 a4) λr=>WE a0 r.1∧HE r.2.1∧(r.2.1.length≤2∧wt r.2.1≤800)∧dC r.2.2.1∧r.2.2.1.length≤5:=by
 unfold Gg;refine have:=jF ha;have hl:=@ZM a0 ha;have:=eO ha;have:=rD hb;
 .m (pA ?_) (.j0 (.m (pA ?_) (.c (λh1=> .kt (.s ⟨?_,?_,?_,?_,?_⟩))
  λh1=>have:=gL (nf h1); .c (λh2=> .kt (.s ⟨?_,?_,?_,?_,?_⟩))
  λh2=>have hd:=h2;have hl:=hl h2; .c (λh3=> .s ⟨?_,?_,?_,?_,?_⟩)
  λh3=>have:=EF (nf h3); .b (zie ?_ ?_) λr5 TV=> .c (λh4=> .s ⟨?_,?_,?_,?_,?_⟩)
  λh4=>have hx:=TV.2.2.2.2 (by simpa using h4);have hS:=PM (a:=a0) (c:=r5.1) (p:=a0.P) (l:=a1) ha TV.1 (TV.2.1.1.trans hl.2.1) (TV.2.1.2.trans hl.2.2.1) hl.2.2.2.1 hx.2.2 hd;have hfs:=zg0 hx.1 hx.2.1;have yY:=OB.1 hx.2.2; .b (zi6 ?_) λr6 xW=> .b (mP ?_) λr7 MW=> .b (zbY ?_ ?_ ?_) λr8 zW=>have:=aT zW; .j (λy9:(List Ae)×(List Av)×Ai=>(dC y9.1∧y9.1.length≤3)∧HE y9.2.1∧(y9.2.1.length≤1∧wt y9.2.1≤400)∧(WE a0 y9.2.2∧y9.2.2.Dead=false)) (λy9 WY=>have hs9:=WY.2.2.2.1.1;have:=jF hs9;have hl9:=ZM hs9 WY.2.2.2.2;have:=BE WY.1.1; .b (zry ?_ ?_) λr23 gZ=> .b (kP ?_ ?_) λr24 yX=>have hS9:=zke WY.2.2.2.1 (PM (a:=y9.2.2) (c:=r24.1) (p:=r23.1) (l:=y9.2.2.Last) hs9 yX.1 (yX.2.1.1.trans hl9.2.1) (yX.2.1.2.1.trans hl9.2.2.1) gZ.1 hl9.2.2.2.2.2 WY.2.2.2.2); .j0 (.c (λh5=> .kt (.s ⟨?_,?_,?_,?_,?_⟩))
  λh5=> .c (λh6=> .s ⟨?_,?_,?_,?_,?_⟩)
  λh6=> .g ?_ (.b (ZL ?_ ?_) λr27 xY=>have:=aT xY;have bX:=wE.2 ⟨WY.1.1,sD.2 ⟨xY,CC⟩⟩; .g ?_ (.s ⟨?_,?_,?_,?_,?_⟩))))
  λk10 SV=> .c (λh7=> .m (pA ?_) (.g ?_ (SV _ ⟨?_,?_,?_,?_⟩)))
  λh7=> .j0 (.c (λh8=> .b (zra ?_ ?_) λr15 SW=>have hS15:=PM (a:=a0) (c:=r5.1) (p:=r15.1) (l:=a1) ha TV.1 (TV.2.1.1.trans hl.2.1) (TV.2.1.2.trans hl.2.2.1) SW hx.2.2 hd; .j0 (.c (λh9=> .m (pA ?_) (.g ?_ (SV _ ⟨?_,?_,?_,?_⟩)))
  λh9=>SV _ ⟨?_,?_,?_,?_⟩))
  λh8=> .j0 (.c (λvW=> .b (zpk ?_ ?_ ?_) λr22 jX=>have hS22:=zke hS jX.1;have:=BE jX.2.2.2.1;have bX:=wE.2 ⟨sD.2 ⟨zW,CC⟩,jX.2.2.2.1⟩; .g ?_ (.g ?_ (SV _ ⟨?_,?_,?_,?_⟩)))
  λvW=>SV _ ⟨?_,?_,?_,?_⟩)))))
 all_goals first | trivial | assumption | exact CC | exact fH | exact hS.1 | ((try simp only[NB]at *)<;>omega) | grind [eA,oA,sO,fH,zgJ,jC,UC,SD,GA,sD,CC,wE]
def zoo{a0 a1 a2 a3}(ha:LB a0=true)(hb:eA a1 0 1000000=true)(hc:GA a2=true)(hd:AB a3=true)(he:fC a3.Kind=true):Ok (Ky a0 a1 a2 a3) λr=>LB r.1=true∧r.1.Psks=a0.Psks∧HE r.2.1∧(r.2.1.length≤2∧wt r.2.1≤1000)∧dC r.2.2∧r.2.2.length≤8:=by
 unfold Ky;refine have hfs:=zg0 hd he;have:=zF ha;have S:=YE.1 ha;have:=S.tab;have:=rD hd;have hw:=tB a0.T.L;
 .m (pA ?_) (have:=bO a0.T a3.Sn; .j (λy2:Bool=>y2=false→0≤OE a0.T a3.Sn) (λy2 wW=> .c (λh1=> .s ⟨?_,?_,?_,?_,?_,?_⟩)
  λh1=> .m (pA ?_) (have:=mJ a0.D; .b (ziU ?_) λr6 _=> .j (λy7:(List UInt8)=>y7.length≤12) (λy7 DY=>have S2:=aF.1 S.tab; .bm ?_ ?_ λe9 QZ HY=>have K0:=S2.el _ QZ;have:=jF K0; .b (zig ?_ ?_ ?_) λr10 sW=>have:=jF sW.1.1;have:=BE sW.2.2.2.1; .b (zaQ ?_ ?_) λr11 AW=>have hid:=λe he=>(AW.2.1 e he).elim (S.id e) λh=>(by rw[h,sW.1.2.1];exact S.id _ QZ);have Z3:=xJ (d:=⟨a0.Psks,a0.J,a0.D,r11.1,a0.Cr⟩) ha rfl S.jar S.dice AW.1 S.cr hid;have hsv2:=xJ (d:=⟨a0.Psks,a0.J,(MC a0.D).1,r11.1,a0.Cr⟩) ha rfl S.jar ((mJ a0.D).2.2.1 S.dice) AW.1 S.cr hid; .j (λy12:(List Ae)×Ac=>dC y12.1∧y12.1.length≤8∧LB y12.2=true∧y12.2.Psks=a0.Psks) (λy12 ZX=> .s ⟨?_,?_,?_,?_,?_,?_⟩)
  λk13 aW=> .c (λh2=> .m (pA ?_) (.m (pA ?_) (.m (pA ?_) (have:=zcM y7;have:=@zb6 y7; .g ?_ (.g ?_ (aW _ ⟨?_,?_,?_,?_⟩))))))
  λh2=>aW _ ⟨?_,?_,?_,?_⟩)
  λk8 uW=> .c (λh3=>uW _ ?_)
  λh3=>uW _ ?_))
  λk3 LV=> .c (λh4=>LV _ ?_)
  λh4=> .bm ?_ ?_ λe4 yZ YY=>LV _ ?_)
 all_goals first | trivial | assumption | exact CC | exact fH | ((try simp only[NB]at *)<;>omega) | grind [eA,oA,jC,UC,SD,GA,sD,CC,wE]
def zqF{a0}(ha:wt a0≤1000000000):Ok (Dv a0) λr=>0≤r:=by
 unfold Dv;refine .b (zeO ?_) λr1 PV=> .s ?_
 all_goals first | trivial | ((try simp only[NB]at *)<;>omega) | grind [eA,oA]
def zri{a0 a1 a2}(ha:iD a0=true):Ok (Dw a0 a1 a2) λr=>iD r.1=true:=by
 unfold Dw;refine have:=NI ha;have:=jT a0 a1;
 .m (pA ?_) (.j0 (.c (λh1=> .kt (.s ?_))
  λh1=>have:=NI (nf h1); .c (λh2=> .kt (.s ?_))
  λh2=> .b (ziE ?_) λr4 WV=> .c (λh3=> .s ?_)
  λh3=> .h ?_ (.bg ?_ λe5 EX xX=>have hg:=zg4 ha EX;have hk:=@zmF a0 _ e5 e5.Got (iA .i64 e5.Sent a2) ha EX;have hi:=@AA e5.Sent a2; .h ?_ (.m EX (.s (have:=BC a0 ((oB a0 a1).toNat) (⟨e5.A,e5.Got,iA .i64 e5.Sent a2⟩:Al);?_))))))
 all_goals first | trivial | ((try simp only[NB]at *)<;>(try simp(disch:=omega) only[AA,IA]at *)<;>omega) | grind [eA,oA]
def zo4{a0 a1 a2 a3}(ha:LB a0=true)(hb:wt a3≤900000000):Ok (Ii a0 a1 a2 a3) λr=>LB r.1=true∧r.1.Psks=a0.Psks∧HE r.2.1∧(r.2.1.length≤3∧wt r.2.1≤9100)∧dC r.2.2∧r.2.2.length≤8:=by
 unfold Ii;refine have:=zF ha;have S:=YE.1 ha;have:=S.cr;
 .m (pA ?_) (.j0 (.m (pA ?_) (.c (λh1=> .kt (.s ⟨?_,?_,?_,?_,?_,?_⟩))
  λh1=>have:=zF (nf h1); .c (λh2=> .kt (.s ⟨?_,?_,?_,?_,?_,?_⟩))
  λh2=> .c (λh3=> .s ⟨?_,?_,?_,?_,?_,?_⟩)
  λh3=>have:=EF (nf h3); .b (zse ?_) λr5 TV=>have Z3:=xJ (d:=⟨a0.Psks,a0.J,a0.D,a0.T,r5⟩) ha rfl S.jar S.dice S.tab TV S.id; .b (zeT ?_) λr6 xW=> .j (λy7:(List Av)×(List Ae)×Ac=>HE y7.1∧(y7.1.length≤3∧wt y7.1≤2000)∧dC y7.2.1∧y7.2.1.length≤8∧LB y7.2.2=true∧y7.2.2.Psks=a0.Psks) (λy7 DY=> .j (λy18:(List Av)×Ac=>HE y18.1∧(y18.1.length≤3∧wt y18.1≤9100)∧LB y18.2=true∧y18.2.Psks=a0.Psks) (λy18 D0=> .s ⟨?_,?_,?_,?_,?_,?_⟩)
  λk19 CW=> .l (λx20:(List Av)×Int×Ac=>(0≤x20.2.1∧x20.2.1≤(y7.1.length:Int))∧HE x20.1∧((x20.1.length:Int)≤x20.2.1∧wt x20.1≤3001 *x20.2.1)∧LB x20.2.2=true∧x20.2.2.Psks=a0.Psks) (λx20:(List Av)×Int×Ac=>((y7.1.length:Int) - x20.2.1).toNat) (λx20 I5 k21 oW=>have hx:=zF I5.2.2.2.1;have X:=YE.1 I5.2.2.2.1;have:=X.cr; .c (λh4=> .j (λy22:(List Av)×Ac=>HE y22.1∧((y22.1.length:Int)≤x20.2.1+1∧wt y22.1≤3001 *x20.2.1+3001)∧LB y22.2=true∧y22.2.Psks=a0.Psks) (λy22 m5=>oW _ ⟨?_,?_,?_,?_,?_⟩ ?_)
  λk23 dY=> .h ?_ (.bg ?_ λe24 he24 he24w=>have ho:=DY.1 _ (List.mem_of_getElem? he24); .b (zjI ?_) λr25 _=> .j (λy26:Ac=>LB y26=true∧y26.Psks=a0.Psks) (λy26 C1=> .g ?_ (dY _ ⟨?_,?_,?_,?_⟩))
  λk27 WW=> .c (λh5=> .b (zqF ?_) λr28 X2=> .b (zri ?_) λr29 BZ=>have hsv2:=xJ (d:=⟨x20.2.2.Psks,x20.2.2.J,x20.2.2.D,x20.2.2.T,r29.1⟩) I5.2.2.2.1 rfl X.jar X.dice X.tab BZ X.id; .c (λh6=>dY _ ⟨?_,?_,?_,?_⟩)
  λh6=>WW _ ⟨?_,?_⟩)
  λh5=>WW _ ⟨?_,?_⟩))
  λh4=>CW _ ⟨?_,?_,?_,?_⟩) ⟨?_,?_,?_,?_,?_⟩ ?_)
  λk8 uW=> .c (λh7=>uW _ ⟨?_,?_,?_,?_,?_,?_⟩)
  λh7=> .j0 (.c (λh8=> .b (zpU ?_ ?_ ?_ ?_) λr11 AW=>uW _ ⟨?_,?_,?_,?_,?_,?_⟩)
  λh8=> .j0 (.c (λh9=> .b (zoQ ?_ ?_ ?_ ?_) λr14 qX=>uW _ ⟨?_,?_,?_,?_,?_,?_⟩)
  λh9=> .j0 (.c (λvW=> .b (zoo ?_ ?_ ?_ ?_ ?_) λr17 aY=>uW _ ⟨?_,?_,?_,?_,?_,?_⟩)
  λvW=>uW _ ⟨?_,?_,?_,?_,?_,?_⟩))))))
 all_goals first | trivial | assumption | exact CC | exact fH | ((try simp only[NB]at *)<;>(try simp(disch:=omega) only[AA,IA]at *)<;>omega) | grind [eA,oA,sO,fH,zgJ]
end Go.D
namespace Go.D
def zpB{a0 a1 a2}(ha:AB a2=true)(hb:1≤a1∧a1≤9):Ok (Ey a0 a1 a2) λr=>wt r.1≤100∧(r.2=true→AB r.1=true)∧(r.2=true→r.1.Kind=3∧r.1.Id=a1∧r.1.Cn=a2.Cn∧r.1.Sn=a2.Sn):=by
 unfold Ey;refine have:=rD ha;have T5:=@zak a2 ha;
 .j0 (.c (λh1=> .kt (.s ⟨?_,?_,?_⟩))
  λh1=> .m (pA ?_) (.c (λh2=> .s ⟨?_,?_,?_⟩)
  λh2=>have:=rD (nf h2); .b (zje ?_ ?_ ?_) λr4 WV=> .c (λh3=> .s ⟨?_,?_,?_⟩)
  λh3=> .m (pA ?_) (.m (pA ?_) (.m (pA ?_) (.s ⟨?_,?_,?_⟩)))))
 all_goals first | trivial | ((try simp only[NB]at *)<;>omega) | grind [eA,oA,AB,fC]
def zif{a0 a1}(ha:kC a0=true):Ok (Bw a0 a1) λr=>kC r=true∧(r.Role=a0.Role∧r.Sn=a0.Sn∧r.Next=a0.Next):=by
 unfold Bw;refine have:=VC ha;
 .m (pA ?_) (.j (λy2:Bool=>True) (λy2 wW=> .j0 (.c (λh1=> .s ⟨?_,?_⟩)
  λh1=> .s ⟨?_,?_⟩))
  λk3 LV=> .m (pA ?_) (.c (λh2=>have:=VC h2; .c (λh3=> .c (λh4=> .c (λh5=>LV _ ?_)
  λh5=>LV _ ?_)
  λh4=>LV _ ?_)
  λh3=>LV _ ?_)
  λh2=>LV _ ?_))
 all_goals first | trivial | ((try simp only[NB]at *)<;>omega) | grind [eA,oA,kC,SG,VF]
def zo6{a0 a1}:Ok (Cu a0 a1) λr=>r=true→a0.On=true∧tD a0=true∧eA a1 0 1000000=true:=by
 unfold Cu
 refine .j0 (.c (λh1=> .c (λh2=> .c (λh3=> .s ?_)
  λh3=> .s ?_)
  λh2=> .s ?_)
  λh1=> .s ?_)
 all_goals first | trivial | ((try simp only[NB]at *)<;>omega) | grind [eA,oA]
def zia{a0 a1}(ha:tD a0=true):Ok (Dz a0 a1) λr=>tD r.1=true∧(r.2=0→r.1=a0)∧(r.2≠2→r.1.On=a0.On)∧(r.2≠0→a0.On=true):=by
 unfold Dz;refine have hw:=@zxe a0 ha;have hm:=zgT (XB .i64 2 a0.Wait) 8;have h1:=@AA a0.Tries 1;have h2:=@zxn a0.Wait;have h3:=@AA a1 (aE (XB .i64 2 a0.Wait) 8);
 .b zo6 λr1 PV=> .c (λh1=> .s ⟨?_,?_,?_,?_⟩)
  λh1=> .c (λh2=> .s ⟨?_,?_,?_,?_⟩)
  λh2=> .s ⟨?_,?_,?_,?_⟩
 all_goals first | trivial | ((try simp only[NB]at *)<;>(try simp(disch:=omega) only[AA,IA]at *)<;>omega) | grind [eA,oA,tD,HF]
def zqv{a0 a1}(ha:pB a0=true)(hb:a0.St=3)(hc:eA a1 0 1000000=true):Ok (Lg a0 a1) λr=>pB r.1=true∧(r.1.Id=a0.Id∧r.1.Psk=a0.Psk∧r.1.At=a0.At)∧dC r.2.2∧r.2.2.length≤6∧(r.2.1.length≤1∧wt r.2.1≤400):=by
 unfold Lg;refine have:=VD ha;have hc:=zoc ha hb;have:=VC hc.1;
 .c (λh1=> .b (zbQ ?_) λr1 PV=> .b (zbn ?_ ?_ ?_) λr2 dW=> .s ⟨?_,?_,?_,?_,?_⟩)
  λh1=> .m (pA ?_) (.b (zif ?_) λr4 WV=> .b (zia ?_) λr5 TV=> .c (λh2=> .s ⟨?_,?_,?_,?_,?_⟩)
  λh2=> .j (λy6:Ad=>pB y6=true∧(y6.Id=a0.Id∧y6.Psk=a0.Psk∧y6.At=a0.At)∧y6.St=3) (λy6 AX=>have:=VD AX.1;have hc6:=zoc AX.1 AX.2.2; .b (ziq ?_) λr9 UW=> .c (λh3=> .s ⟨?_,?_,?_,?_,?_⟩)
  λh3=> .b (ZL ?_ ?_) λr10 sW=> .s ⟨?_,?_,?_,?_,?_⟩)
  λk7 VV=> .c (λh4=> .b zaM λr8 zW=>VV _ ⟨?_,?_,?_⟩)
  λh4=>VV _ ⟨?_,?_,?_⟩)
 all_goals first | trivial | ((try simp only[NB]at *)<;>(try simp(disch:=omega) only[AA,IA]at *)<;>omega) | grind [eA,oA,pB,sD,CC,tH]
def zh6{a0 a1}(ha:pB a0=true):Ok (Il a0 a1) λr=>pB r.1=true∧(r.1.Id=a0.Id∧r.1.Psk=a0.Psk∧r.1.At=a0.At)∧dC r.2.2∧r.2.2.length≤6∧(r.2.1.length≤1∧wt r.2.1≤400):=by
 unfold Il;refine have:=VD ha;
 .m (pA ?_) (.j0 (.m (pA ?_) (.c (λh1=> .kt (.s ⟨?_,?_,?_,?_,?_⟩))
  λh1=>have:=VD (nf h1); .c (λh2=> .kt (.s ⟨?_,?_,?_,?_,?_⟩))
  λh2=> .c (λh3=> .s ⟨?_,?_,?_,?_,?_⟩)
  λh3=> .c (λh4=> .b (zqv ?_ ?_ ?_) λr5 TV=> .s ⟨?_,?_,?_,?_,?_⟩)
  λh4=> .b (zia ?_) λr6 xW=> .c (λh5=> .b (zbQ ?_) λr7 MW=> .m (pA ?_) (.s ⟨?_,?_,?_,?_,?_⟩))
  λh5=> .jt (λy10=> .c (λh6=> .b (ziR ?_) λr12 BW=> .s ⟨?_,?_,?_,?_,?_⟩)
  λh6=> .c (λh7=> .m (pA ?_) (.s ⟨?_,?_,?_,?_,?_⟩))
  λh7=> .s ⟨?_,?_,?_,?_,?_⟩)
  λk11 QV=> .c (λh8=>QV _)
  λh8=>QV _)))
 all_goals first | trivial | ((try simp only[NB]at *)<;>omega) | grind [eA,oA,pB,fJ,sD,CC,jC,UC,SD,GA]
def zoP{a0 a1 a2}(ha:pB a0=true)(hb:AB a2=true)(hc:a2.Kind=2)(hd:a0.St=1)(he:a2.Cn=a0.Cn)(hf:eA a1 0 1000000=true):Ok (Kz a0 a1 a2) λr=>pB r.1=true∧(r.1.Id=a0.Id∧r.1.Psk=a0.Psk∧r.1.At=a0.At)∧dC r.2.2∧r.2.2.length≤6∧(r.2.1.length≤1∧wt r.2.1≤400):=by
 unfold Kz;refine have:=VD ha;have N3:=zzw ha hd;have hf:=zak hb hc;
 .m (pA ?_) (.b (zpB ?_ ?_) λr2 dW=> .c (λh1=> .s ⟨?_,?_,?_,?_,?_⟩)
  λh1=> .b zaM λr3 pW=> .b (zir ?_ ?_ ?_) λr4 WV=> .b (zix ?_ ?_ ?_) λr5 TV=>have:=VC TV.1; .m (pA ?_) (.m (pA ?_) (.b zeI λr8 zW=> .b (zeL ?_ ?_ ?_) λr9 UW=> .b (zfl ?_ ?_) λr10 sW=> .m (pA ?_) (.s ⟨?_,?_,?_,?_,?_⟩))))
 all_goals first | trivial | ((try simp only[NB]at *)<;>omega) | grind [eA,oA,pB,fJ,sD,CC,jC,UC,SD,GA]
def zo0{a0 a1 a2}(ha:pB a0=true)(hb:AB a2=true)(hc:fC a2.Kind=true)(hd:a0.St=2∨a0.St=3)(he:eA a1 0 1000000=true):Ok (La a0 a1 a2) λr=>pB r.1=true∧(r.1.Id=a0.Id∧r.1.Psk=a0.Psk∧r.1.At=a0.At)∧dC r.2.2∧r.2.2.length≤6∧(r.2.1.length≤1∧wt r.2.1≤400):=by
 unfold La;refine have:=VD ha;have hfs:=zg0 hb hc;have v9:=rD hb;have hc2:=zmP ha hd;have:=VC hc2.1;
 .m (pA ?_) (.b (zie ?_ ?_) λr2 dW=>have:=VC dW.1; .c (λh1=> .s ⟨?_,?_,?_,?_,?_⟩)
  λh1=> .b (zi6 ?_) λr3 pW=> .b (mP ?_) λr4 WV=> .b (zbY ?_ ?_ ?_) λr5 TV=>have:=aT TV; .j (λy6:(List Ae)×Ad=>dC y6.1∧y6.1.length≤2∧(y6.2.Id=a0.Id∧y6.2.Psk=a0.Psk∧y6.2.At=a0.At∧y6.2.C=r2.1∧y6.2.R=a0.R∧y6.2.St=3∧y6.2.Cn=a0.Cn∧y6.2.Last=a1)∧(IF y6.2.Fin=true∧HF y6.2.T=true)) (λy6 AX=>have:=BE AX.1; .j (λy12:(List Ae)×Ad=>dC y12.1∧y12.1.length≤3∧pB y12.2=true∧(y12.2.Id=a0.Id∧y12.2.Psk=a0.Psk∧y12.2.At=a0.At∧y12.2.C=r2.1∧y12.2.St=3)) (λy12 ZX=>have:=BE ZX.1; .j (λy17:(List Ae)=>dC y17∧y17.length≤4) (λy17 iZ=>have:=BE iZ.1; .c (λh2=> .s ⟨?_,?_,?_,?_,?_⟩)
  λh2=> .b (kP ?_ ?_) λr21 zZ=>have:=VC zZ.1;have hh:=zZ.2.2.2; .c (λh3=> .s ⟨?_,?_,?_,?_,?_⟩)
  λh3=> .m (pA ?_) (.b (ZL ?_ ?_) λr23 gZ=>have bX:dC [r23,(⟨8,0,0,[],r21.2.1.Sn,r21.2.1.Epoch,0,r2.2.1,[],(⟨0,0⟩:Ah),0⟩:Ae)]:=sD.2 ⟨gZ,sD.2 ⟨(by grind [jC,UC,SD,eA,GA,tH]),CC⟩⟩;have:=BE bX;have hno2:=wE.2 ⟨iZ.1,bX⟩; .g ?_ (.s ⟨?_,?_,?_,?_,?_⟩)))
  λk18 IW=> .c (λh4=> .m (pA ?_) (.g ?_ (IW _ ⟨?_,?_⟩)))
  λh4=>IW _ ⟨?_,?_⟩)
  λk13 aW=> .c (λh5=> .m (pA ?_) (.m (pA ?_) (.g ?_ (aW _ ⟨?_,?_,?_,?_⟩))))
  λh5=>aW _ ⟨?_,?_,?_,?_⟩)
  λk7 VV=> .c (λh6=> .m (pA ?_) (.m (pA ?_) (.m (pA ?_) (.g ?_ (VV _ ⟨?_,?_,?_,?_⟩)))))
  λh6=>VV _ ⟨?_,?_,?_,?_⟩)
 all_goals first | trivial | assumption | ((try simp only[NB]at *)<;>omega) | grind [eA,oA,pB,fJ,sD,CC,wE,jC,UC,SD,GA,IF,HF,tD]
def zh7{a0 a1 a2}(ha:pB a0=true)(hb:AB a2=true)(hc:eA a1 0 1000000=true):Ok (Ij a0 a1 a2) λr=>pB r.1=true∧(r.1.Id=a0.Id∧r.1.Psk=a0.Psk∧r.1.At=a0.At)∧dC r.2.2∧r.2.2.length≤6∧(r.2.1.length≤1∧wt r.2.1≤400):=by
 unfold Ij;refine have:=VD ha;have:=rD hb;
 .j0 (.m (pA ?_) (.c (λh1=> .kt (.m (pA ?_) (.s ⟨?_,?_,?_,?_,?_⟩)))
  λh1=>have:=VD (nf h1); .c (λh2=> .kt (.m (pA ?_) (.s ⟨?_,?_,?_,?_,?_⟩)))
  λh2=> .m (pA ?_) (.c (λh3=> .m (pA ?_) (.s ⟨?_,?_,?_,?_,?_⟩))
  λh3=>have:=rD (nf h3); .j (λy6:Bool=>y6=true→a2.Kind=2∧a0.St=1∧a2.Cn=a0.Cn) (λy6 AX=> .c (λh4=> .b (zoP ?_ ?_ ?_ ?_ ?_ ?_) λr9 UW=> .s ⟨?_,?_,?_,?_,?_⟩)
  λh4=> .j (λy10:Bool=>y10=true→fC a2.Kind=true∧(a0.St=2∨a0.St=3)) (λy10 VW=> .c (λh5=> .b (zo0 ?_ ?_ ?_ ?_ ?_) λr12 BW=> .s ⟨?_,?_,?_,?_,?_⟩)
  λh5=> .m (pA ?_) (.s ⟨?_,?_,?_,?_,?_⟩))
  λk11 QV=> .c (λh6=> .c (λh7=>QV _ ?_)
  λh7=>QV _ ?_)
  λh6=>QV _ ?_)
  λk7 VV=> .c (λh8=> .c (λh9=> .m (pA ?_) (VV _ ?_))
  λh9=>VV _ ?_)
  λh8=>VV _ ?_)))
 all_goals first | trivial | assumption | exact CC | ((try simp only[NB]at *)<;>omega) | grind [eA,oA]
end Go.D
namespace Go.D
def zjM{a0 a1 a2 a3}(ha:wt a0≤4000000000)(hb:wt a3≤900000000):Ok (Bn a0 a1 a2 a3) λr=>(iB a0=true→iB r.1=true)∧(∃m,r.1.Notes=a0.Notes++m)∧wt r.1≤wt a0+100000∧wt r.2≤1000∧(iB a0=true→a1=0→FI r.2 MD)∧(iB a0=true→∀c,a1≠0→a0.Clients[(qA .i64 a1 1).toNat]?=some c→FI r.2 c.At∧YO r.2)∧(iB a0=false→r.1=a0∧r.2=[])∧r.1.Now=a0.Now:=by
 unfold Bn
 refine .m (pA ?_) (.j0 (.m (pA ?_) (.c (λh1=> .kt (.s ⟨?_,?_,?_,?_,?_,?_,?_,?_⟩))
  λh1=>have:=BM (nf h1);have z2:=nf h1;have W:=qC.1 z2;have:=W.srv; .c (λh2=> .kt (.s ⟨?_,?_,?_,?_,?_,?_,?_,?_⟩))
  λh2=> .c (λh3=> .s ⟨?_,?_,?_,?_,?_,?_,?_,?_⟩)
  λh3=>have:=EF (nf h3); .c (λh4=> .b (zo4 ?_ ?_) λr5 TV=>have:=BE TV.2.2.2.2.1;have:=zF TV.1;have w9:=zfS z2 TV.1 TV.2.1 TV.2.2.2.2.1; .g ?_ (.b (zeX ?_ ?_) λr6 xW=> .s ⟨?_,?_,?_,?_,?_,?_,?_,?_⟩))
  λh4=> .b (zeT ?_) λr7 MW=> .c (λh5=> .s ⟨?_,?_,?_,?_,?_,?_,?_,?_⟩)
  λh5=> .bi ?_ ?_ λe8 W3 V2=>have ce:=sI z2 (List.mem_of_getElem? W3);have cf:=VD ce; .b (zh7 ?_ ?_ ?_) λr9 UW=>have:=BE UW.2.2.1;have:=VD UW.1;have hwc:=zfV z2 W3 UW.1 UW.2.1.1 UW.2.1.2.1 UW.2.2.1; .h ?_ (.m W3 (.g ?_ (.b (zaK ?_ ?_) λr11 AW=>have hw11:∀c,a1≠0→a0.Clients[(qA .i64 a1 1).toNat]?=some c→FI r11 c.At∧YO r11:=λc _ hc=>(by have e:=Option.some.inj (W3.symm.trans hc);subst e;have:=AW.2 (by rw[UW.2.1.2.2];exact zd9 ce);rwa [UW.2.1.2.2]at this); .s (have:=BC a0.Clients ((qA .i64 a1 1).toNat) r9.1;⟨?_,?_,?_,?_,?_,?_,?_,?_⟩)))))))
 all_goals first | trivial | exact⟨[],(List.append_nil _).symm⟩ | exact⟨_,rfl⟩ | assumption | exact λ_ _=>zlV | exact λ_ _ _ _=>⟨zlV,zvQ⟩ | exact λ_ _=>xW.2 | exact TV.2.2.1 | exact λk=>absurd z2 (by rw[k];decide) | exact λ_=>w9 | exact λ_=>hwc | exact λ_ _=>xW | exact λ_=>hw0 | exact λ_=>hw11 | ((try simp only[NB,ZO]at *)<;>(try simp(disch:=omega) only[AA,IA]at *)<;>omega) | grind [eA,oA]
end Go.D
namespace Go.D
def zpY{a0 a1}(ha:sC a0=true):Ok (Dh a0 a1) λr=>sC r=true∧r.At=a0.At:=by
 unfold Dh;refine have:=hI ha;
 .j0 (.c (λh1=> .kt (.m (pA ?_) (.s ⟨?_,?_⟩)))
  λh1=>have:=hI (nf h1); .c (λh2=> .m (pA ?_) (.s ⟨?_,?_⟩))
  λh2=> .b (zh5 ?_) λr4 WV=> .s ⟨?_,?_⟩)
 all_goals first | trivial | ((try simp only[NB]at *)<;>omega) | grind [eA,oA]
def zfj{a0}(ha:vC a0=true):Ok (Ez a0) λr=>WE a0 r∧r.Dead=true:=by
 unfold Ez;refine have:=jF ha;
 .m (pA ?_) (.c (λh1=> .m (pA ?_) (.s ⟨?_,?_⟩))
  λh1=>have:=gL (nf h1); .m (pA ?_) (.m (pA ?_) (.s ⟨?_,?_⟩)))
 all_goals first | trivial | ((try simp only[NB]at *)<;>omega) | grind [eA,oA,WE,vC,tC,VF,wB]
def zpT{a0 a1}(ha:vC a0=true):Ok (Im a0 a1) λr=>WE a0 r:=by
 unfold Im;refine have:=jF ha;have hl:=@ZM a0 ha;have:=eO ha;
 .m (pA ?_) (.j0 (.m (pA ?_) (.c (λh1=> .kt (.s ?_))
  λh1=>have:=gL (nf h1); .c (λh2=> .kt (.s ?_))
  λh2=>have hd:=h2;have hl:=hl h2; .c (λh3=> .s ?_)
  λh3=> .c (λh4=> .b (zfj ?_) λr5 TV=> .s ?_)
  λh4=> .b (zif ?_) λr6 xW=> .b (zpY ?_) λr7 MW=>have hR:=λe=>PM (a:=a0) (c:=r6) (p:=r7) (l:=a0.Last) ha xW.1 (xW.2.1.trans hl.2.1) (xW.2.2.1.trans hl.2.2.1) MW.1 hl.2.2.2.2.2 e; .s ?_)))
 all_goals first | trivial | ((try simp only[NB]at *)<;>(try simp(disch:=omega) only[AA,IA]at *)<;>omega) | grind [eA,oA]
def zqn{a0 a1}(ha:QC a0=true):Ok (In a0 a1) λr=>QC r=true∧Tk a0.L r.L:=by
 have hL:=CB;have hf:=tL ha;have T:=aF.1 ha
 have tr:Tk a0.L a0.L:=by
  have:∀l:List Ai,(∀e∈l,vC e=true)→F2 l l:=λl=>by
   induction l with
   | nil=>exact λ_=> .nil
   | cons e l ih=>exact λh=> .cons (eO (h e List.mem_cons_self)) (ih λx hx=>h x (List.mem_cons_of_mem _ hx))
  exact⟨_, .refl _,this _ T.el⟩
 unfold In;refine .j0 (.m (pA (by omega)) (.c (λ_=> .kt (.m (pA (by omega)) (.s ⟨ha,tr⟩))) λ_=> .c (λ_=> .m (pA (by omega)) (.s ⟨ha,tr⟩)) λ_=>?_));refine .j (λy:Ap=>y.Cap=a0.Cap∧Tk a0.L y.L) (λy hy=> .s ⟨?_,hy.2⟩) λk hk=> .l (λx:Int×Ap=>∃i:Nat,x.1=(i:Int)∧i≤a0.L.length∧x.2.Cap=a0.Cap∧Tk (a0.L.take i) x.2.L∧x.2.L.length≤i∧wt x.2.L≤240 *i) (λx:Int×Ap=>((a0.L.length:Int) - x.1).toNat) (λx hx k' gX=>?_) ⟨0,rfl,Nat.zero_le _,rfl,zw4,Nat.le_refl _,Nat.le_refl _⟩ (by simp only;omega)
 ·have:=zxq ha hy.2;rwa [←hy.1]at this
 ·obtain⟨i,h1,h2,h3,h4,h5,h6⟩:=hx;refine .c (λh=>?_) λh=>hk _ ⟨h3,?_⟩
  ·simp only[B]at h;have b4:iA .i64 x.1 1=((i+1:Nat):Int):=by rw[h1,AA (by omega) (by omega)];omega
   refine .bi (by omega) (by omega) λe he hew=> .b (zpT (T.el e (List.mem_of_getElem? he))) λr hr=>?_;rw[show x.1.toNat=i by omega]at he;have ht:=take_succ he;have hs:=jF hr.1;refine .jt (λy=> .j (λy:Ap=>y.Cap=a0.Cap∧Tk (a0.L.take (i+1)) y.L∧y.L.length≤i+1∧wt y.L≤240 *(i+1)) (λy hy=>gX _ ⟨i+1,b4,by omega,hy.1,hy.2.1,hy.2.2.1,hy.2.2.2⟩ (by simp only[b4];omega)) λk2 KV=> .c (λ_=> .g ?_ (KV _ ⟨h3,?_,?_,?_⟩)) λ_=>KV _ ⟨h3,?_,by omega,by omega⟩) λk2 KV=> .c (λ_=>KV _) λ_=>KV _
   ·simp only[N]at hs⊢;omega
   ·rw[ht];exact zwK h4 hr
   ·simp only[N]at hs⊢;omega
   ·simp only[N]at hs⊢;omega
   ·rw[ht];exact zwd e h4
  ·simp only[B]at h;rw[show a0.L.take i=a0.L from List.take_of_length_le (by omega)]at h4;exact h4
def zoR{a0 a1}(ha:LB a0=true):Ok (Io a0 a1) λr=>LB r.1=true∧r.1.Psks=a0.Psks∧dC r.2∧r.2.length≤12:=by
 unfold Io;refine have:=zF ha;have S:=YE.1 ha;have:=S.tab;have T:=aF.1 S.tab;have hw:=tB a0.T.L;have:=T.len;
 .m (pA ?_) (.j0 (.m (pA ?_) (.c (λh1=> .kt (.s ⟨?_,?_,?_,?_⟩))
  λh1=>have:=zF (nf h1); .c (λh2=> .s ⟨?_,?_,?_,?_⟩)
  λh2=> .b (zqn ?_) λr5 TV=>have:=tL TV.1;have Z3:=xJ (d:=⟨a0.Psks,a0.J,a0.D,r5,a0.Cr⟩) ha rfl S.jar S.dice TV.1 S.cr (λe he=>(by obtain⟨d,h1,h2⟩:=zmL TV.2 he;have e1:e.Id=d.Id:=h2.2.1;show e.Id≤(a0.Psks.length:Int);rw[e1];exact S.id d h1)); .j (λy6:(List Ae)=>dC y6∧y6.length≤12) (λy6 AX=> .s ⟨?_,?_,?_,?_⟩)
  λk7 VV=> .l (λx8:(List Ae)×Int=>(0≤x8.2∧x8.2≤(a0.T.L.length:Int))∧dC x8.1∧(x8.1.length:Int)≤x8.2) (λx8:(List Ae)×Int=>((a0.T.L.length:Int) - x8.2).toNat) (λx8 b5 k9 nX=>have:=BE b5.2.1; .c (λh3=> .bm ?_ ?_ λe10 cY oX=>have K0:=T.el _ cY;have:=jF K0; .m (pA ?_) (have:=bO r5 e10.Sn; .j (λy12:Bool=>True) (λy12 ZX=> .j (λy15:(List Ae)=>dC y15∧(y15.length:Int)≤x8.2+1) (λy15 B0=>nX _ ⟨?_,?_,?_⟩ ?_)
  λk16 KW=> .c (λh4=> .b (zbn ?_ ?_ ?_) λr17 aY=>have:=aT aY;have bX:=wE.2 ⟨b5.2.1,sD.2 ⟨aY,CC⟩⟩; .g ?_ (KW _ ⟨?_,?_⟩))
  λh4=>KW _ ⟨?_,?_⟩)
  λk13 aW=> .c (λh5=> .c (λh6=>aW _ ?_)
  λh6=> .h ?_ (.bg ?_ λe14 A0 XY=>aW _ ?_))
  λh5=>aW _ ?_))
  λh3=>VV _ ⟨?_,?_⟩) ⟨?_,?_,?_⟩ ?_)))
 all_goals first | trivial | assumption | exact CC | exact Z3 | ((try simp only[NB]at *)<;>(try simp(disch:=omega) only[AA,IA]at *)<;>omega) | grind [eA,oA]
def zjL{a0 a1}(ha:wt a0≤1000000):Ok (Ip a0 a1) λr=>(ZB a0=true→ZB r=true)∧wt r≤wt a0:=by
 unfold Ip
 refine .m (pA ?_) (.j (λy2:Bool=>y2=true→ZB a0=true∧eA a1 0 10000=true) (λy2 wW=> .j (λy4:Au=>(ZB a0=true→ZB y4=true)∧wt y4≤wt a0) (λy4 rY=> .s ⟨?_,?_⟩)
  λk5 iW=> .c (λh1=>iW _ ⟨?_,?_⟩)
  λh1=>iW _ ⟨?_,?_⟩)
  λk3 LV=> .c (λh2=>have:=zgn h2;LV _ ?_)
  λh2=>LV _ ?_)
 all_goals first | trivial | ((try simp only[NB]at *)<;>omega) | grind [eA,oA,ZB]
def zsE{a0 a1}(ha:wt a0≤500000000)(hb:wt a1≤1000):Ok (Lh a0 a1) λr=>r=a0∨r=a0++[a1]∧PD r=true:=by
 unfold Lh
 refine .g ?_ (.g ?_ (.m (pA ?_) (.c (λh1=> .m (pA ?_) (.s ?_))
  λh1=>have:=zcH (nf h1); .s ?_)))
 all_goals first | trivial | exact .inl rfl | ((try simp only[NB]at *)<;>omega) | grind [eA,oA]
def ziX{a0}:Ok (Dp a0) λr=>r=true→1≤a0.Kind∧a0.Kind≤10∧a0.B.length≤200∧0≤a0.I∧0≤a0.J:=by
 unfold Dp
 refine .j0 (.c (λh1=> .c (λh2=> .c (λh3=> .s ?_)
  λh3=> .s ?_)
  λh2=> .s ?_)
  λh1=> .s ?_)
 all_goals first | trivial | ((try simp only[NB]at *)<;>omega) | grind [eA,oA]
def zeN{a0}:Ok (Kt a0) λr=>0≤r∧r≤3∧((a0=4∨a0=9)→r=1)∧((a0=5∨a0=6∨a0=7∨a0=8)→r=2)∧(a0=10→r=3):=by
 by_cases h:4≤a0∧a0≤10
 ·have:a0=4∨a0=5∨a0=6∨a0=7∨a0=8∨a0=9∨a0=10:=by omega
  rcases this with rfl | rfl | rfl | rfl | rfl | rfl | rfl<;>exact⟨_,rfl,by decide⟩
 ·have e:∀k:Int,4≤k→k≤10→(a0==k)=false:=λk _ _=>beq_false_of_ne (by omega);refine⟨0,?_,by omega⟩;simp[Kt,aA,e]
def zrt{a0 a1}(ha:a0.length≤1000000)(hb:a0.length=a1.length):Ok (Jx a0 a1) λr=>r.length≤a0.length:=by
 unfold Jx
 refine .j (λy1:(List UInt8)=>y1.length≤a0.length) (λy1 qW=> .s ?_)
  λk2 KV=> .l (λx3:(List UInt8)×Int=>0≤x3.2∧x3.2≤(a0.length:Int)∧(x3.1.length:Int)=x3.2) (λx3:(List UInt8)×Int=>((a0.length:Int) - x3.2).toNat) (λx3 BY k4 UV=> .c (λh1=> .bi ?_ ?_ λe5 EX xX=> .bi ?_ ?_ λe6 CY wX=> .g ?_ (UV _ ?_ ?_))
  λh1=>KV _ ?_) ?_ ?_
 all_goals first | trivial | ((try simp only[NB]at *)<;>(try simp(disch:=omega) only[AA,IA]at *)<;>omega) | grind [eA,oA]
def zqB{a0 a1 a2 a3}(ha:wt a0≤300000)(hb:wt a1≤4000)(hc:wt a2≤20000)(hd:wt a3≤1000)(he:0≤a0.I)(hf:((a0.Kind=4∨a0.Kind=9)→1≤a1.length)∧((a0.Kind=5∨a0.Kind=6∨a0.Kind=7∨a0.Kind=8)→2≤a1.length)∧(a0.Kind=10→3≤a1.length)):Ok (Jy a0 a1 a2 a3) λr=>r.1.length≤500000:=by
 unfold Jy
 refine .c (λh1=> .s ?_)
  λh1=> .j0 (.c (λh2=> .c (λh3=> .bi ?_ ?_ λe3 d5 Y2=> .s ?_)
  λh3=> .s ?_)
  λh2=> .j0 (.c (λh4=> .c (λh5=> .bi ?_ ?_ λe6 CY wX=> .s ?_)
  λh5=> .s ?_)
  λh4=> .c (λh6=> .bi ?_ ?_ λe7 RZ sY=> .m (pA ?_) (have:=zxj e7 a0.I a0.J; .s ?_))
  λh6=> .c (λh7=> .bi ?_ ?_ λe9 QZ HY=> .bi ?_ ?_ λe10 cY oX=> .m (pA ?_) (have:=qI [e9,e10]; .s ?_))
  λh7=> .j0 (.c (λh8=> .bi ?_ ?_ λe14 A0 XY=> .bi ?_ ?_ λe15 ZY aZ=> .c (λh9=> .bi ?_ ?_ λe16 xZ SZ=>match(Option.some.inj (A0.symm.trans xZ):e14=e16)with | rfl=>(.bi ?_ ?_ λe17 he17 he17w=>match(Option.some.inj (ZY.symm.trans he17):e15=e17)with | rfl=>(.b (zrt ?_ ?_) λr18 bY=> .s ?_)))
  λh9=> .s ?_)
  λh8=> .c (λvW=> .bi ?_ ?_ λe19 he19 he19w=> .bi ?_ ?_ λe20 he20 he20w=>have hhm:=mL e19 e20; .s ?_)
  λvW=> .c (λLW=> .bi ?_ ?_ λe22 CZ R1=> .bi ?_ ?_ λe23 D7 X3=> .b eV λr24 yX=> .s ?_)
  λLW=> .c (λZW=> .bi ?_ ?_ λe25 he25 b8=> .m (pA ?_) (have:=AM e25 [114,101,107,101,121];have:=@DM e25 [114,101,107,101,121]; .s ?_))
  λZW=> .c (λrX=> .bi ?_ ?_ λe27 d8 Y3=> .bi ?_ ?_ λe28 he28 B7=> .bi ?_ ?_ λe29 KY o8=> .b (zfG ?_ ?_) λr30 C0=> .s ?_)
  λrX=> .s ?_)))
 all_goals first | trivial | ((try simp only[NB]at *)<;>omega) | grind [eA,oA]
def zfk{a0 a1 a2}(ha:wt a0≤300000)(hb:wt a1≤20000)(hc:wt a2≤1000):Ok (Hx a0 a1 a2) λr=>r.1.length≤10000:=by
 unfold Hx;refine have hla:=tB a0;
 .c (λh1=> .s ?_)
  λh1=>have RY:a0.length≤16:=(by have:=h1;simp only[B]at this;omega); .j (λy1:(List (List UInt8))=>wt y1≤3300) (λy1 qW=>have hyw:=tB y1; .c (λh2=> .s ?_)
  λh2=> .h ?_ (.bg ?_ λe15 ZY aZ=> .m (pA ?_) (.s ?_)))
  λk2 KV=> .l (λx3:(List (List UInt8))×Int=>0≤x3.2∧x3.2≤(a0.length:Int)∧wt x3.1≤201 *x3.2) (λx3:(List (List UInt8))×Int=>((a0.length:Int) - x3.2).toNat) (λx3 BY k4 UV=>have hpw:=tB x3.1; .c (λh3=> .bi ?_ ?_ λe5 EX xX=> .b zeN λr6 xW=>have hi:iA .i64 x3.2 1=x3.2+1:=AA (by omega) (by omega);have hdz:x3.1.drop 0=x3.1:=rfl;have hs:qA .i64 (x3.1.length:Int) r6=(x3.1.length:Int) - r6:=IA (by omega) (by omega);have hw1:=WD (x3.1.drop (qA .i64 (x3.1.length:Int) r6).toNat) ((x3.1.length:Int) - qA .i64 (x3.1.length:Int) r6).toNat;have hw2:=rF x3.1 (qA .i64 (x3.1.length:Int) r6).toNat;have hw3:=WD x3.1 (qA .i64 (x3.1.length:Int) r6).toNat; .j (λy7:Bool=>y7=false→1≤e5.Kind∧e5.Kind≤10∧e5.B.length≤200∧0≤e5.I∧r6≤(x3.1.length:Int)) (λy7 DY=> .c (λh4=> .s ?_)
  λh4=> .h ?_ (.b (zqB (have:=WD (List.drop ((qA .i64 (x3.1.length:Int) r6).toNat) x3.1) (((x3.1.length:Int) - (qA .i64 (x3.1.length:Int) r6)).toNat);have:=rF x3.1 ((qA .i64 (x3.1.length:Int) r6).toNat);?_) (have:=WD (List.drop ((qA .i64 (x3.1.length:Int) r6).toNat) x3.1) (((x3.1.length:Int) - (qA .i64 (x3.1.length:Int) r6)).toNat);have:=rF x3.1 ((qA .i64 (x3.1.length:Int) r6).toNat);?_) (have:=WD (List.drop ((qA .i64 (x3.1.length:Int) r6).toNat) x3.1) (((x3.1.length:Int) - (qA .i64 (x3.1.length:Int) r6)).toNat);have:=rF x3.1 ((qA .i64 (x3.1.length:Int) r6).toNat);?_) (have:=WD (List.drop ((qA .i64 (x3.1.length:Int) r6).toNat) x3.1) (((x3.1.length:Int) - (qA .i64 (x3.1.length:Int) r6)).toNat);have:=rF x3.1 ((qA .i64 (x3.1.length:Int) r6).toNat);?_) (have:=WD (List.drop ((qA .i64 (x3.1.length:Int) r6).toNat) x3.1) (((x3.1.length:Int) - (qA .i64 (x3.1.length:Int) r6)).toNat);have:=rF x3.1 ((qA .i64 (x3.1.length:Int) r6).toNat);?_) (have:=WD (List.drop ((qA .i64 (x3.1.length:Int) r6).toNat) x3.1) (((x3.1.length:Int) - (qA .i64 (x3.1.length:Int) r6)).toNat);have:=rF x3.1 ((qA .i64 (x3.1.length:Int) r6).toNat);?_)) λr10 sW=> .j (λy11:Bool=>y11=false→r10.1.length≤200) (λy11 cZ=> .c (λh5=> .s ?_)
  λh5=> .h ?_ (.g (have:=WD (List.drop 0 x3.1) ((qA .i64 (x3.1.length:Int) r6 - 0).toNat);have:=rF x3.1 0;?_) (.g (have:=WD (List.drop 0 x3.1) ((qA .i64 (x3.1.length:Int) r6 - 0).toNat);have:=rF x3.1 0;?_) (UV _ (have:=WD (List.drop 0 x3.1) ((qA .i64 (x3.1.length:Int) r6 - 0).toNat);have:=rF x3.1 0;?_) (have:=WD (List.drop 0 x3.1) ((qA .i64 (x3.1.length:Int) r6 - 0).toNat);have:=rF x3.1 0;?_)))))
  λk12 jW=> .c (λh6=>jW _ ?_)
  λh6=> .c (λh7=>jW _ ?_)
  λh7=>jW _ ?_))
  λk8 uW=> .b ziX λr9 UW=> .c (λh8=>uW _ ?_)
  λh8=>uW _ ?_)
  λh3=>KV _ ?_) ?_ ?_
 all_goals first | trivial | ((try simp only[NB]at *)<;>(try simp(disch:=omega) only[AA,IA]at *)<;>omega) | grind [eA,oA,jS,jD,LF,EA]
def zij{a0 a1}(ha:vC a0=true)(hb:wt a1≤300000):Ok (Dy a0 a1) λr=>WE a0 r.1∧HE r.2.1∧(r.2.1.length≤1∧wt r.2.1≤400)∧dC r.2.2.1∧r.2.2.1.length≤2:=by
 unfold Dy;refine have:=jF ha;have hl:=@ZM a0 ha;have:=eO ha;
 .m (pA ?_) (.j0 (.m (pA ?_) (.c (λh1=> .kt (.s ⟨?_,?_,?_,?_,?_⟩))
  λh1=>have:=gL (nf h1); .c (λh2=> .s ⟨?_,?_,?_,?_,?_⟩)
  λh2=> .c (λh3=> .s ⟨?_,?_,?_,?_,?_⟩)
  λh3=>have hd:=h3;have hl:=hl h3; .b (kP ?_ ?_) λr5 TV=>have hS:=PM (a:=a0) (c:=r5.1) (p:=a0.P) (l:=a0.Last) ha TV.1 (TV.2.1.1.trans hl.2.1) (TV.2.1.2.1.trans hl.2.2.1) hl.2.2.2.1 hl.2.2.2.2.2 hd; .c (λh4=> .s ⟨?_,?_,?_,?_,?_⟩)
  λh4=> .m (pA ?_) (.m (pA ?_) (.b (ZL ?_ ?_) λr8 zW=> .s ⟨?_,?_,?_,?_,?_⟩)))))
 all_goals first | trivial | assumption | exact CC | exact fH | ((try simp only[NB]at *)<;>omega) | grind [eA,oA,tH,sO,fH,jC,UC,SD,GA,sD,CC,wE]
def zh8{a0 a1 a2 a3}(ha:LB a0=true)(hb:wt a3≤300000):Ok (Lc a0 a1 a2 a3) λr=>LB r.1=true∧r.1.Psks=a0.Psks∧HE r.2.1∧(r.2.1.length≤1∧wt r.2.1≤400)∧dC r.2.2.1∧r.2.2.1.length≤2:=by
 unfold Lc;refine have:=zF ha;have S:=YE.1 ha;have:=S.tab;have hw:=tB a0.T.L;
 .m (pA ?_) (.j0 (.m (pA ?_) (.c (λh1=> .kt (.s ⟨?_,?_,?_,?_,?_,?_⟩))
  λh1=>have:=zF (nf h1); .c (λh2=> .s ⟨?_,?_,?_,?_,?_,?_⟩)
  λh2=> .j0 (.c (λh3=> .kt (.s ⟨?_,?_,?_,?_,?_,?_⟩))
  λh3=> .c (λh4=> .s ⟨?_,?_,?_,?_,?_,?_⟩)
  λh4=> .bm ?_ ?_ λe7 RZ sY=>have K0:=(aF.1 S.tab).el _ RZ;have:=jF K0; .b (zij ?_ ?_) λr8 zW=>have:=jF zW.1.1; .c (λh5=> .s ⟨?_,?_,?_,?_,?_,?_⟩)
  λh5=> .b (zaQ ?_ ?_) λr9 UW=>have Z3:=xJ (d:=⟨a0.Psks,a0.J,a0.D,r9.1,a0.Cr⟩) ha rfl S.jar S.dice UW.1 S.cr (λe he=>(UW.2.1 e he).elim (S.id e) λh=>(by rw[h,zW.1.2.1];exact S.id _ RZ)); .s ⟨?_,?_,?_,?_,?_,?_⟩))))
 all_goals first | trivial | assumption | exact CC | exact fH | ((try simp only[NB]at *)<;>omega) | grind [eA,oA]
def zr3{a0}(ha:LB a0=true):Ok (Gh a0) λr=>LB r.1=true∧r.1.Psks=a0.Psks∧dC r.2∧r.2.length≤2:=by
 unfold Gh;refine have:=zF ha;have S:=YE.1 ha;have:=S.dice;have:=mJ a0.D;have hj:=@zlH (MC a0.D).2;have ht:=zlU (aF.1 S.tab).cap;have hl:=hj;have Z3:=λh=>xJ (d:=⟨a0.Psks,eG (MC a0.D).2,(MC a0.D).1,lE a0.T.Cap,[]⟩) ha rfl (hj h) ((mJ a0.D).2.2.1 S.dice) ht rfl (λe h=>(by have h:e∈(lE a0.T.Cap).L:=h;rw[zjs (aF.1 S.tab).cap]at h;cases h));have:=CS (MC a0.D).2;have:=zcs a0.T.Cap;
 .m (pA ?_) (.j0 (.m (pA ?_) (.c (λh1=> .kt (.s ⟨?_,?_,?_,?_⟩))
  λh1=>have:=zF (nf h1); .c (λh2=> .s ⟨?_,?_,?_,?_⟩)
  λh2=> .m (pA ?_) (have:=mJ a0.D; .m (pA ?_) (have:=zcM (MC a0.D).2;have:=@zb6 (MC a0.D).2; .m (pA ?_) (.s ⟨?_,?_,?_,?_⟩))))))
 all_goals first | trivial | assumption | exact CC | ((try simp only[NB]at *)<;>omega) | grind [eA,oA,PE,jC,UC,SD,GA,sD,CC,wE]
def zoG{a0 a1}(ha:LB a0=true):Ok (Ld a0 a1) λr=>LB r.1=true∧r.1.Psks=a0.Psks∧dC r.2.1∧r.2.1.length≤1:=by
 unfold Ld;refine have:=zF ha;have S:=YE.1 ha;have:=S.tab;have hw:=tB a0.T.L;
 .m (pA ?_) (.m (pA ?_) (.c (λh1=> .s ⟨?_,?_,?_,?_⟩)
  λh1=>have:=zF (nf h1); .j0 (.c (λh2=> .kt (.s ⟨?_,?_,?_,?_⟩))
  λh2=> .c (λh3=> .kt (.s ⟨?_,?_,?_,?_⟩))
  λh3=> .bm ?_ ?_ λe5 EX xX=> .c (λh4=> .s ⟨?_,?_,?_,?_⟩)
  λh4=> .bm ?_ ?_ λe6 CY wX=>have K0:=(aF.1 S.tab).el _ CY;have:=jF K0; .b (zfj ?_) λr7 MW=>have:=jF MW.1.1; .b (zaQ ?_ ?_) λr8 zW=>have Z3:=xJ (d:=⟨a0.Psks,a0.J,a0.D,r8.1,a0.Cr⟩) ha rfl S.jar S.dice zW.1 S.cr (λe he=>(zW.2.1 e he).elim (S.id e) λh=>(by rw[h,MW.1.2.1];exact S.id _ CY)); .b (zbn ?_ ?_ ?_) λr9 UW=> .s ⟨?_,?_,?_,?_⟩)))
 all_goals first | trivial | assumption | exact CC | ((try simp only[NB]at *)<;>omega) | grind [eA,oA,sD,CC]
def zqU{a0}(ha:wt a0≤1000000):Ok (Ik a0) λr=>wt r≤400∧(∀b∈r,b.length=32):=by
 unfold Ik
 refine .m (pA ?_) (.c (λh1=> .s ⟨?_,?_⟩)
  λh1=>have:=VC (nf h1); .j (λy2:(List (List UInt8))=>wt y2≤200∧(∀b∈y2,b.length=32)) (λy2 wW=> .m (pA ?_) (.g ?_ (.j (λy6:(List (List UInt8))=>wt y6≤400∧(∀b∈y6,b.length=32)) (λy6 AX=> .s ⟨?_,?_⟩)
  λk7 VV=> .c (λh2=> .m (pA ?_) (.g ?_ (VV _ ⟨?_,?_⟩)))
  λh2=>VV _ ⟨?_,?_⟩)))
  λk3 LV=> .c (λh3=> .m (pA ?_) (.g ?_ (LV _ ⟨?_,?_⟩)))
  λh3=>LV _ ⟨?_,?_⟩)
 all_goals first | trivial | ((try simp only[NB]at *)<;>omega) | grind [eA,oA,kC,SG,YC]
end Go.D
namespace Go.D
def zaw{w:Aa}(h:iB w=true):wt w≤22600+wt w.Notes:=by
 have:=BM h;simp only[N,ZO]at this⊢;omega
structure TkP(a0:Aa)(i:Nat)(l:List Am)(w:Aa):Prop where
 ok:iB w=true
 now:w.Now=a0.Now+1
 notes:∃m,w.Notes=a0.Notes++m∧m.length≤6 *i
 wires:∀x∈l,CE x=true∧x.To=MD∧∃j c,j<i∧w.Clients[j]?=some c∧x.From=c.At
 wl:wt l≤201 *i
def TkP.wt{a0:Aa}{i:Nat}{l:List Am}{w:Aa}(h:TkP a0 i l w):wt w.Notes≤wt a0.Notes+942 *i∧wt w≤22600+wt a0.Notes+942 *i:=by
 obtain⟨m,h1,h2⟩:=h.notes;have hn:=(qC.1 h.ok).notes;have hw:=zaw h.ok;rw[h1]at hn hw⊢;have:=BE (wE.1 hn).2;simp only[N]at hw⊢;omega
def ziz{a0}(ha:wt a0≤800000000):Ok (Cc a0) λr=>(iB a0=true→iB r.1=true)∧(∃m,r.1.Notes=a0.Notes++m)∧wt r.1≤wt a0+120000∧wt r.2≤1000∧
  (iB a0=true→∀x∈r.2,CE x=true∧x.To=MD∧∃c∈r.1.Clients,x.From=c.At)∧(iB a0=true→a0.Now≠1000000→r.1.Now=a0.Now+1)∧(iB a0=false∨a0.Now=1000000→r.1=a0∧r.2=[]):=by
 have hL:=CB
 have hz:∀(_:iB a0=false∨a0.Now=1000000),Ok (some (a0,([]:List Am))) λr=>(iB a0=true→iB r.1=true)∧(∃m,r.1.Notes=a0.Notes++m)∧wt r.1≤wt a0+120000∧wt r.2≤1000∧
   (iB a0=true→∀x∈r.2,CE x=true∧x.To=MD∧∃c∈r.1.Clients,x.From=c.At)∧(iB a0=true→a0.Now≠1000000→r.1.Now=a0.Now+1)∧(iB a0=false∨a0.Now=1000000→r.1=a0∧r.2=[]):=λh=>
  .s ⟨id,⟨[],(List.append_nil _).symm⟩,Nat.le_add_right _ _,Nat.zero_le _,(λ_ _ h=>nomatch h),λh1 h2=>(h.elim (λh=>absurd h (by rw[h1];decide)) λh=>absurd h h2),λ_=>⟨rfl,rfl⟩⟩
 unfold Cc;refine .m (pA (by omega)) (.j0 (.m (pA (by omega)) (.c (λh1=> .kt (hz (.inl (by simpa using h1)))) λh1=> .c (λh2=>hz (.inr (by simpa using h2))) λh2=>?_)));have z2:iB a0=true:=by simpa using h1
 have F8:a0.Now≠1000000:=by simpa using h2
 have W:=qC.1 z2;have hn:=OB.1 W.now;have hN0:wt a0.Notes≤wt a0:=by simp only[aG];omega
 refine .j (λy:List Am×Aa=>TkP a0 2 y.1 y.2) (λy hy=>?_) λk hk=> .l (λx:List Am×Int×Aa=>∃i:Nat,x.2.1=(i:Int)∧i≤2∧TkP a0 i x.1 x.2.2) (λx:List Am×Int×Aa=>(2 - x.2.1).toNat) (λx hx k' gX=>?_) ⟨0,rfl,by omega,?_⟩ (by simp only;omega)
 ·have hw:=hy.wt;have Y:=qC.1 hy.ok;refine .b (zoR Y.srv) λr hr=>?_;have hnw:=BE hr.2.2.1;refine .g (by omega) ?_;have DX:=zfS hy.ok hr.1 hr.2.1 hr.2.2.1;refine .s ⟨λ_=>DX,?_,?_,by have:=hy.wl;show wt y.1≤_;omega,λ_ x hx=>?_,λ_ _=>hy.now,λh=>?_⟩
  ·obtain⟨m,h3,_⟩:=hy.notes;exact⟨m++r.2,by show y.2.Notes++r.2=_;rw[h3,List.append_assoc]⟩
  ·have h4:=zaw DX;have h5:wt (y.2.Notes++r.2)=wt y.2.Notes+wt r.2:=by simp only[N]
   have h6:wt a0.Notes≤wt a0:=by simp only[aG];omega
   show wt (⟨_,_,_,_,_,_,y.2.Notes++r.2⟩:Aa)≤_
   have h4:wt (⟨y.2.Now,y.2.Clients,r.1,y.2.D,y.2.Seen,y.2.Known,y.2.Notes++r.2⟩:Aa)≤22600+wt (y.2.Notes++r.2):=h4;omega
  ·obtain⟨w1,w2,j,c,_,w3,w4⟩:=hy.wires x hx;exact⟨w1,w2,c,List.mem_of_getElem? w3,w4⟩
  ·rcases h with h | h
   ·rw[h]at z2;cases z2
   ·exact absurd h F8
 ·obtain⟨i,e1,e2,hx⟩:=hx;have hw:=hx.wt;have X:=qC.1 hx.ok;have U0:=X.cl;have U3:=W.cl;refine .c (λh3=>?_) λh3=>hk _ ?_
  ·simp only[B]at h3;have b4:iA .i64 x.2.1 1=((i+1:Nat):Int):=by rw[e1,AA (by omega) (by omega)];omega
   refine .h (by simp only[B];omega) ?_;rw[show x.2.1.toNat=i by omega];refine .bg (by omega) λe9 he hew=>?_;obtain⟨c1,c2,c3⟩:=X.ci i e9 he;refine .b (zh6 c1) λr hr=>?_;have hnw:=BE hr.2.2.1;have v9:=VD hr.1;refine .h (by simp only[B];omega) (.m he (.g (by omega) (.b (zaK (by have:=v9.1;omega) (by omega)) λr12 ZW=> .g (by have:=hx.wl;omega) (gX _ ⟨i+1,b4,by omega,?_⟩ (by simp only[b4];omega)))));have w9:=ZW.2 (by rw[hr.2.1.2.2];exact zd9 c1);refine⟨zfV hx.ok he hr.1 hr.2.1.1 hr.2.1.2.1 hr.2.2.1,hx.now,?_,λz hz=>?_,?_⟩
   ·obtain⟨m,h4,h5⟩:=hx.notes;exact⟨m++r.2.2,by show x.2.2.Notes++r.2.2=_;rw[h4,List.append_assoc],by rw[List.length_append];omega⟩
   ·rcases List.mem_append.1 hz with hz | hz
    ·obtain⟨w1,w2,j,c,hj,w3,w4⟩:=hx.wires z hz;exact⟨w1,w2,j,c,by omega,by show(x.2.2.Clients.set i r.1)[j]?=_;rw[List.getElem?_set_ne (by omega)];exact w3,w4⟩
    ·obtain⟨w1,w2⟩:=w9.1 z hz;exact⟨w1,w9.2 z hz,i,r.1,by omega,by show(x.2.2.Clients.set i r.1)[i]?=_;rw[List.getElem?_set_self (by omega)],w2⟩
   ·have h4:=ZW.1;have h5:wt (x.1++r12)=wt x.1+wt r12:=by simp only[N]
    have h6:=hx.wl;show wt (x.1++r12)≤_
    omega
  ·simp only[B]at h3;have:i=2:=by omega
   subst this;exact hx
 ·exact⟨zwT z2 F8,AA (by omega) (by omega),⟨[],(List.append_nil _).symm,Nat.le_refl _⟩,(λ_ h=>nomatch h),Nat.le_refl _⟩
end Go.D

/-
 The program's machine comes to an end; what is right stays right.
-/
import Derived.Test.YtfealdecpglcnaaGreatP1
set_option linter.all false
namespace Go.D
def zhj{a0 a1 a2 a3 a4}(ha:uC a0=true)(hb:wB a3=true)(hc:a4.length≤100):Ok (Gg a0 a1 a2 a3 a4) λr=>RE a0 r.1∧TE r.2.1∧(r.2.1.length≤2∧wt r.2.1≤800)∧FC r.2.2.1∧r.2.2.1.length≤5:=by
 unfold Gg;refine have:=mG ha;have hl:=@CM a0 ha;have:=IN ha;have:=pD hb;
 .m (uA ?_) (.j0 (.m (uA ?_) (.c (λh1=> .kt (.s ⟨?_,?_,?_,?_,?_⟩))
  λh1=>have:=NK (nf h1); .c (λh2=> .kt (.s ⟨?_,?_,?_,?_,?_⟩))
  λh2=>have hd:=h2;have hl:=hl h2; .c (λh3=> .s ⟨?_,?_,?_,?_,?_⟩)
  λh3=>have:=QF (nf h3); .b (zhg ?_ ?_) λr5 QV=> .c (λh4=> .s ⟨?_,?_,?_,?_,?_⟩)
  λh4=>have hx:=QV.2.2.2.2 (by simpa using h4);have hS:=rM (a:=a0) (c:=r5.1) (p:=a0.P) (l:=a1) ha QV.1 (QV.2.1.1.trans hl.2.1) (QV.2.1.2.trans hl.2.2.1) hl.2.2.2.1 hx.2.2 hd;have hfs:=zf4 hx.1 hx.2.1;have kY:=pC.1 hx.2.2; .b (zh9 ?_) λr6 uW=> .b (QO ?_) λr7 NW=> .b (zbm ?_ ?_ ?_) λr8 OW=>have:=CS OW; .j (λy9:(List Ae)×(List Au)×Ah=>(FC y9.1∧y9.1.length≤3)∧TE y9.2.1∧(y9.2.1.length≤1∧wt y9.2.1≤400)∧(RE a0 y9.2.2∧y9.2.2.Dead=false)) (λy9 GY=>have hs9:=GY.2.2.2.1.1;have:=mG hs9;have hl9:=CM hs9 GY.2.2.2.2;have:=UF GY.1.1; .b (zqz ?_ ?_) λr23 OY=> .b (mT ?_ ?_) λr24 eY=>have hS9:=zjj GY.2.2.2.1 (rM (a:=y9.2.2) (c:=r24.1) (p:=r23.1) (l:=y9.2.2.Last) hs9 eY.1 (eY.2.1.1.trans hl9.2.1) (eY.2.1.2.1.trans hl9.2.2.1) OY.1 hl9.2.2.2.2.2 GY.2.2.2.2); .j0 (.c (λh5=> .kt (.s ⟨?_,?_,?_,?_,?_⟩))
  λh5=> .c (λh6=> .s ⟨?_,?_,?_,?_,?_⟩)
  λh6=> .g ?_ (.b (LP ?_ ?_) λr27 PY=>have:=CS PY;have SW:=nF.2 ⟨GY.1.1,xE.2 ⟨PY,RD⟩⟩; .g ?_ (.s ⟨?_,?_,?_,?_,?_⟩))))
  λk10 PV=> .c (λh7=> .m (uA ?_) (.g ?_ (PV _ ⟨?_,?_,?_,?_⟩)))
  λh7=> .j0 (.c (λh8=> .b (zqc ?_ ?_) λr15 GW=>have hS15:=rM (a:=a0) (c:=r5.1) (p:=r15.1) (l:=a1) ha QV.1 (QV.2.1.1.trans hl.2.1) (QV.2.1.2.trans hl.2.2.1) GW hx.2.2 hd; .j0 (.c (λh9=> .m (uA ?_) (.g ?_ (PV _ ⟨?_,?_,?_,?_⟩)))
  λh9=>PV _ ⟨?_,?_,?_,?_⟩))
  λh8=> .j0 (.c (λxW=> .b (zoo ?_ ?_ ?_) λr22 fX=>have hS22:=zjj hS fX.1;have:=UF fX.2.2.2.1;have SW:=nF.2 ⟨xE.2 ⟨OW,RD⟩,fX.2.2.2.1⟩; .g ?_ (.g ?_ (PV _ ⟨?_,?_,?_,?_⟩)))
  λxW=>PV _ ⟨?_,?_,?_,?_⟩)))))
 all_goals first | trivial | assumption | exact RD | exact aI | exact hS.1 | ((try simp only[NB]at *)<;>omega) | grind [eA,oA,YN,aI,zfO,tC,uD,CE,MA,xE,RD,nF]
def znv{a0 a1 a2 a3}(ha:fC a0=true)(hb:eA a1 0 1000000=true)(hc:MA a2=true)(hd:wB a3=true)(he:gC a3.Kind=true):Ok (Kq a0 a1 a2 a3) λr=>fC r.1=true∧r.1.Psks=a0.Psks∧TE r.2.1∧(r.2.1.length≤2∧wt r.2.1≤1000)∧FC r.2.2∧r.2.2.length≤8:=by
 unfold Kq;refine have hfs:=zf4 hd he;have:=QH ha;have S:=MH.1 ha;have:=S.tab;have:=pD hd;have hw:=JB a0.T.L;
 .m (uA ?_) (have:=FN a0.T a3.Sn; .j (λy2:Bool=>y2=false→0≤JE a0.T a3.Sn) (λy2 zW=> .c (λh1=> .s ⟨?_,?_,?_,?_,?_,?_⟩)
  λh1=> .m (uA ?_) (have:=zc7 a0.D; .b (zhY ?_) λr6 _=> .j (λy7:(List UInt8)=>y7.length≤12) (λy7 WZ=>have S2:=UG.1 S.tab; .bm ?_ ?_ λe9 HZ CY=>have F3:=S2.el _ HZ;have:=mG F3; .b (zhj ?_ ?_ ?_) λr10 rW=>have:=mG rW.1.1;have:=UF rW.2.2.2.1; .b (zhD ?_ ?_) λr11 AW=>have hid:=λe he=>(AW.2.1 e he).elim (S.id e) λh=>(by rw[h,rW.1.2.1];exact S.id _ HZ);have n8:=qO (d:=⟨a0.Psks,a0.J,a0.D,r11.1,a0.Cr⟩) ha rfl S.jar S.dice AW.1 S.cr hid;have hsv2:=qO (d:=⟨a0.Psks,a0.J,(iE a0.D).1,r11.1,a0.Cr⟩) ha rfl S.jar ((zc7 a0.D).2.2.1 S.dice) AW.1 S.cr hid; .j (λy12:(List Ae)×Ac=>FC y12.1∧y12.1.length≤8∧fC y12.2=true∧y12.2.Psks=a0.Psks) (λy12 DY=> .s ⟨?_,?_,?_,?_,?_,?_⟩)
  λk13 lW=> .c (λh2=> .m (uA ?_) (.m (uA ?_) (.m (uA ?_) (have:=zjX y7;have:=@zi2 y7; .g ?_ (.g ?_ (lW _ ⟨?_,?_,?_,?_⟩))))))
  λh2=>lW _ ⟨?_,?_,?_,?_⟩)
  λk8 EW=> .c (λh3=>EW _ ?_)
  λh3=>EW _ ?_))
  λk3 KV=> .c (λh4=>KV _ ?_)
  λh4=> .bm ?_ ?_ λe4 yZ KZ=>KV _ ?_)
 all_goals first | trivial | assumption | exact RD | exact aI | ((try simp only[NB]at *)<;>omega) | grind [eA,oA,tC,uD,CE,MA,xE,RD,nF]
def zpJ{a0}(ha:wt a0≤1000000000):Ok (Dq a0) λr=>0≤r:=by
 unfold Dq;refine .b (zd4 ?_) λr1 OV=> .s ?_
 all_goals first | trivial | ((try simp only[NB]at *)<;>omega) | grind [eA,oA]
def zqk{a0 a1 a2}(ha:gD a0=true):Ok (Dr a0 a1 a2) λr=>gD r.1=true:=by
 unfold Dr;refine have:=wI ha;have:=JS a0 a1;
 .m (uA ?_) (.j0 (.c (λh1=> .kt (.s ?_))
  λh1=>have:=wI (nf h1); .c (λh2=> .kt (.s ?_))
  λh2=> .b (zhK ?_) λr4 VV=> .c (λh3=> .s ?_)
  λh3=> .h ?_ (.bg ?_ λe5 DX VX=>have hg:=zf9 ha DX;have hk:=@zlM a0 _ e5 e5.Got (iA .i64 e5.Sent a2) ha DX;have hi:=@DA e5.Sent a2; .h ?_ (.m DX (.s (have:=zC a0 ((qB a0 a1).toNat) (⟨e5.A,e5.Got,iA .i64 e5.Sent a2⟩:Al);?_))))))
 all_goals first | trivial | ((try simp only[NB]at *)<;>(try simp(disch:=omega) only[DA,PA]at *)<;>omega) | grind [eA,oA]
def zn8{a0 a1 a2 a3}(ha:fC a0=true)(hb:wt a3≤900000000):Ok (Ib a0 a1 a2 a3) λr=>fC r.1=true∧r.1.Psks=a0.Psks∧TE r.2.1∧(r.2.1.length≤3∧wt r.2.1≤9100)∧FC r.2.2∧r.2.2.length≤8:=by
 unfold Ib;refine have:=QH ha;have S:=MH.1 ha;have:=S.cr;
 .m (uA ?_) (.j0 (.m (uA ?_) (.c (λh1=> .kt (.s ⟨?_,?_,?_,?_,?_,?_⟩))
  λh1=>have:=QH (nf h1); .c (λh2=> .kt (.s ⟨?_,?_,?_,?_,?_,?_⟩))
  λh2=> .c (λh3=> .s ⟨?_,?_,?_,?_,?_,?_⟩)
  λh3=>have:=QF (nf h3); .b (zrd ?_) λr5 QV=>have n8:=qO (d:=⟨a0.Psks,a0.J,a0.D,a0.T,r5⟩) ha rfl S.jar S.dice S.tab QV S.id; .b (zhu ?_) λr6 uW=> .j (λy7:(List Au)×(List Ae)×Ac=>TE y7.1∧(y7.1.length≤3∧wt y7.1≤2000)∧FC y7.2.1∧y7.2.1.length≤8∧fC y7.2.2=true∧y7.2.2.Psks=a0.Psks) (λy7 WZ=> .j (λy18:(List Au)×Ac=>TE y18.1∧(y18.1.length≤3∧wt y18.1≤9100)∧fC y18.2=true∧y18.2.Psks=a0.Psks) (λy18 NZ=> .s ⟨?_,?_,?_,?_,?_,?_⟩)
  λk19 DW=> .l (λx20:(List Au)×Int×Ac=>(0≤x20.2.1∧x20.2.1≤(y7.1.length:Int))∧TE x20.1∧((x20.1.length:Int)≤x20.2.1∧wt x20.1≤3001 *x20.2.1)∧fC x20.2.2=true∧x20.2.2.Psks=a0.Psks) (λx20:(List Au)×Int×Ac=>((y7.1.length:Int) - x20.2.1).toNat) (λx20 o5 k21 iW=>have hx:=QH o5.2.2.2.1;have X:=MH.1 o5.2.2.2.1;have:=X.cr; .c (λh4=> .j (λy22:(List Au)×Ac=>TE y22.1∧((y22.1.length:Int)≤x20.2.1+1∧wt y22.1≤3001 *x20.2.1+3001)∧fC y22.2=true∧y22.2.Psks=a0.Psks) (λy22 S4=>iW _ ⟨?_,?_,?_,?_,?_⟩ ?_)
  λk23 WX=> .h ?_ (.bg ?_ λe24 he24 he24w=>have ho:=WZ.1 _ (List.mem_of_getElem? he24); .b (ziN ?_) λr25 _=> .j (λy26:Ac=>fC y26=true∧y26.Psks=a0.Psks) (λy26 L0=> .g ?_ (WX _ ⟨?_,?_,?_,?_⟩))
  λk27 YW=> .c (λh5=> .b (zpJ ?_) λr28 J2=> .b (zqk ?_) λr29 fZ=>have hsv2:=qO (d:=⟨x20.2.2.Psks,x20.2.2.J,x20.2.2.D,x20.2.2.T,r29.1⟩) o5.2.2.2.1 rfl X.jar X.dice X.tab fZ X.id; .c (λh6=>WX _ ⟨?_,?_,?_,?_⟩)
  λh6=>YW _ ⟨?_,?_⟩)
  λh5=>YW _ ⟨?_,?_⟩))
  λh4=>DW _ ⟨?_,?_,?_,?_⟩) ⟨?_,?_,?_,?_,?_⟩ ?_)
  λk8 EW=> .c (λh7=>EW _ ⟨?_,?_,?_,?_,?_,?_⟩)
  λh7=> .j0 (.c (λh8=> .b (zoY ?_ ?_ ?_ ?_) λr11 AW=>EW _ ⟨?_,?_,?_,?_,?_,?_⟩)
  λh8=> .j0 (.c (λh9=> .b (znT ?_ ?_ ?_ ?_) λr14 lX=>EW _ ⟨?_,?_,?_,?_,?_,?_⟩)
  λh9=> .j0 (.c (λxW=> .b (znv ?_ ?_ ?_ ?_ ?_) λr17 UX=>EW _ ⟨?_,?_,?_,?_,?_,?_⟩)
  λxW=>EW _ ⟨?_,?_,?_,?_,?_,?_⟩))))))
 all_goals first | trivial | assumption | exact RD | exact aI | ((try simp only[NB]at *)<;>(try simp(disch:=omega) only[DA,PA]at *)<;>omega) | grind [eA,oA,YN,aI,zfO]
end Go.D
namespace Go.D
def zoE{a0 a1 a2}(ha:wB a2=true)(hb:1≤a1∧a1≤9):Ok (Ev a0 a1 a2) λr=>wt r.1≤100∧(r.2=true→wB r.1=true)∧(r.2=true→r.1.Kind=3∧r.1.Id=a1∧r.1.Cn=a2.Cn∧r.1.Sn=a2.Sn):=by
 unfold Ev;refine have:=pD ha;have K5:=@sV a2 ha;
 .j0 (.c (λh1=> .kt (.s ⟨?_,?_,?_⟩))
  λh1=> .m (uA ?_) (.c (λh2=> .s ⟨?_,?_,?_⟩)
  λh2=>have:=pD (nf h2); .b (zih ?_ ?_ ?_) λr4 VV=> .c (λh3=> .s ⟨?_,?_,?_⟩)
  λh3=> .m (uA ?_) (.m (uA ?_) (.m (uA ?_) (.s ⟨?_,?_,?_⟩)))))
 all_goals first | trivial | ((try simp only[NB]at *)<;>omega) | grind [eA,oA,wB,gC]
def zhh{a0 a1}(ha:xC a0=true):Ok (Bv a0 a1) λr=>xC r=true∧(r.Role=a0.Role∧r.Sn=a0.Sn∧r.Next=a0.Next):=by
 unfold Bv;refine have:=TD ha;
 .m (uA ?_) (.j (λy2:Bool=>True) (λy2 zW=> .j0 (.c (λh1=> .s ⟨?_,?_⟩)
  λh1=> .s ⟨?_,?_⟩))
  λk3 KV=> .m (uA ?_) (.c (λh2=>have:=TD h2; .c (λh3=> .c (λh4=> .c (λh5=>KV _ ?_)
  λh5=>KV _ ?_)
  λh4=>KV _ ?_)
  λh3=>KV _ ?_)
  λh2=>KV _ ?_))
 all_goals first | trivial | ((try simp only[NB]at *)<;>omega) | grind [eA,oA,xC,CH,MF]
def zoa{a0 a1}:Ok (Co a0 a1) λr=>r=true→a0.On=true∧qD a0=true∧eA a1 0 1000000=true:=by
 unfold Co
 refine .j0 (.c (λh1=> .c (λh2=> .c (λh3=> .s ?_)
  λh3=> .s ?_)
  λh2=> .s ?_)
  λh1=> .s ?_)
 all_goals first | trivial | ((try simp only[NB]at *)<;>omega) | grind [eA,oA]
def zhb{a0 a1}(ha:qD a0=true):Ok (Dt a0 a1) λr=>qD r.1=true∧(r.2=0→r.1=a0)∧(r.2≠2→r.1.On=a0.On)∧(r.2≠0→a0.On=true):=by
 unfold Dt;refine have hw:=@zwc a0 ha;have hm:=zfY (YB .i64 2 a0.Wait) 8;have h1:=@DA a0.Tries 1;have h2:=@zwk a0.Wait;have h3:=@DA a1 (UD (YB .i64 2 a0.Wait) 8);
 .b zoa λr1 OV=> .c (λh1=> .s ⟨?_,?_,?_,?_⟩)
  λh1=> .c (λh2=> .s ⟨?_,?_,?_,?_⟩)
  λh2=> .s ⟨?_,?_,?_,?_⟩
 all_goals first | trivial | ((try simp only[NB]at *)<;>(try simp(disch:=omega) only[DA,PA]at *)<;>omega) | grind [eA,oA,qD,yF]
def zpA{a0 a1}(ha:aC a0=true)(hb:a0.St=3)(hc:eA a1 0 1000000=true):Ok (Kt a0 a1) λr=>aC r.1=true∧(r.1.Id=a0.Id∧r.1.Psk=a0.Psk∧r.1.At=a0.At)∧FC r.2.2∧r.2.2.length≤6∧(r.2.1.length≤1∧wt r.2.1≤400):=by
 unfold Kt;refine have:=uG ha;have hc:=znj ha hb;have:=TD hc.1;
 .c (λh1=> .b (ziR ?_) λr1 OV=> .b (ziu ?_ ?_ ?_) λr2 dW=> .s ⟨?_,?_,?_,?_,?_⟩)
  λh1=> .m (uA ?_) (.b (zhh ?_) λr4 VV=> .b (zhb ?_) λr5 QV=> .c (λh2=> .s ⟨?_,?_,?_,?_,?_⟩)
  λh2=> .j (λy6:Ad=>aC y6=true∧(y6.Id=a0.Id∧y6.Psk=a0.Psk∧y6.At=a0.At)∧y6.St=3) (λy6 vX=>have:=uG vX.1;have hc6:=znj vX.1 vX.2.2; .b (zo1 ?_) λr9 dX=> .c (λh3=> .s ⟨?_,?_,?_,?_,?_⟩)
  λh3=> .b (LP ?_ ?_) λr10 rW=> .s ⟨?_,?_,?_,?_,?_⟩)
  λk7 UV=> .c (λh4=> .b zht λr8 OW=>UV _ ⟨?_,?_,?_⟩)
  λh4=>UV _ ⟨?_,?_,?_⟩)
 all_goals first | trivial | ((try simp only[NB]at *)<;>(try simp(disch:=omega) only[DA,PA]at *)<;>omega) | grind [eA,oA,aC,xE,RD,pJ]
def znW{a0 a1}(ha:aC a0=true):Ok (If a0 a1) λr=>aC r.1=true∧(r.1.Id=a0.Id∧r.1.Psk=a0.Psk∧r.1.At=a0.At)∧FC r.2.2∧r.2.2.length≤6∧(r.2.1.length≤1∧wt r.2.1≤400):=by
 unfold If;refine have:=uG ha;
 .m (uA ?_) (.j0 (.m (uA ?_) (.c (λh1=> .kt (.s ⟨?_,?_,?_,?_,?_⟩))
  λh1=>have:=uG (nf h1); .c (λh2=> .kt (.s ⟨?_,?_,?_,?_,?_⟩))
  λh2=> .c (λh3=> .s ⟨?_,?_,?_,?_,?_⟩)
  λh3=> .c (λh4=> .b (zpA ?_ ?_ ?_) λr5 QV=> .s ⟨?_,?_,?_,?_,?_⟩)
  λh4=> .b (zhb ?_) λr6 uW=> .c (λh5=> .b (ziR ?_) λr7 NW=> .m (uA ?_) (.s ⟨?_,?_,?_,?_,?_⟩))
  λh5=> .jt (λy10=> .c (λh6=> .b (zpM ?_) λr12 vW=> .s ⟨?_,?_,?_,?_,?_⟩)
  λh6=> .c (λh7=> .m (uA ?_) (.s ⟨?_,?_,?_,?_,?_⟩))
  λh7=> .s ⟨?_,?_,?_,?_,?_⟩)
  λk11 SV=> .c (λh8=>SV _)
  λh8=>SV _)))
 all_goals first | trivial | ((try simp only[NB]at *)<;>omega) | grind [eA,oA,aC,UJ,xE,RD,tC,uD,CE,MA]
def znS{a0 a1 a2}(ha:aC a0=true)(hb:wB a2=true)(hc:a2.Kind=2)(hd:a0.St=1)(he:a2.Cn=a0.Cn)(hf:eA a1 0 1000000=true):Ok (Kr a0 a1 a2) λr=>aC r.1=true∧(r.1.Id=a0.Id∧r.1.Psk=a0.Psk∧r.1.At=a0.At)∧FC r.2.2∧r.2.2.length≤6∧(r.2.1.length≤1∧wt r.2.1≤400):=by
 unfold Kr;refine have:=uG ha;have v3:=zyF ha hd;have hf:=sV hb hc;
 .m (uA ?_) (.b (zoE ?_ ?_) λr2 dW=> .c (λh1=> .s ⟨?_,?_,?_,?_,?_⟩)
  λh1=> .b zht λr3 tW=> .b (zhv ?_ ?_ ?_) λr4 VV=> .b (zhC ?_ ?_ ?_) λr5 QV=>have:=TD QV.1; .m (uA ?_) (.m (uA ?_) (.b zdZ λr8 OW=> .b (zd2 ?_ ?_ ?_) λr9 dX=> .b (zex ?_ ?_) λr10 rW=> .m (uA ?_) (.s ⟨?_,?_,?_,?_,?_⟩))))
 all_goals first | trivial | ((try simp only[NB]at *)<;>omega) | grind [eA,oA,aC,UJ,xE,RD,tC,uD,CE,MA]
def zn4{a0 a1 a2}(ha:aC a0=true)(hb:wB a2=true)(hc:gC a2.Kind=true)(hd:a0.St=2∨a0.St=3)(he:eA a1 0 1000000=true):Ok (Ks a0 a1 a2) λr=>aC r.1=true∧(r.1.Id=a0.Id∧r.1.Psk=a0.Psk∧r.1.At=a0.At)∧FC r.2.2∧r.2.2.length≤6∧(r.2.1.length≤1∧wt r.2.1≤400):=by
 unfold Ks;refine have:=uG ha;have hfs:=zf4 hb hc;have hcf:=pD hb;have hc2:=zwu ha hd;have:=TD hc2.1;
 .m (uA ?_) (.b (zhg ?_ ?_) λr2 dW=>have:=TD dW.1; .c (λh1=> .s ⟨?_,?_,?_,?_,?_⟩)
  λh1=> .b (zh9 ?_) λr3 tW=> .b (QO ?_) λr4 VV=> .b (zbm ?_ ?_ ?_) λr5 QV=>have:=CS QV; .j (λy6:(List Ae)×Ad=>FC y6.1∧y6.1.length≤2∧(y6.2.Id=a0.Id∧y6.2.Psk=a0.Psk∧y6.2.At=a0.At∧y6.2.C=r2.1∧y6.2.R=a0.R∧y6.2.St=3∧y6.2.Cn=a0.Cn∧y6.2.Last=a1)∧(zF y6.2.Fin=true∧yF y6.2.T=true)) (λy6 vX=>have:=UF vX.1; .j (λy12:(List Ae)×Ad=>FC y12.1∧y12.1.length≤3∧aC y12.2=true∧(y12.2.Id=a0.Id∧y12.2.Psk=a0.Psk∧y12.2.At=a0.At∧y12.2.C=r2.1∧y12.2.St=3)) (λy12 DY=>have:=UF DY.1; .j (λy17:(List Ae)=>FC y17∧y17.length≤4) (λy17 A1=>have:=UF A1.1; .c (λh2=> .s ⟨?_,?_,?_,?_,?_⟩)
  λh2=> .b (mT ?_ ?_) λr21 MZ=>have:=TD MZ.1;have hh:=MZ.2.2.2; .c (λh3=> .s ⟨?_,?_,?_,?_,?_⟩)
  λh3=> .m (uA ?_) (.b (LP ?_ ?_) λr23 OY=>have SW:FC [r23,(⟨8,0,0,[],r21.2.1.Sn,r21.2.1.Epoch,0,r2.2.1,[],(⟨0,0⟩:Ai),0⟩:Ae)]:=xE.2 ⟨OY,xE.2 ⟨(by grind [tC,uD,CE,eA,MA,pJ]),RD⟩⟩;have:=UF SW;have hno2:=nF.2 ⟨A1.1,SW⟩; .g ?_ (.s ⟨?_,?_,?_,?_,?_⟩)))
  λk18 sX=> .c (λh4=> .m (uA ?_) (.g ?_ (sX _ ⟨?_,?_⟩)))
  λh4=>sX _ ⟨?_,?_⟩)
  λk13 lW=> .c (λh5=> .m (uA ?_) (.m (uA ?_) (.g ?_ (lW _ ⟨?_,?_,?_,?_⟩))))
  λh5=>lW _ ⟨?_,?_,?_,?_⟩)
  λk7 UV=> .c (λh6=> .m (uA ?_) (.m (uA ?_) (.m (uA ?_) (.g ?_ (UV _ ⟨?_,?_,?_,?_⟩)))))
  λh6=>UV _ ⟨?_,?_,?_,?_⟩)
 all_goals first | trivial | assumption | ((try simp only[NB]at *)<;>omega) | grind [eA,oA,aC,UJ,xE,RD,nF,tC,uD,CE,MA,zF,yF,qD]
def zob{a0 a1 a2}(ha:aC a0=true)(hb:wB a2=true)(hc:eA a1 0 1000000=true):Ok (Ie a0 a1 a2) λr=>aC r.1=true∧(r.1.Id=a0.Id∧r.1.Psk=a0.Psk∧r.1.At=a0.At)∧FC r.2.2∧r.2.2.length≤6∧(r.2.1.length≤1∧wt r.2.1≤400):=by
 unfold Ie;refine have:=uG ha;have:=pD hb;
 .j0 (.m (uA ?_) (.c (λh1=> .kt (.m (uA ?_) (.s ⟨?_,?_,?_,?_,?_⟩)))
  λh1=>have:=uG (nf h1); .c (λh2=> .kt (.m (uA ?_) (.s ⟨?_,?_,?_,?_,?_⟩)))
  λh2=> .m (uA ?_) (.c (λh3=> .m (uA ?_) (.s ⟨?_,?_,?_,?_,?_⟩))
  λh3=>have:=pD (nf h3); .j (λy6:Bool=>y6=true→a2.Kind=2∧a0.St=1∧a2.Cn=a0.Cn) (λy6 vX=> .c (λh4=> .b (znS ?_ ?_ ?_ ?_ ?_ ?_) λr9 dX=> .s ⟨?_,?_,?_,?_,?_⟩)
  λh4=> .j (λy10:Bool=>y10=true→gC a2.Kind=true∧(a0.St=2∨a0.St=3)) (λy10 yX=> .c (λh5=> .b (zn4 ?_ ?_ ?_ ?_ ?_) λr12 vW=> .s ⟨?_,?_,?_,?_,?_⟩)
  λh5=> .m (uA ?_) (.s ⟨?_,?_,?_,?_,?_⟩))
  λk11 SV=> .c (λh6=> .c (λh7=>SV _ ?_)
  λh7=>SV _ ?_)
  λh6=>SV _ ?_)
  λk7 UV=> .c (λh8=> .c (λh9=> .m (uA ?_) (UV _ ?_))
  λh9=>UV _ ?_)
  λh8=>UV _ ?_)))
 all_goals first | trivial | assumption | exact RD | ((try simp only[NB]at *)<;>omega) | grind [eA,oA]
end Go.D
namespace Go.D
def zri{a0 a1 a2 a3}(ha:wt a0≤4000000000)(hb:wt a3≤900000000):Ok (Gh a0 a1 a2 a3) λr=>(oB a0=true→oB r.1=true)∧(∃m,r.1.Notes=a0.Notes++m)∧wt r.1≤wt a0+100000∧wt r.2≤1000∧(oB a0=true→a1=0→pI r.2 tE)∧(oB a0=true→∀c,a1≠0→a0.Clients[(wA .i64 a1 1).toNat]?=some c→pI r.2 c.At∧EO r.2)∧(oB a0=false→r.1=a0∧r.2=[])∧r.1.Now=a0.Now:=by
 unfold Gh
 refine .m (uA ?_) (.j0 (.m (uA ?_) (.c (λh1=> .kt (.s ⟨?_,?_,?_,?_,?_,?_,?_,?_⟩))
  λh1=>have:=ZR (nf h1);have L1:=nf h1;have W:=vF.1 L1;have:=W.srv; .c (λh2=> .kt (.s ⟨?_,?_,?_,?_,?_,?_,?_,?_⟩))
  λh2=> .c (λh3=> .s ⟨?_,?_,?_,?_,?_,?_,?_,?_⟩)
  λh3=>have:=QF (nf h3); .c (λh4=> .b (zn8 ?_ ?_) λr5 QV=>have:=UF QV.2.2.2.2.1;have:=QH QV.1;have X8:=zjB L1 QV.1 QV.2.1 QV.2.2.2.2.1; .g ?_ (.b (zpe ?_ ?_) λr6 uW=> .s ⟨?_,?_,?_,?_,?_,?_,?_,?_⟩))
  λh4=> .b (zhu ?_) λr7 NW=> .c (λh5=> .s ⟨?_,?_,?_,?_,?_,?_,?_,?_⟩)
  λh5=> .bi ?_ ?_ λe8 J3 I2=>have ce:=zvN L1 (List.mem_of_getElem? J3);have cf:=uG ce; .b (zob ?_ ?_ ?_) λr9 dX=>have:=UF dX.2.2.1;have:=uG dX.1;have hwc:=zjK L1 J3 dX.1 dX.2.1.1 dX.2.1.2.1 dX.2.2.1; .h ?_ (.m J3 (.g ?_ (.b (zha ?_ ?_) λr11 AW=>have hw11:∀c,a1≠0→a0.Clients[(wA .i64 a1 1).toNat]?=some c→pI r11 c.At∧EO r11:=λc _ hc=>(by have e:=Option.some.inj (J3.symm.trans hc);subst e;have:=AW.2 (by rw[dX.2.1.2.2];exact zlW ce);rwa [dX.2.1.2.2]at this); .s (have:=zC a0.Clients ((wA .i64 a1 1).toNat) r9.1;⟨?_,?_,?_,?_,?_,?_,?_,?_⟩)))))))
 all_goals first | trivial | exact⟨[],(List.append_nil _).symm⟩ | exact⟨_,rfl⟩ | assumption | exact λ_ _=>zk4 | exact λ_ _ _ _=>⟨zk4,zuQ⟩ | exact λ_ _=>uW.2 | exact QV.2.2.1 | exact λk=>absurd L1 (by rw[k];decide) | exact λ_=>X8 | exact λ_=>hwc | exact λ_ _=>uW | exact λ_=>hw0 | exact λ_=>hw11 | ((try simp only[NB,N11]at *)<;>(try simp(disch:=omega) only[DA,PA]at *)<;>omega) | grind [eA,oA]
end Go.D
namespace Go.D
def zo3{a0 a1}(ha:qC a0=true):Ok (Dc a0 a1) λr=>qC r=true∧r.At=a0.At:=by
 unfold Dc;refine have:=SH ha;
 .j0 (.c (λh1=> .kt (.m (uA ?_) (.s ⟨?_,?_⟩)))
  λh1=>have:=SH (nf h1); .c (λh2=> .m (uA ?_) (.s ⟨?_,?_⟩))
  λh2=> .b (zg6 ?_) λr4 VV=> .s ⟨?_,?_⟩)
 all_goals first | trivial | ((try simp only[NB]at *)<;>omega) | grind [eA,oA]
def ziv{a0}(ha:uC a0=true):Ok (Ew a0) λr=>RE a0 r∧r.Dead=true:=by
 unfold Ew;refine have:=mG ha;
 .m (uA ?_) (.c (λh1=> .m (uA ?_) (.s ⟨?_,?_⟩))
  λh1=>have:=NK (nf h1); .m (uA ?_) (.m (uA ?_) (.s ⟨?_,?_⟩)))
 all_goals first | trivial | ((try simp only[NB]at *)<;>omega) | grind [eA,oA,RE,uC,rC,MF,PB]
def zoX{a0 a1}(ha:uC a0=true):Ok (Ig a0 a1) λr=>RE a0 r:=by
 unfold Ig;refine have:=mG ha;have hl:=@CM a0 ha;have:=IN ha;
 .m (uA ?_) (.j0 (.m (uA ?_) (.c (λh1=> .kt (.s ?_))
  λh1=>have:=NK (nf h1); .c (λh2=> .kt (.s ?_))
  λh2=>have hd:=h2;have hl:=hl h2; .c (λh3=> .s ?_)
  λh3=> .c (λh4=> .b (ziv ?_) λr5 QV=> .s ?_)
  λh4=> .b (zhh ?_) λr6 uW=> .b (zo3 ?_) λr7 NW=>have hR:=λe=>rM (a:=a0) (c:=r6) (p:=r7) (l:=a0.Last) ha uW.1 (uW.2.1.trans hl.2.1) (uW.2.2.1.trans hl.2.2.1) NW.1 hl.2.2.2.2.2 e; .s ?_)))
 all_goals first | trivial | ((try simp only[NB]at *)<;>(try simp(disch:=omega) only[DA,PA]at *)<;>omega) | grind [eA,oA]
def zpr{a0 a1}(ha:UC a0=true):Ok (Ih a0 a1) λr=>UC r=true∧Tk a0.L r.L:=by
 have hL:=IB;have hf:=ZK ha;have T:=UG.1 ha
 have tr:Tk a0.L a0.L:=by
  have:∀l:List Ah,(∀e∈l,uC e=true)→F2 l l:=λl=>by
   induction l with
   | nil=>exact λ_=> .nil
   | cons e l ih=>exact λh=> .cons (IN (h e List.mem_cons_self)) (ih λx hx=>h x (List.mem_cons_of_mem _ hx))
  exact⟨_, .refl _,this _ T.el⟩
 unfold Ih;refine .j0 (.m (uA (by omega)) (.c (λ_=> .kt (.m (uA (by omega)) (.s ⟨ha,tr⟩))) λ_=> .c (λ_=> .m (uA (by omega)) (.s ⟨ha,tr⟩)) λ_=>?_));refine .j (λy:Ao=>y.Cap=a0.Cap∧Tk a0.L y.L) (λy hy=> .s ⟨?_,hy.2⟩) λk hk=> .l (λx:Int×Ao=>∃i:Nat,x.1=(i:Int)∧i≤a0.L.length∧x.2.Cap=a0.Cap∧Tk (a0.L.take i) x.2.L∧x.2.L.length≤i∧wt x.2.L≤240 *i) (λx:Int×Ao=>((a0.L.length:Int) - x.1).toNat) (λx hx k' bX=>?_) ⟨0,rfl,Nat.zero_le _,rfl,zv1,Nat.le_refl _,Nat.le_refl _⟩ (by simp only;omega)
 ·have:=zwn ha hy.2;rwa [←hy.1]at this
 ·obtain⟨i,h1,h2,h3,h4,h5,h6⟩:=hx;refine .c (λh=>?_) λh=>hk _ ⟨h3,?_⟩
  ·simp only[B]at h;have N3:iA .i64 x.1 1=((i+1:Nat):Int):=by rw[h1,DA (by omega) (by omega)];omega
   refine .bi (by omega) (by omega) λe he hew=> .b (zoX (T.el e (List.mem_of_getElem? he))) λr hr=>?_;rw[show x.1.toNat=i by omega]at he;have ht:=take_succ he;have hs:=mG hr.1;refine .jt (λy=> .j (λy:Ao=>y.Cap=a0.Cap∧Tk (a0.L.take (i+1)) y.L∧y.L.length≤i+1∧wt y.L≤240 *(i+1)) (λy hy=>bX _ ⟨i+1,N3,by omega,hy.1,hy.2.1,hy.2.2.1,hy.2.2.2⟩ (by simp only[N3];omega)) λk2 JV=> .c (λ_=> .g ?_ (JV _ ⟨h3,?_,?_,?_⟩)) λ_=>JV _ ⟨h3,?_,by omega,by omega⟩) λk2 JV=> .c (λ_=>JV _) λ_=>JV _
   ·simp only[N]at hs⊢;omega
   ·rw[ht];exact zvH h4 hr
   ·simp only[N]at hs⊢;omega
   ·simp only[N]at hs⊢;omega
   ·rw[ht];exact zvc e h4
  ·simp only[B]at h;rw[show a0.L.take i=a0.L from List.take_of_length_le (by omega)]at h4;exact h4
def znU{a0 a1}(ha:fC a0=true):Ok (Ii a0 a1) λr=>fC r.1=true∧r.1.Psks=a0.Psks∧FC r.2∧r.2.length≤12:=by
 unfold Ii;refine have:=QH ha;have S:=MH.1 ha;have:=S.tab;have T:=UG.1 S.tab;have hw:=JB a0.T.L;have:=T.len;
 .m (uA ?_) (.j0 (.m (uA ?_) (.c (λh1=> .kt (.s ⟨?_,?_,?_,?_⟩))
  λh1=>have:=QH (nf h1); .c (λh2=> .s ⟨?_,?_,?_,?_⟩)
  λh2=> .b (zpr ?_) λr5 QV=>have:=ZK QV.1;have n8:=qO (d:=⟨a0.Psks,a0.J,a0.D,r5,a0.Cr⟩) ha rfl S.jar S.dice QV.1 S.cr (λe he=>(by obtain⟨d,h1,h2⟩:=zlS QV.2 he;have e1:e.Id=d.Id:=h2.2.1;show e.Id≤(a0.Psks.length:Int);rw[e1];exact S.id d h1)); .j (λy6:(List Ae)=>FC y6∧y6.length≤12) (λy6 vX=> .s ⟨?_,?_,?_,?_⟩)
  λk7 UV=> .l (λx8:(List Ae)×Int=>(0≤x8.2∧x8.2≤(a0.T.L.length:Int))∧FC x8.1∧(x8.1.length:Int)≤x8.2) (λx8:(List Ae)×Int=>((a0.T.L.length:Int) - x8.2).toNat) (λx8 Q4 k9 WW=>have:=UF Q4.2.1; .c (λh3=> .bm ?_ ?_ λe10 qY BX=>have F3:=T.el _ qY;have:=mG F3; .m (uA ?_) (have:=FN r5 e10.Sn; .j (λy12:Bool=>True) (λy12 DY=> .j (λy15:(List Ae)=>FC y15∧(y15.length:Int)≤x8.2+1) (λy15 LZ=>WW _ ⟨?_,?_,?_⟩ ?_)
  λk16 MW=> .c (λh4=> .b (ziu ?_ ?_ ?_) λr17 UX=>have:=CS UX;have SW:=nF.2 ⟨Q4.2.1,xE.2 ⟨UX,RD⟩⟩; .g ?_ (MW _ ⟨?_,?_⟩))
  λh4=>MW _ ⟨?_,?_⟩)
  λk13 lW=> .c (λh5=> .c (λh6=>lW _ ?_)
  λh6=> .h ?_ (.bg ?_ λe14 R4 K0=>lW _ ?_))
  λh5=>lW _ ?_))
  λh3=>UV _ ⟨?_,?_⟩) ⟨?_,?_,?_⟩ ?_)))
 all_goals first | trivial | assumption | exact RD | exact n8 | ((try simp only[NB]at *)<;>(try simp(disch:=omega) only[DA,PA]at *)<;>omega) | grind [eA,oA]
def zrF{a0 a1}(ha:wt a0≤500000000)(hb:wt a1≤1000):Ok (Ij a0 a1) λr=>r=a0∨r=a0++[a1]∧WD r=true:=by
 unfold Ij
 refine .g ?_ (.g ?_ (.m (uA ?_) (.c (λh1=> .m (uA ?_) (.s ?_))
  λh1=>have:=ze7 (nf h1); .s ?_)))
 all_goals first | trivial | exact .inl rfl | ((try simp only[NB]at *)<;>omega) | grind [eA,oA]
def zpX{a0}:Ok (Dk a0) λr=>r=true→1≤a0.Kind∧a0.Kind≤10∧a0.B.length≤200∧0≤a0.I∧0≤a0.J:=by
 unfold Dk
 refine .j0 (.c (λh1=> .c (λh2=> .c (λh3=> .s ?_)
  λh3=> .s ?_)
  λh2=> .s ?_)
  λh1=> .s ?_)
 all_goals first | trivial | ((try simp only[NB]at *)<;>omega) | grind [eA,oA]
def zhi{a0}:Ok (Kl a0) λr=>0≤r∧r≤3∧((a0=4∨a0=9)→r=1)∧((a0=5∨a0=6∨a0=7∨a0=8)→r=2)∧(a0=10→r=3):=by
 by_cases h:4≤a0∧a0≤10
 ·have:a0=4∨a0=5∨a0=6∨a0=7∨a0=8∨a0=9∨a0=10:=by omega
  rcases this with rfl | rfl | rfl | rfl | rfl | rfl | rfl<;>exact⟨_,rfl,by decide⟩
 ·have e:∀k:Int,4≤k→k≤10→(a0==k)=false:=λk _ _=>beq_false_of_ne (by omega);refine⟨0,?_,by omega⟩;simp[Kl,aA,e]
def zoQ{a0 a1}(ha:uC a0=true)(hb:wt a1≤300000):Ok (Ds a0 a1) λr=>RE a0 r.1∧TE r.2.1∧(r.2.1.length≤1∧wt r.2.1≤400)∧FC r.2.2.1∧r.2.2.1.length≤2:=by
 unfold Ds;refine have:=mG ha;have hl:=@CM a0 ha;have:=IN ha;
 .m (uA ?_) (.j0 (.m (uA ?_) (.c (λh1=> .kt (.s ⟨?_,?_,?_,?_,?_⟩))
  λh1=>have:=NK (nf h1); .c (λh2=> .s ⟨?_,?_,?_,?_,?_⟩)
  λh2=> .c (λh3=> .s ⟨?_,?_,?_,?_,?_⟩)
  λh3=>have hd:=h3;have hl:=hl h3; .b (mT ?_ ?_) λr5 QV=>have hS:=rM (a:=a0) (c:=r5.1) (p:=a0.P) (l:=a0.Last) ha QV.1 (QV.2.1.1.trans hl.2.1) (QV.2.1.2.1.trans hl.2.2.1) hl.2.2.2.1 hl.2.2.2.2.2 hd; .c (λh4=> .s ⟨?_,?_,?_,?_,?_⟩)
  λh4=> .m (uA ?_) (.m (uA ?_) (.b (LP ?_ ?_) λr8 OW=> .s ⟨?_,?_,?_,?_,?_⟩)))))
 all_goals first | trivial | assumption | exact RD | exact aI | ((try simp only[NB]at *)<;>omega) | grind [eA,oA,pJ,YN,aI,tC,uD,CE,MA,xE,RD,nF]
end Go.D
namespace Go.D
def DV{w:Ab}(h:oB w=true):wt w≤22600+wt w.Notes:=by
 have:=ZR h;simp only[N,N11]at this⊢;omega
structure TkP(a0:Ab)(i:Nat)(l:List Am)(w:Ab):Prop where
 ok:oB w=true
 now:w.Now=a0.Now+1
 notes:∃m,w.Notes=a0.Notes++m∧m.length≤6 *i
 wires:∀x∈l,LC x=true∧x.To=tE∧∃j c,j<i∧w.Clients[j]?=some c∧x.From=c.At
 wl:wt l≤201 *i
def TkP.wt{a0:Ab}{i:Nat}{l:List Am}{w:Ab}(h:TkP a0 i l w):wt w.Notes≤wt a0.Notes+942 *i∧wt w≤22600+wt a0.Notes+942 *i:=by
 obtain⟨m,h1,h2⟩:=h.notes;have hn:=(vF.1 h.ok).notes;have hw:=DV h.ok;rw[h1]at hn hw⊢;have:=UF (nF.1 hn).2;simp only[N]at hw⊢;omega
def zpf{a0}(ha:wt a0≤800000000):Ok (Du a0) λr=>(oB a0=true→oB r.1=true)∧(∃m,r.1.Notes=a0.Notes++m)∧wt r.1≤wt a0+120000∧wt r.2≤1000∧
  (oB a0=true→∀x∈r.2,LC x=true∧x.To=tE∧∃c∈r.1.Clients,x.From=c.At)∧(oB a0=true→a0.Now≠1000000→r.1.Now=a0.Now+1)∧(oB a0=false∨a0.Now=1000000→r.1=a0∧r.2=[]):=by
 have hL:=IB
 have hz:∀(_:oB a0=false∨a0.Now=1000000),Ok (some (a0,([]:List Am))) λr=>(oB a0=true→oB r.1=true)∧(∃m,r.1.Notes=a0.Notes++m)∧wt r.1≤wt a0+120000∧wt r.2≤1000∧
   (oB a0=true→∀x∈r.2,LC x=true∧x.To=tE∧∃c∈r.1.Clients,x.From=c.At)∧(oB a0=true→a0.Now≠1000000→r.1.Now=a0.Now+1)∧(oB a0=false∨a0.Now=1000000→r.1=a0∧r.2=[]):=λh=>
  .s ⟨id,⟨[],(List.append_nil _).symm⟩,Nat.le_add_right _ _,Nat.zero_le _,(λ_ _ h=>nomatch h),λh1 h2=>(h.elim (λh=>absurd h (by rw[h1];decide)) λh=>absurd h h2),λ_=>⟨rfl,rfl⟩⟩
 unfold Du;refine .m (uA (by omega)) (.j0 (.m (uA (by omega)) (.c (λh1=> .kt (hz (.inl (by simpa using h1)))) λh1=> .c (λh2=>hz (.inr (by simpa using h2))) λh2=>?_)));have L1:oB a0=true:=by simpa using h1
 have o8:a0.Now≠1000000:=by simpa using h2
 have W:=vF.1 L1;have hn:=pC.1 W.now;have hN0:wt a0.Notes≤wt a0:=by simp only[KI];omega
 refine .j (λy:List Am×Ab=>TkP a0 2 y.1 y.2) (λy hy=>?_) λk hk=> .l (λx:List Am×Int×Ab=>∃i:Nat,x.2.1=(i:Int)∧i≤2∧TkP a0 i x.1 x.2.2) (λx:List Am×Int×Ab=>(2 - x.2.1).toNat) (λx hx k' bX=>?_) ⟨0,rfl,by omega,?_⟩ (by simp only;omega)
 ·have hw:=hy.wt;have Y:=vF.1 hy.ok;refine .b (znU Y.srv) λr hr=>?_;have hnw:=UF hr.2.2.1;refine .g (by omega) ?_;have uX:=zjB hy.ok hr.1 hr.2.1 hr.2.2.1;refine .s ⟨λ_=>uX,?_,?_,by have:=hy.wl;show wt y.1≤_;omega,λ_ x hx=>?_,λ_ _=>hy.now,λh=>?_⟩
  ·obtain⟨m,h3,_⟩:=hy.notes;exact⟨m++r.2,by show y.2.Notes++r.2=_;rw[h3,List.append_assoc]⟩
  ·have h4:=DV uX;have h5:wt (y.2.Notes++r.2)=wt y.2.Notes+wt r.2:=by simp only[N]
   have h6:wt a0.Notes≤wt a0:=by simp only[KI];omega
   show wt (⟨_,_,_,_,_,_,y.2.Notes++r.2⟩:Ab)≤_
   have h4:wt (⟨y.2.Now,y.2.Clients,r.1,y.2.D,y.2.Seen,y.2.Known,y.2.Notes++r.2⟩:Ab)≤22600+wt (y.2.Notes++r.2):=h4;omega
  ·obtain⟨w1,w2,j,c,_,w3,w4⟩:=hy.wires x hx;exact⟨w1,w2,c,List.mem_of_getElem? w3,w4⟩
  ·rcases h with h | h
   ·rw[h]at L1;cases L1
   ·exact absurd h o8
 ·obtain⟨i,e1,e2,hx⟩:=hx;have hw:=hx.wt;have X:=vF.1 hx.ok;have F1:=X.cl;have G3:=W.cl;refine .c (λh3=>?_) λh3=>hk _ ?_
  ·simp only[B]at h3;have N3:iA .i64 x.2.1 1=((i+1:Nat):Int):=by rw[e1,DA (by omega) (by omega)];omega
   refine .h (by simp only[B];omega) ?_;rw[show x.2.1.toNat=i by omega];refine .bg (by omega) λe9 he hew=>?_;obtain⟨c1,c2,c3⟩:=X.ci i e9 he;refine .b (znW c1) λr hr=>?_;have hnw:=UF hr.2.2.1;have hcf:=uG hr.1;refine .h (by simp only[B];omega) (.m he (.g (by omega) (.b (zha (by have:=hcf.1;omega) (by omega)) λr12 aX=> .g (by have:=hx.wl;omega) (bX _ ⟨i+1,N3,by omega,?_⟩ (by simp only[N3];omega)))));have X8:=aX.2 (by rw[hr.2.1.2.2];exact zlW c1);refine⟨zjK hx.ok he hr.1 hr.2.1.1 hr.2.1.2.1 hr.2.2.1,hx.now,?_,λz hz=>?_,?_⟩
   ·obtain⟨m,h4,h5⟩:=hx.notes;exact⟨m++r.2.2,by show x.2.2.Notes++r.2.2=_;rw[h4,List.append_assoc],by rw[List.length_append];omega⟩
   ·rcases List.mem_append.1 hz with hz | hz
    ·obtain⟨w1,w2,j,c,hj,w3,w4⟩:=hx.wires z hz;exact⟨w1,w2,j,c,by omega,by show(x.2.2.Clients.set i r.1)[j]?=_;rw[List.getElem?_set_ne (by omega)];exact w3,w4⟩
    ·obtain⟨w1,w2⟩:=X8.1 z hz;exact⟨w1,X8.2 z hz,i,r.1,by omega,by show(x.2.2.Clients.set i r.1)[i]?=_;rw[List.getElem?_set_self (by omega)],w2⟩
   ·have h4:=aX.1;have h5:wt (x.1++r12)=wt x.1+wt r12:=by simp only[N]
    have h6:=hx.wl;show wt (x.1++r12)≤_
    omega
  ·simp only[B]at h3;have:i=2:=by omega
   subst this;exact hx
 ·exact⟨zvR L1 o8,DA (by omega) (by omega),⟨[],(List.append_nil _).symm,Nat.le_refl _⟩,(λ_ h=>nomatch h),Nat.le_refl _⟩
end Go.D

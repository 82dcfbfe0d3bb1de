/-
 The program's machine comes to an end; what is right stays right.
-/
import Derived.Test.YtfealdecpglcnaaGreatP1
set_option linter.all false
namespace Go.D
def zaI{a0 a1 a2 a3 a4}(ha:TB a0=true)(hb:TA a3=true)(hc:a4.length≤100):Ok (Cc a0 a1 a2 a3 a4) λr=>BE a0 r.1∧CE r.2.1∧(r.2.1.length≤2∧wt r.2.1≤800)∧WB r.2.2.1∧r.2.2.1.length≤5:=by
 unfold Cc;refine have:=fF ha;have hl:=@kN a0 ha;have:=pO ha;have:=LC hb;
 .m (nA ?_) (.j0 (.m (nA ?_) (.c (λh1=> .kt (.s ⟨?_,?_,?_,?_,?_⟩))
  λh1=>have:=BL (nf h1); .c (λh2=> .kt (.s ⟨?_,?_,?_,?_,?_⟩))
  λh2=>have hd:=h2;have hl:=hl h2; .c (λh3=> .s ⟨?_,?_,?_,?_,?_⟩)
  λh3=>have:=EF (nf h3); .b (zaH ?_ ?_) λr5 MV=> .c (λh4=> .s ⟨?_,?_,?_,?_,?_⟩)
  λh4=>have hx:=MV.2.2.2.2 (by simpa using h4);have hS:=TM (a:=a0) (c:=r5.1) (p:=a0.P) (l:=a1) ha MV.1 (MV.2.1.1.trans hl.2.1) (MV.2.1.2.trans hl.2.2.1) hl.2.2.2.1 hx.2.2 hd;have hfs:=zgL hx.1 hx.2.1;have YX:=YA.1 hx.2.2; .b (ziu ?_) λr6 AW=> .b (AP ?_) λr7 IW=> .b (zbC ?_ ?_ ?_) λr8 RW=>have:=jT RW; .j (λy9:(List Ad)×(List Aq)×Ah=>(WB y9.1∧y9.1.length≤3)∧CE y9.2.1∧(y9.2.1.length≤1∧wt y9.2.1≤400)∧(BE a0 y9.2.2∧y9.2.2.Dead=false)) (λy9 S1=>have hs9:=S1.2.2.2.1.1;have:=fF hs9;have hl9:=kN hs9 S1.2.2.2.2;have:=eE S1.1.1; .b (zqB ?_ ?_) λr23 T2=> .b (yP ?_ ?_) λr24 UX=>have hS9:=zjw S1.2.2.2.1 (TM (a:=y9.2.2) (c:=r24.1) (p:=r23.1) (l:=y9.2.2.Last) hs9 UX.1 (UX.2.1.1.trans hl9.2.1) (UX.2.1.2.1.trans hl9.2.2.1) T2.1 hl9.2.2.2.2.2 S1.2.2.2.2); .j0 (.c (λh5=> .kt (.s ⟨?_,?_,?_,?_,?_⟩))
  λh5=> .c (λh6=> .s ⟨?_,?_,?_,?_,?_⟩)
  λh6=> .g ?_ (.b (nM ?_ ?_) λr27 bZ=>have:=jT bZ;have HW:=sE.2 ⟨S1.1.1,lD.2 ⟨bZ,rC⟩⟩; .g ?_ (.s ⟨?_,?_,?_,?_,?_⟩))))
  λk10 IV=> .c (λh7=> .m (nA ?_) (.g ?_ (IV _ ⟨?_,?_,?_,?_⟩)))
  λh7=> .j0 (.c (λh8=> .b (zqc ?_ ?_) λr15 iY=>have hS15:=TM (a:=a0) (c:=r5.1) (p:=r15.1) (l:=a1) ha MV.1 (MV.2.1.1.trans hl.2.1) (MV.2.1.2.trans hl.2.2.1) iY hx.2.2 hd; .j0 (.c (λh9=> .m (nA ?_) (.g ?_ (IV _ ⟨?_,?_,?_,?_⟩)))
  λh9=>IV _ ⟨?_,?_,?_,?_⟩))
  λh8=> .j0 (.c (λgW=> .b (zow ?_ ?_ ?_) λr22 IX=>have hS22:=zjw hS IX.1;have:=eE IX.2.2.2.1;have HW:=sE.2 ⟨lD.2 ⟨RW,rC⟩,IX.2.2.2.1⟩; .g ?_ (.g ?_ (IV _ ⟨?_,?_,?_,?_⟩)))
  λgW=>IV _ ⟨?_,?_,?_,?_⟩)))))
 all_goals first|trivial|assumption|exact rC|exact iH|exact hS.1|((try simp only[NB]at *)<;>omega)|grind [eA,mA,CO,iH,zgq,gC,RC,ND,EA,lD,rC,sE]
def znM{a0 a1 a2 a3}(ha:wB a0=true)(hb:eA a1 0 1000000=true)(hc:EA a2=true)(hd:TA a3=true)(he:nB a3.Kind=true):Ok (Cw a0 a1 a2 a3) λr=>wB r.1=true∧r.1.Psks=a0.Psks∧CE r.2.1∧(r.2.1.length≤2∧wt r.2.1≤1000)∧WB r.2.2∧r.2.2.length≤8:=by
 unfold Cw;refine have hfs:=zgL hd he;have:=BF ha;have S:=nE.1 ha;have:=S.tab;have:=LC hd;have hw:=QB a0.T.L;
 .m (nA ?_) (have:=mO a0.T a3.Sn; .j (λy2:Bool=>y2=false→0≤XB a0.T a3.Sn) (λy2 lW=> .c (λh1=> .s ⟨?_,?_,?_,?_,?_,?_⟩)
  λh1=> .m (nA ?_) (have:=SH a0.D; .b (zik ?_) λr6 _=> .j (λy7:(List UInt8)=>y7.length≤12) (λy7 MY=>have S2:=JE.1 S.tab; .bm ?_ ?_ λe9 qZ gY=>have OX:=S2.el _ qZ;have:=fF OX; .b (zaI ?_ ?_ ?_) λr10 tW=>have:=fF tW.1.1;have:=eE tW.2.2.2.1; .b (zaO ?_ ?_) λr11 NW=>have VW:=λe he=>(NW.2.1 e he).elim (S.id e) λh=>(by rw[h,tW.1.2.1];exact S.id _ qZ);have Q3:=VH (d:=⟨a0.Psks,a0.J,a0.D,r11.1,a0.Cr⟩) ha rfl S.jar S.dice NW.1 S.cr VW;have hsv2:=VH (d:=⟨a0.Psks,a0.J,(uC a0.D).1,r11.1,a0.Cr⟩) ha rfl S.jar ((SH a0.D).2.2.1 S.dice) NW.1 S.cr VW; .j (λy12:(List Ad)×Ac=>WB y12.1∧y12.1.length≤8∧wB y12.2=true∧y12.2.Psks=a0.Psks) (λy12 wY=> .s ⟨?_,?_,?_,?_,?_,?_⟩)
  λk13 TV=> .c (λh2=> .m (nA ?_) (.m (nA ?_) (.m (nA ?_) (have:=zcm y7;have:=@zbI y7; .g ?_ (.g ?_ (TV _ ⟨?_,?_,?_,?_⟩))))))
  λh2=>TV _ ⟨?_,?_,?_,?_⟩)
  λk8 eW=> .c (λh3=>eW _ ?_)
  λh3=>eW _ ?_))
  λk3 CV=> .c (λh4=>CV _ ?_)
  λh4=> .bm ?_ ?_ λe4 YY zY=>CV _ ?_)
 all_goals first|trivial|assumption|exact rC|exact iH|((try simp only[NB]at *)<;>omega)|grind [eA,mA,gC,RC,ND,EA,lD,rC,sE]
def zpO{a0}(ha:wt a0≤1000000000):Ok (Cy a0) λr=>0≤r:=by
 unfold Cy;refine .b (zet ?_) λr1 LV=> .s ?_
 all_goals first|trivial|((try simp only[NB]at *)<;>omega)|grind [eA,mA]
def zqk{a0 a1 a2}(ha:pC a0=true):Ok (Cz a0 a1 a2) λr=>pC r.1=true:=by
 unfold Cz;refine have:=cJ ha;have:=qT a0 a1;
 .m (nA ?_) (.j0 (.c (λh1=> .kt (.s ?_))
  λh1=>have:=cJ (nf h1); .c (λh2=> .kt (.s ?_))
  λh2=> .b (zia ?_) λr4 NV=> .c (λh3=> .s ?_)
  λh3=> .h ?_ (.bg ?_ λe5 iX dX=>have hg:=zgR ha iX;have hk:=@zmk a0 _ e5 e5.Got (fA .i64 e5.Sent a2) ha iX;have hi:=@DA e5.Sent a2; .h ?_ (.m iX (.s (have:=AD a0 ((VA a0 a1).toNat) (⟨e5.A,e5.Got,fA .i64 e5.Sent a2⟩:Ak);?_))))))
 all_goals first|trivial|((try simp only[NB]at *)<;>(try simp(disch:=omega) only[DA,RA]at *)<;>omega)|grind [eA,mA]
def zhJ{a0 a1 a2 a3}(ha:wB a0=true)(hb:wt a3≤900000000):Ok (Cd a0 a1 a2 a3) λr=>wB r.1=true∧r.1.Psks=a0.Psks∧CE r.2.1∧(r.2.1.length≤3∧wt r.2.1≤9100)∧WB r.2.2∧r.2.2.length≤8:=by
 unfold Cd;refine have:=BF ha;have S:=nE.1 ha;have:=S.cr;
 .m (nA ?_) (.j0 (.m (nA ?_) (.c (λh1=> .kt (.s ⟨?_,?_,?_,?_,?_,?_⟩))
  λh1=>have:=BF (nf h1); .c (λh2=> .kt (.s ⟨?_,?_,?_,?_,?_,?_⟩))
  λh2=> .c (λh3=> .s ⟨?_,?_,?_,?_,?_,?_⟩)
  λh3=>have:=EF (nf h3); .b (ze4 ?_) λr5 MV=>have Q3:=VH (d:=⟨a0.Psks,a0.J,a0.D,a0.T,r5⟩) ha rfl S.jar S.dice S.tab MV S.id; .b (zey ?_) λr6 AW=> .j (λy7:(List Aq)×(List Ad)×Ac=>CE y7.1∧(y7.1.length≤3∧wt y7.1≤2000)∧WB y7.2.1∧y7.2.1.length≤8∧wB y7.2.2=true∧y7.2.2.Psks=a0.Psks) (λy7 MY=> .j (λy18:(List Aq)×Ac=>CE y18.1∧(y18.1.length≤3∧wt y18.1≤9100)∧wB y18.2=true∧y18.2.Psks=a0.Psks) (λy18 s5=> .s ⟨?_,?_,?_,?_,?_,?_⟩)
  λk19 fX=> .l (λx20:(List Aq)×Int×Ac=>(0≤x20.2.1∧x20.2.1≤(y7.1.length:Int))∧CE x20.1∧((x20.1.length:Int)≤x20.2.1∧wt x20.1≤3001 *x20.2.1)∧wB x20.2.2=true∧x20.2.2.Psks=a0.Psks) (λx20:(List Aq)×Int×Ac=>((y7.1.length:Int) - x20.2.1).toNat) (λx20 D5 k21 mX=>have hx:=BF D5.2.2.2.1;have X:=nE.1 D5.2.2.2.1;have:=X.cr; .c (λh4=> .j (λy22:(List Aq)×Ac=>CE y22.1∧((y22.1.length:Int)≤x20.2.1+1∧wt y22.1≤3001 *x20.2.1+3001)∧wB y22.2=true∧y22.2.Psks=a0.Psks) (λy22 t7=>mX _ ⟨?_,?_,?_,?_,?_⟩ ?_)
  λk23 lX=> .h ?_ (.bg ?_ λe24 he24 he24w=>have ho:=MY.1 _ (List.mem_of_getElem? he24); .b (zi2 ?_) λr25 _=> .j (λy26:Ac=>wB y26=true∧y26.Psks=a0.Psks) (λy26 n5=> .g ?_ (lX _ ⟨?_,?_,?_,?_⟩))
  λk27 DW=> .c (λh5=> .b (zpO ?_) λr28 n7=> .b (zqk ?_) λr29 t5=>have hsv2:=VH (d:=⟨x20.2.2.Psks,x20.2.2.J,x20.2.2.D,x20.2.2.T,r29.1⟩) D5.2.2.2.1 rfl X.jar X.dice X.tab t5 X.id; .c (λh6=>lX _ ⟨?_,?_,?_,?_⟩)
  λh6=>DW _ ⟨?_,?_⟩)
  λh5=>DW _ ⟨?_,?_⟩))
  λh4=>fX _ ⟨?_,?_,?_,?_⟩) ⟨?_,?_,?_,?_,?_⟩ ?_)
  λk8 eW=> .c (λh7=>eW _ ⟨?_,?_,?_,?_,?_,?_⟩)
  λh7=> .j0 (.c (λh8=> .b (zo9 ?_ ?_ ?_ ?_) λr11 NW=>eW _ ⟨?_,?_,?_,?_,?_,?_⟩)
  λh8=> .j0 (.c (λh9=> .b (zn5 ?_ ?_ ?_ ?_) λr14 ZY=>eW _ ⟨?_,?_,?_,?_,?_,?_⟩)
  λh9=> .j0 (.c (λgW=> .b (znM ?_ ?_ ?_ ?_ ?_) λr17 K0=>eW _ ⟨?_,?_,?_,?_,?_,?_⟩)
  λgW=>eW _ ⟨?_,?_,?_,?_,?_,?_⟩))))))
 all_goals first|trivial|assumption|exact rC|exact iH|((try simp only[NB]at *)<;>(try simp(disch:=omega) only[DA,RA]at *)<;>omega)|grind [eA,mA,CO,iH,zgq]
end Go.D
namespace Go.D
def zoM{a0 a1 a2}(ha:TA a2=true)(hb:1≤a1∧a1≤9):Ok (Fj a0 a1 a2) λr=>wt r.1≤100∧(r.2=true→TA r.1=true)∧(r.2=true→r.1.Kind=3∧r.1.Id=a1∧r.1.Cn=a2.Cn∧r.1.Sn=a2.Sn):=by
 unfold Fj;refine have:=LC ha;have Q5:=@zaf a2 ha;
 .j0 (.c (λh1=> .kt (.s ⟨?_,?_,?_⟩))
  λh1=> .m (nA ?_) (.c (λh2=> .s ⟨?_,?_,?_⟩)
  λh2=>have:=LC (nf h2); .b (ziz ?_ ?_ ?_) λr4 NV=> .c (λh3=> .s ⟨?_,?_,?_⟩)
  λh3=> .m (nA ?_) (.m (nA ?_) (.m (nA ?_) (.s ⟨?_,?_,?_⟩)))))
 all_goals first|trivial|((try simp only[NB]at *)<;>omega)|grind [eA,mA,TA,nB]
def zhQ{a0 a1}(ha:rB a0=true):Ok (Bv a0 a1) λr=>rB r=true∧(r.Role=a0.Role∧r.Sn=a0.Sn∧r.Next=a0.Next):=by
 unfold Bv;refine have:=SC ha;
 .m (nA ?_) (.j (λy2:Bool=>True) (λy2 lW=> .j0 (.c (λh1=> .s ⟨?_,?_⟩)
  λh1=> .s ⟨?_,?_⟩))
  λk3 CV=> .m (nA ?_) (.c (λh2=>have:=SC h2; .c (λh3=> .c (λh4=> .c (λh5=>CV _ ?_)
  λh5=>CV _ ?_)
  λh4=>CV _ ?_)
  λh3=>CV _ ?_)
  λh2=>CV _ ?_))
 all_goals first|trivial|((try simp only[NB]at *)<;>omega)|grind [eA,mA,rB,DG,UF]
def zok{a0 a1}:Ok (Dv a0 a1) λr=>r=true→a0.On=true∧mD a0=true∧eA a1 0 1000000=true:=by
 unfold Dv
 refine .j0 (.c (λh1=> .c (λh2=> .c (λh3=> .s ?_)
  λh3=> .s ?_)
  λh2=> .s ?_)
  λh1=> .s ?_)
 all_goals first|trivial|((try simp only[NB]at *)<;>omega)|grind [eA,mA]
def zhM{a0 a1}(ha:mD a0=true):Ok (Fk a0 a1) λr=>mD r.1=true∧(r.2=0→r.1=a0)∧(r.2≠2→r.1.On=a0.On)∧(r.2≠0→a0.On=true):=by
 unfold Fk;refine have hw:=@zw8 a0 ha;have hm:=zgF (GB .i64 2 a0.Wait) 8;have h1:=@DA a0.Tries 1;have h2:=@zxi a0.Wait;have h3:=@DA a1 (HD (GB .i64 2 a0.Wait) 8);
 .b zok λr1 LV=> .c (λh1=> .s ⟨?_,?_,?_,?_⟩)
  λh1=> .c (λh2=> .s ⟨?_,?_,?_,?_⟩)
  λh2=> .s ⟨?_,?_,?_,?_⟩
 all_goals first|trivial|((try simp only[NB]at *)<;>(try simp(disch:=omega) only[DA,RA]at *)<;>omega)|grind [eA,mA,mD,GF]
def zpG{a0 a1}(ha:fB a0=true)(hb:a0.St=3)(hc:eA a1 0 1000000=true):Ok (Ir a0 a1) λr=>fB r.1=true∧(r.1.Id=a0.Id∧r.1.Psk=a0.Psk∧r.1.At=a0.At)∧WB r.2.2∧r.2.2.length≤6∧(r.2.1.length≤1∧wt r.2.1≤400):=by
 unfold Ir;refine have:=RD ha;have hc:=HT ha hb;have:=SC hc.1;
 .c (λh1=> .b (zbw ?_) λr1 LV=> .b (zbf ?_ ?_ ?_) λr2 jW=> .s ⟨?_,?_,?_,?_,?_⟩)
  λh1=> .m (nA ?_) (.b (zhQ ?_) λr4 NV=> .b (zhM ?_) λr5 MV=> .c (λh2=> .s ⟨?_,?_,?_,?_,?_⟩)
  λh2=> .j (λy6:Ae=>fB y6=true∧(y6.Id=a0.Id∧y6.Psk=a0.Psk∧y6.At=a0.At)∧y6.St=3) (λy6 rZ=>have:=RD rZ.1;have hc6:=HT rZ.1 rZ.2.2; .b (zhY ?_) λr9 tX=> .c (λh3=> .s ⟨?_,?_,?_,?_,?_⟩)
  λh3=> .b (nM ?_ ?_) λr10 tW=> .s ⟨?_,?_,?_,?_,?_⟩)
  λk7 CW=> .c (λh4=> .b zaK λr8 RW=>CW _ ⟨?_,?_,?_⟩)
  λh4=>CW _ ⟨?_,?_,?_⟩)
 all_goals first|trivial|((try simp only[NB]at *)<;>(try simp(disch:=omega) only[DA,RA]at *)<;>omega)|grind [eA,mA,fB,lD,rC,uH]
def zn7{a0 a1}(ha:fB a0=true):Ok (Gp a0 a1) λr=>fB r.1=true∧(r.1.Id=a0.Id∧r.1.Psk=a0.Psk∧r.1.At=a0.At)∧WB r.2.2∧r.2.2.length≤6∧(r.2.1.length≤1∧wt r.2.1≤400):=by
 unfold Gp;refine have:=RD ha;
 .m (nA ?_) (.j0 (.m (nA ?_) (.c (λh1=> .kt (.s ⟨?_,?_,?_,?_,?_⟩))
  λh1=>have:=RD (nf h1); .c (λh2=> .kt (.s ⟨?_,?_,?_,?_,?_⟩))
  λh2=> .c (λh3=> .s ⟨?_,?_,?_,?_,?_⟩)
  λh3=> .c (λh4=> .b (zpG ?_ ?_ ?_) λr5 MV=> .s ⟨?_,?_,?_,?_,?_⟩)
  λh4=> .b (zhM ?_) λr6 AW=> .c (λh5=> .b (zbw ?_) λr7 IW=> .m (nA ?_) (.s ⟨?_,?_,?_,?_,?_⟩))
  λh5=> .jt (λy10=> .c (λh6=> .b (zih ?_) λr12 TX=> .s ⟨?_,?_,?_,?_,?_⟩)
  λh6=> .c (λh7=> .m (nA ?_) (.s ⟨?_,?_,?_,?_,?_⟩))
  λh7=> .s ⟨?_,?_,?_,?_,?_⟩)
  λk11 cW=> .c (λh8=>cW _)
  λh8=>cW _)))
 all_goals first|trivial|((try simp only[NB]at *)<;>omega)|grind [eA,mA,fB,oJ,lD,rC,gC,RC,ND,EA]
def zn4{a0 a1 a2}(ha:fB a0=true)(hb:TA a2=true)(hc:a2.Kind=2)(hd:a0.St=1)(he:a2.Cn=a0.Cn)(hf:eA a1 0 1000000=true):Ok (Jp a0 a1 a2) λr=>fB r.1=true∧(r.1.Id=a0.Id∧r.1.Psk=a0.Psk∧r.1.At=a0.At)∧WB r.2.2∧r.2.2.length≤6∧(r.2.1.length≤1∧wt r.2.1≤400):=by
 unfold Jp;refine have:=RD ha;have C3:=zzn ha hd;have hf:=zaf hb hc;
 .m (nA ?_) (.b (zoM ?_ ?_) λr2 jW=> .c (λh1=> .s ⟨?_,?_,?_,?_,?_⟩)
  λh1=> .b zaK λr3 sW=> .b (zhZ ?_ ?_ ?_) λr4 NV=> .b (zh4 ?_ ?_ ?_) λr5 MV=>have:=SC MV.1; .m (nA ?_) (.m (nA ?_) (.b zem λr8 RW=> .b (zep ?_ ?_ ?_) λr9 tX=> .b (zeX ?_ ?_) λr10 tW=> .m (nA ?_) (.s ⟨?_,?_,?_,?_,?_⟩))))
 all_goals first|trivial|((try simp only[NB]at *)<;>omega)|grind [eA,mA,fB,oJ,lD,rC,gC,RC,ND,EA]
def zof{a0 a1 a2}(ha:fB a0=true)(hb:TA a2=true)(hc:nB a2.Kind=true)(hd:a0.St=2∨a0.St=3)(he:eA a1 0 1000000=true):Ok (Ip a0 a1 a2) λr=>fB r.1=true∧(r.1.Id=a0.Id∧r.1.Psk=a0.Psk∧r.1.At=a0.At)∧WB r.2.2∧r.2.2.length≤6∧(r.2.1.length≤1∧wt r.2.1≤400):=by
 unfold Ip;refine have:=RD ha;have hfs:=zgL hb hc;have A9:=LC hb;have B9:=zmw ha hd;have:=SC B9.1;
 .m (nA ?_) (.b (zaH ?_ ?_) λr2 jW=>have:=SC jW.1; .c (λh1=> .s ⟨?_,?_,?_,?_,?_⟩)
  λh1=> .b (ziu ?_) λr3 sW=> .b (AP ?_) λr4 NV=> .b (zbC ?_ ?_ ?_) λr5 MV=>have:=jT MV; .j (λy6:(List Ad)×Ae=>WB y6.1∧y6.1.length≤2∧(y6.2.Id=a0.Id∧y6.2.Psk=a0.Psk∧y6.2.At=a0.At∧y6.2.C=r2.1∧y6.2.R=a0.R∧y6.2.St=3∧y6.2.Cn=a0.Cn∧y6.2.Last=a1)∧(HF y6.2.Fin=true∧GF y6.2.T=true)) (λy6 rZ=>have:=eE rZ.1; .j (λy12:(List Ad)×Ae=>WB y12.1∧y12.1.length≤3∧fB y12.2=true∧(y12.2.Id=a0.Id∧y12.2.Psk=a0.Psk∧y12.2.At=a0.At∧y12.2.C=r2.1∧y12.2.St=3)) (λy12 wY=>have:=eE wY.1; .j (λy17:(List Ad)=>WB y17∧y17.length≤4) (λy17 D1=>have:=eE D1.1; .c (λh2=> .s ⟨?_,?_,?_,?_,?_⟩)
  λh2=> .b (yP ?_ ?_) λr21 P2=>have:=SC P2.1;have hh:=P2.2.2.2; .c (λh3=> .s ⟨?_,?_,?_,?_,?_⟩)
  λh3=> .m (nA ?_) (.b (nM ?_ ?_) λr23 T2=>have HW:WB [r23,(⟨8,0,0,[],r21.2.1.Sn,r21.2.1.Epoch,0,r2.2.1,[],(⟨0,0⟩:Af),0⟩:Ad)]:=lD.2 ⟨T2,lD.2 ⟨(by grind [gC,RC,ND,eA,EA,uH]),rC⟩⟩;have:=eE HW;have hno2:=sE.2 ⟨D1.1,HW⟩; .g ?_ (.s ⟨?_,?_,?_,?_,?_⟩)))
  λk18 eX=> .c (λh4=> .m (nA ?_) (.g ?_ (eX _ ⟨?_,?_⟩)))
  λh4=>eX _ ⟨?_,?_⟩)
  λk13 TV=> .c (λh5=> .m (nA ?_) (.m (nA ?_) (.g ?_ (TV _ ⟨?_,?_,?_,?_⟩))))
  λh5=>TV _ ⟨?_,?_,?_,?_⟩)
  λk7 CW=> .c (λh6=> .m (nA ?_) (.m (nA ?_) (.m (nA ?_) (.g ?_ (CW _ ⟨?_,?_,?_,?_⟩)))))
  λh6=>CW _ ⟨?_,?_,?_,?_⟩)
 all_goals first|trivial|assumption|((try simp only[NB]at *)<;>omega)|grind [eA,mA,fB,oJ,lD,rC,sE,gC,RC,ND,EA,HF,GF,mD]
def zhK{a0 a1 a2}(ha:fB a0=true)(hb:TA a2=true)(hc:eA a1 0 1000000=true):Ok (Ej a0 a1 a2) λr=>fB r.1=true∧(r.1.Id=a0.Id∧r.1.Psk=a0.Psk∧r.1.At=a0.At)∧WB r.2.2∧r.2.2.length≤6∧(r.2.1.length≤1∧wt r.2.1≤400):=by
 unfold Ej;refine have:=RD ha;have:=LC hb;
 .j0 (.m (nA ?_) (.c (λh1=> .kt (.m (nA ?_) (.s ⟨?_,?_,?_,?_,?_⟩)))
  λh1=>have:=RD (nf h1); .c (λh2=> .kt (.m (nA ?_) (.s ⟨?_,?_,?_,?_,?_⟩)))
  λh2=> .m (nA ?_) (.c (λh3=> .m (nA ?_) (.s ⟨?_,?_,?_,?_,?_⟩))
  λh3=>have:=LC (nf h3); .j (λy6:Bool=>y6=true→a2.Kind=2∧a0.St=1∧a2.Cn=a0.Cn) (λy6 rZ=> .c (λh4=> .b (zn4 ?_ ?_ ?_ ?_ ?_ ?_) λr9 tX=> .s ⟨?_,?_,?_,?_,?_⟩)
  λh4=> .j (λy10:Bool=>y10=true→nB a2.Kind=true∧(a0.St=2∨a0.St=3)) (λy10 VX=> .c (λh5=> .b (zof ?_ ?_ ?_ ?_ ?_) λr12 TX=> .s ⟨?_,?_,?_,?_,?_⟩)
  λh5=> .m (nA ?_) (.s ⟨?_,?_,?_,?_,?_⟩))
  λk11 cW=> .c (λh6=> .c (λh7=>cW _ ?_)
  λh7=>cW _ ?_)
  λh6=>cW _ ?_)
  λk7 CW=> .c (λh8=> .c (λh9=> .m (nA ?_) (CW _ ?_))
  λh9=>CW _ ?_)
  λh8=>CW _ ?_)))
 all_goals first|trivial|assumption|exact rC|((try simp only[NB]at *)<;>omega)|grind [eA,mA]
end Go.D
namespace Go.D
def zi6{a0 a1 a2 a3}(ha:wt a0≤4000000000)(hb:wt a3≤900000000):Ok (Be a0 a1 a2 a3) λr=>(NA a0=true→NA r.1=true)∧(∃m,r.1.Notes=a0.Notes++m)∧wt r.1≤wt a0+100000∧wt r.2≤1000∧(NA a0=true→a1=0→SI r.2 SB)∧(NA a0=true→∀c,a1≠0→a0.Clients[(oA .i64 a1 1).toNat]?=some c→SI r.2 c.At∧oP r.2)∧(NA a0=false→r.1=a0∧r.2=[])∧r.1.Now=a0.Now:=by
 unfold Be
 refine .m (nA ?_) (.j0 (.m (nA ?_) (.c (λh1=> .kt (.s ⟨?_,?_,?_,?_,?_,?_,?_,?_⟩))
  λh1=>have:=tL (nf h1);have T1:=nf h1;have W:=UB.1 T1;have:=W.srv; .c (λh2=> .kt (.s ⟨?_,?_,?_,?_,?_,?_,?_,?_⟩))
  λh2=> .c (λh3=> .s ⟨?_,?_,?_,?_,?_,?_,?_,?_⟩)
  λh3=>have:=EF (nf h3); .c (λh4=> .b (zhJ ?_ ?_) λr5 MV=>have:=eE MV.2.2.2.2.1;have:=BF MV.1;have C9:=zfy T1 MV.1 MV.2.1 MV.2.2.2.2.1; .g ?_ (.b (zeB ?_ ?_) λr6 AW=> .s ⟨?_,?_,?_,?_,?_,?_,?_,?_⟩))
  λh4=> .b (zey ?_) λr7 IW=> .c (λh5=> .s ⟨?_,?_,?_,?_,?_,?_,?_,?_⟩)
  λh5=> .bi ?_ ?_ λe8 N3 N2=>have ce:=zK T1 (List.mem_of_getElem? N3);have cf:=RD ce; .b (zhK ?_ ?_ ?_) λr9 tX=>have:=eE tX.2.2.1;have:=RD tX.1;have hwc:=zb9 T1 N3 tX.1 tX.2.1.1 tX.2.1.2.1 tX.2.2.1; .h ?_ (.m N3 (.g ?_ (.b (zaG ?_ ?_) λr11 NW=>have hw11:∀c,a1≠0→a0.Clients[(oA .i64 a1 1).toNat]?=some c→SI r11 c.At∧oP r11:=λc _ hc=>(by have e:=Option.some.inj (N3.symm.trans hc);subst e;have:=NW.2 (by rw[tX.2.1.2.2];exact zdO ce);rwa [tX.2.1.2.2]at this); .s (have:=AD a0.Clients ((oA .i64 a1 1).toNat) r9.1;⟨?_,?_,?_,?_,?_,?_,?_,?_⟩)))))))
 all_goals first|trivial|exact⟨[],(List.append_nil _).symm⟩|exact⟨_,rfl⟩|assumption|exact λ_ _=>zlv|exact λ_ _ _ _=>⟨zlv,zvy⟩|exact λ_ _=>AW.2|exact MV.2.2.1|exact λk=>absurd T1 (by rw[k];decide)|exact λ_=>C9|exact λ_=>hwc|exact λ_ _=>AW|exact λ_=>hw0|exact λ_=>hw11|((try simp only[NB,pP]at *)<;>(try simp(disch:=omega) only[DA,RA]at *)<;>omega)|grind [eA,mA]
end Go.D
namespace Go.D
def zpc{a0 a1}(ha:VB a0=true):Ok (En a0 a1) λr=>VB r=true∧r.At=a0.At:=by
 unfold En;refine have:=oI ha;
 .j0 (.c (λh1=> .kt (.m (nA ?_) (.s ⟨?_,?_⟩)))
  λh1=>have:=oI (nf h1); .c (λh2=> .m (nA ?_) (.s ⟨?_,?_⟩))
  λh2=> .b (zhG ?_) λr4 NV=> .s ⟨?_,?_⟩)
 all_goals first|trivial|((try simp only[NB]at *)<;>omega)|grind [eA,mA]
def zeV{a0}(ha:TB a0=true):Ok (Em a0) λr=>BE a0 r∧r.Dead=true:=by
 unfold Em;refine have:=fF ha;
 .m (nA ?_) (.c (λh1=> .m (nA ?_) (.s ⟨?_,?_⟩))
  λh1=>have:=BL (nf h1); .m (nA ?_) (.m (nA ?_) (.s ⟨?_,?_⟩)))
 all_goals first|trivial|((try simp only[NB]at *)<;>omega)|grind [eA,mA,BE,TB,oC,UF,IA]
def zo6{a0 a1}(ha:TB a0=true):Ok (Gq a0 a1) λr=>BE a0 r:=by
 unfold Gq;refine have:=fF ha;have hl:=@kN a0 ha;have:=pO ha;
 .m (nA ?_) (.j0 (.m (nA ?_) (.c (λh1=> .kt (.s ?_))
  λh1=>have:=BL (nf h1); .c (λh2=> .kt (.s ?_))
  λh2=>have hd:=h2;have hl:=hl h2; .c (λh3=> .s ?_)
  λh3=> .c (λh4=> .b (zeV ?_) λr5 MV=> .s ?_)
  λh4=> .b (zhQ ?_) λr6 AW=> .b (zpc ?_) λr7 IW=>have hR:=λe=>TM (a:=a0) (c:=r6) (p:=r7) (l:=a0.Last) ha AW.1 (AW.2.1.trans hl.2.1) (AW.2.2.1.trans hl.2.2.1) IW.1 hl.2.2.2.2.2 e; .s ?_)))
 all_goals first|trivial|((try simp only[NB]at *)<;>(try simp(disch:=omega) only[DA,RA]at *)<;>omega)|grind [eA,mA]
def zpx{a0 a1}(ha:GC a0=true):Ok (Gr a0 a1) λr=>GC r=true∧Tk a0.L r.L:=by
 have hL:=yB;have hf:=LL ha;have T:=JE.1 ha
 have tr:Tk a0.L a0.L:=by
  have:∀l:List Ah,(∀e∈l,TB e=true)→F2 l l:=λl=>by
   induction l with
   | nil=>exact λ_=> .nil
   | cons e l ih=>exact λh=> .cons (pO (h e List.mem_cons_self)) (ih λx hx=>h x (List.mem_cons_of_mem _ hx))
  exact⟨_, .refl _,this _ T.el⟩
 unfold Gr;refine .j0 (.m (nA (by omega)) (.c (λ_=> .kt (.m (nA (by omega)) (.s ⟨ha,tr⟩))) λ_=> .c (λ_=> .m (nA (by omega)) (.s ⟨ha,tr⟩)) λ_=>?_));refine .j (λy:Ao=>y.Cap=a0.Cap∧Tk a0.L y.L) (λy hy=> .s ⟨?_,hy.2⟩) λk hk=> .l (λx:Int×Ao=>∃i:Nat,x.1=(i:Int)∧i≤a0.L.length∧x.2.Cap=a0.Cap∧Tk (a0.L.take i) x.2.L∧x.2.L.length≤i∧wt x.2.L≤240 *i) (λx:Int×Ao=>((a0.L.length:Int) - x.1).toNat) (λx hx k' vW=>?_) ⟨0,rfl,Nat.zero_le _,rfl,zwX,Nat.le_refl _,Nat.le_refl _⟩ (by simp only;omega)
 ·have:=zxl ha hy.2;rwa [←hy.1]at this
 ·obtain⟨i,h1,h2,h3,h4,h5,h6⟩:=hx;refine .c (λh=>?_) λh=>hk _ ⟨h3,?_⟩
  ·simp only[B]at h;have R3:fA .i64 x.1 1=((i+1:Nat):Int):=by rw[h1,DA (by omega) (by omega)];omega
   refine .bi (by omega) (by omega) λe he hew=> .b (zo6 (T.el e (List.mem_of_getElem? he))) λr hr=>?_;rw[show x.1.toNat=i by omega]at he;have ht:=take_succ he;have hs:=fF hr.1;refine .jt (λy=> .j (λy:Ao=>y.Cap=a0.Cap∧Tk (a0.L.take (i+1)) y.L∧y.L.length≤i+1∧wt y.L≤240 *(i+1)) (λy hy=>vW _ ⟨i+1,R3,by omega,hy.1,hy.2.1,hy.2.2.1,hy.2.2.2⟩ (by simp only[R3];omega)) λk2 BV=> .c (λ_=> .g ?_ (BV _ ⟨h3,?_,?_,?_⟩)) λ_=>BV _ ⟨h3,?_,by omega,by omega⟩) λk2 BV=> .c (λ_=>BV _) λ_=>BV _
   ·simp only[N]at hs⊢;omega
   ·rw[ht];exact zwE h4 hr
   ·simp only[N]at hs⊢;omega
   ·simp only[N]at hs⊢;omega
   ·rw[ht];exact zv2 e h4
  ·simp only[B]at h;rw[show a0.L.take i=a0.L from List.take_of_length_le (by omega)]at h4;exact h4
def zhI{a0 a1}(ha:wB a0=true):Ok (Gs a0 a1) λr=>wB r.1=true∧r.1.Psks=a0.Psks∧WB r.2∧r.2.length≤12:=by
 unfold Gs;refine have:=BF ha;have S:=nE.1 ha;have:=S.tab;have T:=JE.1 S.tab;have hw:=QB a0.T.L;have:=T.len;
 .m (nA ?_) (.j0 (.m (nA ?_) (.c (λh1=> .kt (.s ⟨?_,?_,?_,?_⟩))
  λh1=>have:=BF (nf h1); .c (λh2=> .s ⟨?_,?_,?_,?_⟩)
  λh2=> .b (zpx ?_) λr5 MV=>have:=LL MV.1;have Q3:=VH (d:=⟨a0.Psks,a0.J,a0.D,r5,a0.Cr⟩) ha rfl S.jar S.dice MV.1 S.cr (λe he=>(by obtain⟨d,h1,h2⟩:=zmr MV.2 he;have e1:e.Id=d.Id:=h2.2.1;show e.Id≤(a0.Psks.length:Int);rw[e1];exact S.id d h1)); .j (λy6:(List Ad)=>WB y6∧y6.length≤12) (λy6 rZ=> .s ⟨?_,?_,?_,?_⟩)
  λk7 CW=> .l (λx8:(List Ad)×Int=>(0≤x8.2∧x8.2≤(a0.T.L.length:Int))∧WB x8.1∧(x8.1.length:Int)≤x8.2) (λx8:(List Ad)×Int=>((a0.T.L.length:Int) - x8.2).toNat) (λx8 s7 k9 wX=>have:=eE s7.2.1; .c (λh3=> .bm ?_ ?_ λe10 XY bY=>have OX:=T.el _ XY;have:=fF OX; .m (nA ?_) (have:=mO r5 e10.Sn; .j (λy12:Bool=>True) (λy12 wY=> .j (λy15:(List Ad)=>WB y15∧(y15.length:Int)≤x8.2+1) (λy15 Q0=>wX _ ⟨?_,?_,?_⟩ ?_)
  λk16 qW=> .c (λh4=> .b (zbf ?_ ?_ ?_) λr17 K0=>have:=jT K0;have HW:=sE.2 ⟨s7.2.1,lD.2 ⟨K0,rC⟩⟩; .g ?_ (qW _ ⟨?_,?_⟩))
  λh4=>qW _ ⟨?_,?_⟩)
  λk13 TV=> .c (λh5=> .c (λh6=>TV _ ?_)
  λh6=> .h ?_ (.bg ?_ λe14 P0 sZ=>TV _ ?_))
  λh5=>TV _ ?_))
  λh3=>CW _ ⟨?_,?_⟩) ⟨?_,?_,?_⟩ ?_)))
 all_goals first|trivial|assumption|exact rC|exact Q3|((try simp only[NB]at *)<;>(try simp(disch:=omega) only[DA,RA]at *)<;>omega)|grind [eA,mA]
def zi5{a0 a1}(ha:wt a0≤1000000):Ok (Is a0 a1) λr=>(YB a0=true→YB r=true)∧wt r≤wt a0:=by
 unfold Is
 refine .m (nA ?_) (.j (λy2:Bool=>y2=true→YB a0=true∧eA a1 0 10000=true) (λy2 lW=> .j (λy4:Ar=>(YB a0=true→YB y4=true)∧wt y4≤wt a0) (λy4 TZ=> .s ⟨?_,?_⟩)
  λk5 BW=> .c (λh1=>BW _ ⟨?_,?_⟩)
  λh1=>BW _ ⟨?_,?_⟩)
  λk3 CV=> .c (λh2=>have:=zf4 h2;CV _ ?_)
  λh2=>CV _ ?_)
 all_goals first|trivial|((try simp only[NB]at *)<;>omega)|grind [eA,mA,YB]
def zrO{a0 a1}(ha:wt a0≤500000000)(hb:wt a1≤1000):Ok (Iu a0 a1) λr=>r=a0∨r=a0++[a1]∧DD r=true:=by
 unfold Iu
 refine .g ?_ (.g ?_ (.m (nA ?_) (.c (λh1=> .m (nA ?_) (.s ?_))
  λh1=>have:=zci (nf h1); .s ?_)))
 all_goals first|trivial|exact .inl rfl|((try simp only[NB]at *)<;>omega)|grind [eA,mA]
def zim{a0}:Ok (Ea a0) λr=>r=true→1≤a0.Kind∧a0.Kind≤10∧a0.B.length≤200∧0≤a0.I∧0≤a0.J:=by
 unfold Ea
 refine .j0 (.c (λh1=> .c (λh2=> .c (λh3=> .s ?_)
  λh3=> .s ?_)
  λh2=> .s ?_)
  λh1=> .s ?_)
 all_goals first|trivial|((try simp only[NB]at *)<;>omega)|grind [eA,mA]
def zer{a0}:Ok (Jn a0) λr=>0≤r∧r≤3∧((a0=4∨a0=9)→r=1)∧((a0=5∨a0=6∨a0=7∨a0=8)→r=2)∧(a0=10→r=3):=by
 by_cases h:4≤a0∧a0≤10
 ·have:a0=4∨a0=5∨a0=6∨a0=7∨a0=8∨a0=9∨a0=10:=by omega
  rcases this with rfl|rfl|rfl|rfl|rfl|rfl|rfl<;>exact⟨_,rfl,by decide⟩
 ·have e:∀k:Int,4≤k→k≤10→(a0==k)=false:=λk _ _=>beq_false_of_ne (by omega);refine⟨0,?_,by omega⟩;simp[Jn,aA,e]
def zqw{a0 a1}(ha:a0.length≤1000000)(hb:a0.length=a1.length):Ok (Jb a0 a1) λr=>r.length≤a0.length:=by
 unfold Jb
 refine .j (λy1:(List UInt8)=>y1.length≤a0.length) (λy1 XV=> .s ?_)
  λk2 BV=> .l (λx3:(List UInt8)×Int=>0≤x3.2∧x3.2≤(a0.length:Int)∧(x3.1.length:Int)=x3.2) (λx3:(List UInt8)×Int=>((a0.length:Int) - x3.2).toNat) (λx3 aY k4 bW=> .c (λh1=> .bi ?_ ?_ λe5 iX dX=> .bi ?_ ?_ λe6 jY kX=> .g ?_ (bW _ ?_ ?_))
  λh1=>BV _ ?_) ?_ ?_
 all_goals first|trivial|((try simp only[NB]at *)<;>(try simp(disch:=omega) only[DA,RA]at *)<;>omega)|grind [eA,mA]
def zpL{a0 a1 a2 a3}(ha:wt a0≤300000)(hb:wt a1≤4000)(hc:wt a2≤20000)(hd:wt a3≤1000)(he:0≤a0.I)(hf:((a0.Kind=4∨a0.Kind=9)→1≤a1.length)∧((a0.Kind=5∨a0.Kind=6∨a0.Kind=7∨a0.Kind=8)→2≤a1.length)∧(a0.Kind=10→3≤a1.length)):Ok (Jc a0 a1 a2 a3) λr=>r.1.length≤500000:=by
 unfold Jc
 refine .c (λh1=> .s ?_)
  λh1=> .j0 (.c (λh2=> .c (λh3=> .bi ?_ ?_ λe3 d5 O2=> .s ?_)
  λh3=> .s ?_)
  λh2=> .j0 (.c (λh4=> .c (λh5=> .bi ?_ ?_ λe6 jY kX=> .s ?_)
  λh5=> .s ?_)
  λh4=> .c (λh6=> .bi ?_ ?_ λe7 UZ yY=> .m (nA ?_) (have:=zxe e7 a0.I a0.J; .s ?_))
  λh6=> .c (λh7=> .bi ?_ ?_ λe9 qZ gY=> .bi ?_ ?_ λe10 XY bY=> .m (nA ?_) (have:=BI [e9,e10]; .s ?_))
  λh7=> .j0 (.c (λh8=> .bi ?_ ?_ λe14 P0 sZ=> .bi ?_ ?_ λe15 DY EY=> .c (λh9=> .bi ?_ ?_ λe16 b5 O3=>match(Option.some.inj (P0.symm.trans b5):e14=e16)with|rfl=>(.bi ?_ ?_ λe17 he17 he17w=>match(Option.some.inj (DY.symm.trans he17):e15=e17)with|rfl=>(.b (zqw ?_ ?_) λr18 xY=> .s ?_)))
  λh9=> .s ?_)
  λh8=> .c (λgW=> .bi ?_ ?_ λe19 he19 he19w=> .bi ?_ ?_ λe20 he20 he20w=>have hhm:=FL e19 e20; .s ?_)
  λgW=> .c (λrW=> .bi ?_ ?_ λe22 KZ P3=> .bi ?_ ?_ λe23 he23 F7=> .b SU λr24 UX=> .s ?_)
  λrW=> .c (λFW=> .bi ?_ ?_ λe25 he25 j8=> .m (nA ?_) (have:=GM e25 [114,101,107,101,121];have:=@xL e25 [114,101,107,101,121]; .s ?_))
  λFW=> .c (λXW=> .bi ?_ ?_ λe27 he27 m8=> .bi ?_ ?_ λe28 he28 D7=> .bi ?_ ?_ λe29 kY v8=> .b (zfl ?_ ?_) λr30 o5=> .s ?_)
  λXW=> .s ?_)))
 all_goals first|trivial|((try simp only[NB]at *)<;>omega)|grind [eA,mA]
def zeW{a0 a1 a2}(ha:wt a0≤300000)(hb:wt a1≤20000)(hc:wt a2≤1000):Ok (Ij a0 a1 a2) λr=>r.1.length≤10000:=by
 unfold Ij;refine have hla:=QB a0;
 .c (λh1=> .s ?_)
  λh1=>have qY:a0.length≤16:=(by have:=h1;simp only[B]at this;omega); .j (λy1:(List (List UInt8))=>wt y1≤3300) (λy1 XV=>have hyw:=QB y1; .c (λh2=> .s ?_)
  λh2=> .h ?_ (.bg ?_ λe15 DY EY=> .m (nA ?_) (.s ?_)))
  λk2 BV=> .l (λx3:(List (List UInt8))×Int=>0≤x3.2∧x3.2≤(a0.length:Int)∧wt x3.1≤201 *x3.2) (λx3:(List (List UInt8))×Int=>((a0.length:Int) - x3.2).toNat) (λx3 aY k4 bW=>have hpw:=QB x3.1; .c (λh3=> .bi ?_ ?_ λe5 iX dX=> .b zer λr6 AW=>have hi:fA .i64 x3.2 1=x3.2+1:=DA (by omega) (by omega);have hdz:x3.1.drop 0=x3.1:=rfl;have hs:oA .i64 (x3.1.length:Int) r6=(x3.1.length:Int) - r6:=RA (by omega) (by omega);have hw1:=dE (x3.1.drop (oA .i64 (x3.1.length:Int) r6).toNat) ((x3.1.length:Int) - oA .i64 (x3.1.length:Int) r6).toNat;have hw2:=qF x3.1 (oA .i64 (x3.1.length:Int) r6).toNat;have hw3:=dE x3.1 (oA .i64 (x3.1.length:Int) r6).toNat; .j (λy7:Bool=>y7=false→1≤e5.Kind∧e5.Kind≤10∧e5.B.length≤200∧0≤e5.I∧r6≤(x3.1.length:Int)) (λy7 MY=> .c (λh4=> .s ?_)
  λh4=> .h ?_ (.b (zpL (have:=dE (List.drop ((oA .i64 (x3.1.length:Int) r6).toNat) x3.1) (((x3.1.length:Int) - (oA .i64 (x3.1.length:Int) r6)).toNat);have:=qF x3.1 ((oA .i64 (x3.1.length:Int) r6).toNat);?_) (have:=dE (List.drop ((oA .i64 (x3.1.length:Int) r6).toNat) x3.1) (((x3.1.length:Int) - (oA .i64 (x3.1.length:Int) r6)).toNat);have:=qF x3.1 ((oA .i64 (x3.1.length:Int) r6).toNat);?_) (have:=dE (List.drop ((oA .i64 (x3.1.length:Int) r6).toNat) x3.1) (((x3.1.length:Int) - (oA .i64 (x3.1.length:Int) r6)).toNat);have:=qF x3.1 ((oA .i64 (x3.1.length:Int) r6).toNat);?_) (have:=dE (List.drop ((oA .i64 (x3.1.length:Int) r6).toNat) x3.1) (((x3.1.length:Int) - (oA .i64 (x3.1.length:Int) r6)).toNat);have:=qF x3.1 ((oA .i64 (x3.1.length:Int) r6).toNat);?_) (have:=dE (List.drop ((oA .i64 (x3.1.length:Int) r6).toNat) x3.1) (((x3.1.length:Int) - (oA .i64 (x3.1.length:Int) r6)).toNat);have:=qF x3.1 ((oA .i64 (x3.1.length:Int) r6).toNat);?_) (have:=dE (List.drop ((oA .i64 (x3.1.length:Int) r6).toNat) x3.1) (((x3.1.length:Int) - (oA .i64 (x3.1.length:Int) r6)).toNat);have:=qF x3.1 ((oA .i64 (x3.1.length:Int) r6).toNat);?_)) λr10 tW=> .j (λy11:Bool=>y11=false→r10.1.length≤200) (λy11 A5=> .c (λh5=> .s ?_)
  λh5=> .h ?_ (.g (have:=dE (List.drop 0 x3.1) ((oA .i64 (x3.1.length:Int) r6 - 0).toNat);have:=qF x3.1 0;?_) (.g (have:=dE (List.drop 0 x3.1) ((oA .i64 (x3.1.length:Int) r6 - 0).toNat);have:=qF x3.1 0;?_) (bW _ (have:=dE (List.drop 0 x3.1) ((oA .i64 (x3.1.length:Int) r6 - 0).toNat);have:=qF x3.1 0;?_) (have:=dE (List.drop 0 x3.1) ((oA .i64 (x3.1.length:Int) r6 - 0).toNat);have:=qF x3.1 0;?_)))))
  λk12 kW=> .c (λh6=>kW _ ?_)
  λh6=> .c (λh7=>kW _ ?_)
  λh7=>kW _ ?_))
  λk8 eW=> .b zim λr9 tX=> .c (λh8=>eW _ ?_)
  λh8=>eW _ ?_)
  λh3=>BV _ ?_) ?_ ?_
 all_goals first|trivial|((try simp only[NB]at *)<;>(try simp(disch:=omega) only[DA,RA]at *)<;>omega)|grind [eA,mA,nS,TD,SG,FA]
def zhU{a0 a1}(ha:TB a0=true)(hb:wt a1≤300000):Ok (Da a0 a1) λr=>BE a0 r.1∧CE r.2.1∧(r.2.1.length≤1∧wt r.2.1≤400)∧WB r.2.2.1∧r.2.2.1.length≤2:=by
 unfold Da;refine have:=fF ha;have hl:=@kN a0 ha;have:=pO ha;
 .m (nA ?_) (.j0 (.m (nA ?_) (.c (λh1=> .kt (.s ⟨?_,?_,?_,?_,?_⟩))
  λh1=>have:=BL (nf h1); .c (λh2=> .s ⟨?_,?_,?_,?_,?_⟩)
  λh2=> .c (λh3=> .s ⟨?_,?_,?_,?_,?_⟩)
  λh3=>have hd:=h3;have hl:=hl h3; .b (yP ?_ ?_) λr5 MV=>have hS:=TM (a:=a0) (c:=r5.1) (p:=a0.P) (l:=a0.Last) ha MV.1 (MV.2.1.1.trans hl.2.1) (MV.2.1.2.1.trans hl.2.2.1) hl.2.2.2.1 hl.2.2.2.2.2 hd; .c (λh4=> .s ⟨?_,?_,?_,?_,?_⟩)
  λh4=> .m (nA ?_) (.m (nA ?_) (.b (nM ?_ ?_) λr8 RW=> .s ⟨?_,?_,?_,?_,?_⟩)))))
 all_goals first|trivial|assumption|exact rC|exact iH|((try simp only[NB]at *)<;>omega)|grind [eA,mA,uH,CO,iH,gC,RC,ND,EA,lD,rC,sE]
def zek{a0 a1 a2 a3}(ha:wB a0=true)(hb:wt a3≤300000):Ok (Gm a0 a1 a2 a3) λr=>wB r.1=true∧r.1.Psks=a0.Psks∧CE r.2.1∧(r.2.1.length≤1∧wt r.2.1≤400)∧WB r.2.2.1∧r.2.2.1.length≤2:=by
 unfold Gm;refine have:=BF ha;have S:=nE.1 ha;have:=S.tab;have hw:=QB a0.T.L;
 .m (nA ?_) (.j0 (.m (nA ?_) (.c (λh1=> .kt (.s ⟨?_,?_,?_,?_,?_,?_⟩))
  λh1=>have:=BF (nf h1); .c (λh2=> .s ⟨?_,?_,?_,?_,?_,?_⟩)
  λh2=> .j0 (.c (λh3=> .kt (.s ⟨?_,?_,?_,?_,?_,?_⟩))
  λh3=> .c (λh4=> .s ⟨?_,?_,?_,?_,?_,?_⟩)
  λh4=> .bm ?_ ?_ λe7 UZ yY=>have OX:=(JE.1 S.tab).el _ UZ;have:=fF OX; .b (zhU ?_ ?_) λr8 RW=>have:=fF RW.1.1; .c (λh5=> .s ⟨?_,?_,?_,?_,?_,?_⟩)
  λh5=> .b (zaO ?_ ?_) λr9 tX=>have Q3:=VH (d:=⟨a0.Psks,a0.J,a0.D,r9.1,a0.Cr⟩) ha rfl S.jar S.dice tX.1 S.cr (λe he=>(tX.2.1 e he).elim (S.id e) λh=>(by rw[h,RW.1.2.1];exact S.id _ UZ)); .s ⟨?_,?_,?_,?_,?_,?_⟩))))
 all_goals first|trivial|assumption|exact rC|exact iH|((try simp only[NB]at *)<;>omega)|grind [eA,mA]
def ziP{a0}(ha:wB a0=true):Ok (Ek a0) λr=>wB r.1=true∧r.1.Psks=a0.Psks∧WB r.2∧r.2.length≤2:=by
 unfold Ek;refine have:=BF ha;have S:=nE.1 ha;have:=S.dice;have:=SH a0.D;have hj:=@zlj (uC a0.D).2;have ht:=zlu (JE.1 S.tab).cap;have hl:=hj;have Q3:=λh=>VH (d:=⟨a0.Psks,TH (uC a0.D).2,(uC a0.D).1,OE a0.T.Cap,[]⟩) ha rfl (hj h) ((SH a0.D).2.2.1 S.dice) ht rfl (λe h=>(by have h:e∈(OE a0.T.Cap).L:=h;rw[ziK (JE.1 S.tab).cap]at h;cases h));have:=zcr (uC a0.D).2;have:=zfx a0.T.Cap;
 .m (nA ?_) (.j0 (.m (nA ?_) (.c (λh1=> .kt (.s ⟨?_,?_,?_,?_⟩))
  λh1=>have:=BF (nf h1); .c (λh2=> .s ⟨?_,?_,?_,?_⟩)
  λh2=> .m (nA ?_) (have:=SH a0.D; .m (nA ?_) (have:=zcm (uC a0.D).2;have:=@zbI (uC a0.D).2; .m (nA ?_) (.s ⟨?_,?_,?_,?_⟩))))))
 all_goals first|trivial|assumption|exact rC|((try simp only[NB]at *)<;>omega)|grind [eA,mA,gF,gC,RC,ND,EA,lD,rC,sE]
def zhH{a0 a1}(ha:wB a0=true):Ok (Gn a0 a1) λr=>wB r.1=true∧r.1.Psks=a0.Psks∧WB r.2.1∧r.2.1.length≤1:=by
 unfold Gn;refine have:=BF ha;have S:=nE.1 ha;have:=S.tab;have hw:=QB a0.T.L;
 .m (nA ?_) (.m (nA ?_) (.c (λh1=> .s ⟨?_,?_,?_,?_⟩)
  λh1=>have:=BF (nf h1); .j0 (.c (λh2=> .kt (.s ⟨?_,?_,?_,?_⟩))
  λh2=> .c (λh3=> .kt (.s ⟨?_,?_,?_,?_⟩))
  λh3=> .bm ?_ ?_ λe5 iX dX=> .c (λh4=> .s ⟨?_,?_,?_,?_⟩)
  λh4=> .bm ?_ ?_ λe6 jY kX=>have OX:=(JE.1 S.tab).el _ jY;have:=fF OX; .b (zeV ?_) λr7 IW=>have:=fF IW.1.1; .b (zaO ?_ ?_) λr8 RW=>have Q3:=VH (d:=⟨a0.Psks,a0.J,a0.D,r8.1,a0.Cr⟩) ha rfl S.jar S.dice RW.1 S.cr (λe he=>(RW.2.1 e he).elim (S.id e) λh=>(by rw[h,IW.1.2.1];exact S.id _ jY)); .b (zbf ?_ ?_ ?_) λr9 tX=> .s ⟨?_,?_,?_,?_⟩)))
 all_goals first|trivial|assumption|exact rC|((try simp only[NB]at *)<;>omega)|grind [eA,mA,lD,rC]
def zpX{a0}(ha:wt a0≤1000000):Ok (Iq a0) λr=>wt r≤400∧(∀b∈r,b.length=32):=by
 unfold Iq
 refine .m (nA ?_) (.c (λh1=> .s ⟨?_,?_⟩)
  λh1=>have:=SC (nf h1); .j (λy2:(List (List UInt8))=>wt y2≤200∧(∀b∈y2,b.length=32)) (λy2 lW=> .m (nA ?_) (.g ?_ (.j (λy6:(List (List UInt8))=>wt y6≤400∧(∀b∈y6,b.length=32)) (λy6 rZ=> .s ⟨?_,?_⟩)
  λk7 CW=> .c (λh2=> .m (nA ?_) (.g ?_ (CW _ ⟨?_,?_⟩)))
  λh2=>CW _ ⟨?_,?_⟩)))
  λk3 CV=> .c (λh3=> .m (nA ?_) (.g ?_ (CV _ ⟨?_,?_⟩)))
  λh3=>CV _ ⟨?_,?_⟩)
 all_goals first|trivial|((try simp only[NB]at *)<;>omega)|grind [eA,mA,rB,DG,cC]
end Go.D
namespace Go.D
def XO{w:Aa}(h:NA w=true):wt w≤22600+wt w.Notes:=by
 have:=tL h;simp only[N,pP]at this⊢;omega
structure TkP(a0:Aa)(i:Nat)(l:List Al)(w:Aa):Prop where
 ok:NA w=true
 now:w.Now=a0.Now+1
 notes:∃m,w.Notes=a0.Notes++m∧m.length≤6 *i
 wires:∀x∈l,tD x=true∧x.To=SB∧∃j c,j<i∧w.Clients[j]?=some c∧x.From=c.At
 wl:wt l≤201 *i
def TkP.wt{a0:Aa}{i:Nat}{l:List Al}{w:Aa}(h:TkP a0 i l w):wt w.Notes≤wt a0.Notes+942 *i∧wt w≤22600+wt a0.Notes+942 *i:=by
 obtain⟨m,h1,h2⟩:=h.notes;have hn:=(UB.1 h.ok).notes;have hw:=XO h.ok;rw[h1]at hn hw⊢;have:=eE (sE.1 hn).2;simp only[N]at hw⊢;omega
def zpn{a0}(ha:wt a0≤800000000):Ok (Ds a0) λr=>(NA a0=true→NA r.1=true)∧(∃m,r.1.Notes=a0.Notes++m)∧wt r.1≤wt a0+120000∧wt r.2≤1000∧
  (NA a0=true→∀x∈r.2,tD x=true∧x.To=SB∧∃c∈r.1.Clients,x.From=c.At)∧(NA a0=true→a0.Now≠1000000→r.1.Now=a0.Now+1)∧(NA a0=false∨a0.Now=1000000→r.1=a0∧r.2=[]):=by
 have hL:=yB
 have hz:∀(_:NA a0=false∨a0.Now=1000000),Ok (some (a0,([]:List Al))) λr=>(NA a0=true→NA r.1=true)∧(∃m,r.1.Notes=a0.Notes++m)∧wt r.1≤wt a0+120000∧wt r.2≤1000∧
   (NA a0=true→∀x∈r.2,tD x=true∧x.To=SB∧∃c∈r.1.Clients,x.From=c.At)∧(NA a0=true→a0.Now≠1000000→r.1.Now=a0.Now+1)∧(NA a0=false∨a0.Now=1000000→r.1=a0∧r.2=[]):=λh=>
  .s ⟨id,⟨[],(List.append_nil _).symm⟩,Nat.le_add_right _ _,Nat.zero_le _,(λ_ _ h=>nomatch h),λh1 h2=>(h.elim (λh=>absurd h (by rw[h1];decide)) λh=>absurd h h2),λ_=>⟨rfl,rfl⟩⟩
 unfold Ds;refine .m (nA (by omega)) (.j0 (.m (nA (by omega)) (.c (λh1=> .kt (hz (.inl (by simpa using h1)))) λh1=> .c (λh2=>hz (.inr (by simpa using h2))) λh2=>?_)));have T1:NA a0=true:=by simpa using h1
 have E5:a0.Now≠1000000:=by simpa using h2
 have W:=UB.1 T1;have hn:=YA.1 W.now;have hN0:wt a0.Notes≤wt a0:=by simp only[cG];omega
 refine .j (λy:List Al×Aa=>TkP a0 2 y.1 y.2) (λy hy=>?_) λk hk=> .l (λx:List Al×Int×Aa=>∃i:Nat,x.2.1=(i:Int)∧i≤2∧TkP a0 i x.1 x.2.2) (λx:List Al×Int×Aa=>(2 - x.2.1).toNat) (λx hx k' vW=>?_) ⟨0,rfl,by omega,?_⟩ (by simp only;omega)
 ·have hw:=hy.wt;have Y:=UB.1 hy.ok;refine .b (zhI Y.srv) λr hr=>?_;have D9:=eE hr.2.2.1;refine .g (by omega) ?_;have uW:=zfy hy.ok hr.1 hr.2.1 hr.2.2.1;refine .s ⟨λ_=>uW,?_,?_,by have:=hy.wl;show wt y.1≤_;omega,λ_ x hx=>?_,λ_ _=>hy.now,λh=>?_⟩
  ·obtain⟨m,h3,_⟩:=hy.notes;exact⟨m++r.2,by show y.2.Notes++r.2=_;rw[h3,List.append_assoc]⟩
  ·have h4:=XO uW;have h5:wt (y.2.Notes++r.2)=wt y.2.Notes+wt r.2:=by simp only[N]
   have h6:wt a0.Notes≤wt a0:=by simp only[cG];omega
   show wt (⟨_,_,_,_,_,_,y.2.Notes++r.2⟩:Aa)≤_
   have h4:wt (⟨y.2.Now,y.2.Clients,r.1,y.2.D,y.2.Seen,y.2.Known,y.2.Notes++r.2⟩:Aa)≤22600+wt (y.2.Notes++r.2):=h4;omega
  ·obtain⟨w1,w2,j,c,_,w3,w4⟩:=hy.wires x hx;exact⟨w1,w2,c,List.mem_of_getElem? w3,w4⟩
  ·rcases h with h | h
   ·rw[h]at T1;cases T1
   ·exact absurd h E5
 ·obtain⟨i,e1,e2,hx⟩:=hx;have hw:=hx.wt;have X:=UB.1 hx.ok;have eY:=X.cl;have WY:=W.cl;refine .c (λh3=>?_) λh3=>hk _ ?_
  ·simp only[B]at h3;have R3:fA .i64 x.2.1 1=((i+1:Nat):Int):=by rw[e1,DA (by omega) (by omega)];omega
   refine .h (by simp only[B];omega) ?_;rw[show x.2.1.toNat=i by omega];refine .bg (by omega) λe9 he hew=>?_;obtain⟨c1,c2,c3⟩:=X.ci i e9 he;refine .b (zn7 c1) λr hr=>?_;have D9:=eE hr.2.2.1;have A9:=RD hr.1;refine .h (by simp only[B];omega) (.m he (.g (by omega) (.b (zaG (by have:=A9.1;omega) (by omega)) λr12 FW=> .g (by have:=hx.wl;omega) (vW _ ⟨i+1,R3,by omega,?_⟩ (by simp only[R3];omega)))));have C9:=FW.2 (by rw[hr.2.1.2.2];exact zdO c1);refine⟨zb9 hx.ok he hr.1 hr.2.1.1 hr.2.1.2.1 hr.2.2.1,hx.now,?_,λz hz=>?_,?_⟩
   ·obtain⟨m,h4,h5⟩:=hx.notes;exact⟨m++r.2.2,by show x.2.2.Notes++r.2.2=_;rw[h4,List.append_assoc],by rw[List.length_append];omega⟩
   ·rcases List.mem_append.1 hz with hz | hz
    ·obtain⟨w1,w2,j,c,hj,w3,w4⟩:=hx.wires z hz;exact⟨w1,w2,j,c,by omega,by show(x.2.2.Clients.set i r.1)[j]?=_;rw[List.getElem?_set_ne (by omega)];exact w3,w4⟩
    ·obtain⟨w1,w2⟩:=C9.1 z hz;exact⟨w1,C9.2 z hz,i,r.1,by omega,by show(x.2.2.Clients.set i r.1)[i]?=_;rw[List.getElem?_set_self (by omega)],w2⟩
   ·have h4:=FW.1;have h5:wt (x.1++r12)=wt x.1+wt r12:=by simp only[N]
    have h6:=hx.wl;show wt (x.1++r12)≤_
    omega
  ·simp only[B]at h3;have:i=2:=by omega
   subst this;exact hx
 ·exact⟨zwM T1 E5,DA (by omega) (by omega),⟨[],(List.append_nil _).symm,Nat.le_refl _⟩,(λ_ h=>nomatch h),Nat.le_refl _⟩
end Go.D

/-
 The program's machine comes to an end; what is right stays right.
-/
import Derived.Test.YtfealdecpglcnaaGreatE1
set_option linter.all false
namespace Go.D
def zht{a0}:Ok (Bf a0) λr=>qD r=true∧(eA a0 0 1000000=true→r.On=true):=by
 unfold Bf
 refine .c (λh1=> .s ⟨?_,?_⟩)
  λh1=> .s ⟨?_,?_⟩
 all_goals first | trivial | ((try simp only[NB]at *)<;>(try simp(disch:=omega) only[DA,PA]at *)<;>omega) | grind [eA,oA,qD,yF,DA]
def zpM{a0}(ha:a0.Cn.length≤100):Ok (Fu a0) λr=>wt r≤a0.Cn.length:=by
 unfold Fu;refine .m (uA ?_) (.s ?_)
 all_goals first | trivial | ((try simp only[NB]at *)<;>omega) | grind [eA,oA]
def zej{a0 a1 a2 a3}(ha:wt a1≤1000000000):Ok (Em a0 a1 a2 a3) λr=>r.length≤25∧(0<r.length→a1.length=12):=by
 unfold Em
 refine .j0 (.c (λh1=> .kt (.s ⟨?_,?_⟩))
  λh1=> .c (λh2=> .kt (.s ⟨?_,?_⟩))
  λh2=>have:=GK (nf h2); .c (λh3=> .kt (.s ⟨?_,?_⟩))
  λh3=> .c (λh4=> .s ⟨?_,?_⟩)
  λh4=> .m (uA ?_) (have:=FG [] a2 4; .m (uA ?_) (have:=FG [] a3 6; .m (uA ?_) (have:=OI ([[UInt8.ofNat (IntKind.wrap .u8 a0:Int).toNat],a1,(AD [] a2 4),(AD [] a3 6)]:List (List UInt8)); .s ⟨?_,?_⟩))))
 all_goals first | trivial | ((try simp only[NB]at *)<;>omega) | grind [eA,oA]
def zje{a0 a1 a2}(ha:wt a1≤1000000000)(hb:wt a2≤1000000000):Ok (En a0 a1 a2) λr=>r.length≤200∧r.length≤a2.length:=by
 unfold En
 refine .j0 (.c (λh1=> .kt (.s ?_))
  λh1=> .c (λh2=> .kt (.s ?_))
  λh2=> .c (λh3=> .s ?_)
  λh3=> .b (zpF ?_) λr3 tW=> .j (λy4:(List UInt8)=>y4.length≤200∧y4.length≤a2.length) (λy4 dZ=> .s ?_)
  λk5 mW=> .l (λx6:(List UInt8)×Int=>0≤x6.2∧x6.2≤(r3.length:Int)∧(x6.1.length:Int)=x6.2) (λx6:(List UInt8)×Int=>((r3.length:Int) - x6.2).toNat) (λx6 G5 k7 UV=> .c (λh4=> .h ?_ (.bg ?_ λe8 J3 I2=> .bi ?_ ?_ λe9 HZ CY=> .g ?_ (UV _ ?_ ?_)))
  λh4=>mW _ ?_) ?_ ?_)
 all_goals first | trivial | ((try simp only[NB]at *)<;>(try simp(disch:=omega) only[DA,PA]at *)<;>omega) | grind [eA,oA]
def QO{a0 a1}(ha:wt a1≤1000000000):Ok (Cg a0 a1) λr=>r.length≤100:=by
 unfold Cg
 refine .j0 (.c (λh1=> .kt (.s ?_))
  λh1=> .c (λh2=> .kt (.s ?_))
  λh2=> .m (uA ?_) (.c (λh3=> .s ?_)
  λh3=>have:=pD (nf h3); .b (zej ?_) λr4 VV=> .m (uA ?_) (have:=OI ([[UInt8.ofNat (116:Int).toNat],r4,[UInt8.ofNat (IntKind.wrap .u8 a1.Kind:Int).toNat],a1.Body]:List (List UInt8)); .s ?_)))
 all_goals first | trivial | ((try simp only[NB]at *)<;>omega) | grind [eA,oA]
def zbH{a0 a1}:Ok (Ca a0 a1) λr=>r.length≤16∧(r.length=16∨(VC a0 a1).length=0):=by
 unfold Ca;refine have hm:=mM a0 a1;have W3:=zlO a0 a1;
 .c (λh1=> .s ⟨?_,?_⟩)
  λh1=> .h ?_ (.m (uA ?_) (.s ⟨?_,?_⟩))
 all_goals first | trivial | ((try simp only[NB]at *)<;>omega) | grind [eA,oA]
def zez{a0 a1 a2 a3 a4 a5 a6}(ha:wt a0≤1000000000)(hb:wt a2≤1000000000)(hc:wt a6≤1000000000):Ok (Dl a0 a1 a2 a3 a4 a5 a6) λr=>wt r.1≤300∧(r.1.Sn=[]∨r.1.Sn=a2)∧(r.1.Epoch=0∨r.1.Epoch=a3)∧(r.1.Seq=0∨r.1.Seq=a4):=by
 unfold Dl
 refine .m (uA ?_) (.m (uA ?_) (.j0 (.c (λh1=> .kt (.s ⟨?_,?_,?_,?_⟩))
  λh1=> .c (λh2=> .kt (.s ⟨?_,?_,?_,?_⟩))
  λh2=> .c (λh3=> .kt (.s ⟨?_,?_,?_,?_⟩))
  λh3=> .m (uA ?_) (.c (λh4=> .s ⟨?_,?_,?_,?_⟩)
  λh4=>have:=pD (nf h4); .b (zej ?_) λr7 NW=> .b (zje ?_ ?_) λr8 OW=> .b (QO ?_) λr9 dX=> .b zbH λr10 rW=> .s ⟨?_,?_,?_,?_⟩))))
 all_goals first | trivial | ((try simp only[NB,List.length_replicate]at *)<;>omega) | grind [eA,oA]
def zp0{a0 a1 a2 a3 a4}(ha:cD a0=true)(hb:wt a2≤1000000000)(hc:wt a4≤1000000000):Ok (Eo a0 a1 a2 a3 a4) λr=>cD r.1=true∧(r.1.N=a0.N∧r.1.Key=a0.Key)∧wt r.2.1≤300∧pJ r.2.1 a2:=by
 unfold Eo;refine have:=epF ha;
 .m (uA ?_) (.c (λh1=> .s ⟨?_,?_,?_,?_⟩)
  λh1=>have:=epF (nf h1); .b (zez ?_ ?_ ?_) λr2 dW=> .c (λh2=> .s ⟨?_,?_,?_,?_⟩)
  λh2=> .j0 (.c (λh3=> .c (λh4=> .s ⟨?_,?_,?_,?_⟩)
  λh4=> .c (λh5=> .s ⟨?_,?_,?_,?_⟩)
  λh5=> .b (zez ?_ ?_ ?_) λr5 QV=> .s ⟨?_,?_,?_,?_⟩)
  λh3=> .kf (.c (λh6=> .s ⟨?_,?_,?_,?_⟩)
  λh6=> .b (zez ?_ ?_ ?_) λr5 QV=> .s ⟨?_,?_,?_,?_⟩)))
 all_goals first | trivial | ((try simp only[NB]at *)<;>(try simp(disch:=omega) only[DA,PA]at *)<;>omega) | grind [eA,oA,pJ,cD,DA]
def mT{a0 a1 a2}(ha:xC a0=true)(hb:wt a2≤1000000000):Ok (Br a0 a1 a2) λr=>xC r.1=true∧(r.1.Role=a0.Role∧r.1.Sn=a0.Sn∧r.1.Next=a0.Next∧r.1.Cur.N=a0.Cur.N∧r.1.HasOld=a0.HasOld)∧wt r.2.1≤300∧pJ r.2.1 a0.Sn:=by
 unfold Br;refine have:=TD ha;
 .m (uA ?_) (.m (uA ?_) (.c (λh1=> .s ⟨?_,?_,?_,?_⟩)
  λh1=>have:=TD (nf h1); .b (zp0 ?_ ?_ ?_) λr3 tW=> .s ⟨?_,?_,?_,?_⟩))
 all_goals first | trivial | ((try simp only[NB]at *)<;>omega) | grind [eA,oA,xC,CH,pJ]
def zex{a0 a1}(ha:a0.length=32∨a0.length=0)(hb:a1.length≤100):Ok (Eq a0 a1) λr=>tC r=true:=by
 unfold Eq;refine .m (uA ?_) (.m (uA ?_) (.s ?_))
 all_goals first | trivial | ((try simp only[NB]at *)<;>omega) | grind [eA,oA,tC,uD,CE,MA,xE,RD,nF]
def LP{a0 a1}(ha:xC a0=true)(hb:wt a1≤1000):Ok (Bs a0 a1) λr=>tC r=true:=by
 unfold Bs;refine have:=TD ha;
 .b (QO ?_) λr1 OV=> .b (zex ?_ ?_) λr2 dW=> .s ?_
 all_goals first | trivial | ((try simp only[NB]at *)<;>omega) | grind [eA,oA]
def zd1{a0}:Ok (Bk a0) λr=>r.length≤6:=by
 unfold Bk
 refine .c (λh1=> .s ?_)
  λh1=> .m (uA ?_) (have:=FG [] a0 4; .s ?_)
 all_goals first | trivial | ((try simp only[NB]at *)<;>omega) | grind [eA,oA]
def zo1{a0}(ha:xC a0=true):Ok (Fv a0) λr=>xC r.1=true∧(r.1.Role=a0.Role∧r.1.Sn=a0.Sn∧r.1.Next=a0.Next∧r.1.Cur.N=a0.Cur.N∧r.1.HasOld=a0.HasOld)∧wt r.2.1≤300∧pJ r.2.1 a0.Sn:=by
 unfold Fv;refine have:=TD ha;
 .j0 (.m (uA ?_) (.c (λh1=> .kt (.m (uA ?_) (.s ⟨?_,?_,?_,?_⟩)))
  λh1=>have:=TD (nf h1); .c (λh2=> .m (uA ?_) (.s ⟨?_,?_,?_,?_⟩))
  λh2=> .b zd1 λr5 QV=> .b (mT ?_ ?_) λr6 uW=> .s ⟨?_,?_,?_,?_⟩))
 all_goals first | trivial | ((try simp only[NB]at *)<;>(try simp(disch:=omega) only[DA,PA]at *)<;>omega) | grind [eA,oA,pJ]
def ziR{a0}(ha:aC a0=true):Ok (Dm a0) λr=>aC r=true∧(r.Id=a0.Id∧r.Psk=a0.Psk∧r.At=a0.At):=by
 unfold Dm;refine have:=uG ha;
 .m (uA ?_) (.s ⟨?_,?_⟩)
 all_goals first | trivial | ((try simp only[NB]at *)<;>omega) | grind [eA,oA,aC,zF,rC,yF,MF]
def ziu{a0 a1 a2}(ha:0≤a0∧a0≤9)(hb:a1=0∨a1=1)(hc:a2.length=12∨a2.length=0):Ok (Ch a0 a1 a2) λr=>tC r=true:=by
 unfold Ch;refine .m (uA ?_) (.s ?_)
 all_goals first | trivial | ((try simp only[NB]at *)<;>omega) | grind [eA,oA,tC,uD,CE,MA,xE,RD,nF]
def zd4{a0}(ha:wt a0≤1000000000):Ok (Bg a0) λr=>r.length≤200:=by
 unfold Bg
 refine .m (uA ?_) (.c (λh1=> .s ?_)
  λh1=>have:=pD (nf h1); .c (λh2=> .m (uA ?_) (have:=OI ([[UInt8.ofNat (IntKind.wrap .u8 a0.Kind:Int).toNat],[UInt8.ofNat (IntKind.wrap .u8 a0.Id:Int).toNat],a0.Cn,(List.replicate (20:Int).toNat (UInt8.ofNat (0:Int).toNat:UInt8):List UInt8)]:List (List UInt8)); .s ?_))
  λh2=> .c (λh3=> .m (uA ?_) (have:=FG [] a0.Tick 4; .m (uA ?_) (have:=OI ([[UInt8.ofNat (IntKind.wrap .u8 a0.Kind:Int).toNat],a0.Cn,a0.Sn,(AD [] a0.Tick 4),a0.Cookie]:List (List UInt8)); .s ?_)))
  λh3=> .c (λh4=> .m (uA ?_) (have:=FG [] a0.Tick 4; .m (uA ?_) (have:=OI ([[UInt8.ofNat (IntKind.wrap .u8 a0.Kind:Int).toNat],[UInt8.ofNat (IntKind.wrap .u8 a0.Id:Int).toNat],a0.Cn,a0.Sn,(AD [] a0.Tick 4),a0.Cookie,a0.Proof]:List (List UInt8)); .s ?_)))
  λh4=> .m (uA ?_) (have:=FG [] a0.Epoch 4; .m (uA ?_) (have:=FG [] a0.Seq 6; .m (uA ?_) (have:=OI ([[UInt8.ofNat (IntKind.wrap .u8 a0.Kind:Int).toNat],a0.Sn,(AD [] a0.Epoch 4),(AD [] a0.Seq 6),a0.Tag,a0.Body]:List (List UInt8)); .s ?_))))
 all_goals first | trivial | ((try simp only[NB,List.length_replicate]at *)<;>omega) | grind [eA,oA]
def zhm{a0 a1 a2}(ha:wt a2≤1000000000):Ok (Fw a0 a1 a2) λr=>wt r≤200∧(MA a0=true→MA a1=true→LC r=true)∧(r.From=a0∧r.To=a1):=by
 unfold Fw;refine .b (zd4 ?_) λr1 OV=> .s ⟨?_,?_,?_⟩
 all_goals first | trivial | ((try simp only[NB]at *)<;>omega) | grind [eA,oA,LC]
def zha{a0 a1}(ha:wt a0≤1000000)(hb:wt a1≤1000000):Ok (Fx a0 a1) λr=>wt r≤201 *a1.length∧(MA a0.At=true→pI r a0.At∧EO r):=by
 unfold Fx;refine have hw:=JB a1;have:=zlA;
 .j (λy1:(List Am)=>wt y1≤201 *a1.length∧(MA a0.At=true→pI y1 a0.At∧EO y1)) (λy1 qW=> .s ⟨?_,?_⟩)
  λk2 JV=> .l (λx3:(List Am)×Int=>(0≤x3.2∧x3.2≤(a1.length:Int))∧wt x3.1≤201 *x3.2∧(MA a0.At=true→pI x3.1 a0.At∧EO x3.1)) (λx3:(List Am)×Int=>((a1.length:Int) - x3.2).toNat) (λx3 FY k4 TV=> .c (λh1=> .bi ?_ ?_ λe5 DX VX=> .b (zhm ?_) λr7 NW=> .g ?_ (TV _ ⟨?_,?_,?_⟩ ?_))
  λh1=>JV _ ⟨?_,?_⟩) ⟨?_,?_,?_⟩ ?_
 all_goals first | trivial | ((try simp only[NB]at *)<;>(try simp(disch:=omega) only[DA,PA]at *)<;>omega) | grind [eA,oA,pI,EO]
def zpe{a0}(ha:wt a0≤1000000)(hb:∀o∈a0,MA o.To=true):Ok (Ic a0) λr=>wt r≤201 *a0.length∧pI r tE:=by
 unfold Ic;refine have hw:=JB a0;have:=zlA;
 .j (λy1:(List Am)=>wt y1≤201 *a0.length∧pI y1 tE) (λy1 qW=> .s ⟨?_,?_⟩)
  λk2 JV=> .l (λx3:(List Am)×Int=>(0≤x3.2∧x3.2≤(a0.length:Int))∧wt x3.1≤201 *x3.2∧pI x3.1 tE) (λx3:(List Am)×Int=>((a0.length:Int) - x3.2).toNat) (λx3 FY k4 TV=> .c (λh1=> .bi ?_ ?_ λe5 DX VX=>have:=hb _ (List.mem_of_getElem? DX); .b (zhm ?_) λr7 NW=> .g ?_ (TV _ ⟨?_,?_,?_⟩ ?_))
  λh1=>JV _ ⟨?_,?_⟩) ⟨?_,?_,?_⟩ ?_
 all_goals first | trivial | ((try simp only[NB]at *)<;>(try simp(disch:=omega) only[DA,PA]at *)<;>omega) | grind [eA,oA,pI]
end Go.D
namespace Go.D
def zrd{a0 a1 a2}(ha:gD a0=true):Ok (Hs a0 a1 a2) λr=>gD r=true:=by
 unfold Hs;refine have:=wI ha;have:=JS a0 a1;
 .m (uA ?_) (.j0 (.c (λh1=> .kt (.s ?_))
  λh1=>have:=wI (nf h1); .c (λh2=> .kt (.s ?_))
  λh2=>have:=QF (nf h2); .c (λh3=> .s ?_)
  λh3=> .j0 (.c (λh4=> .h ?_ (.bg ?_ λe6 IZ dY=>have hg:=zf9 ha IZ;have hx:=zfY (iA .i64 e6.Got a2) 1000000;have hk:=@zlM a0 _ e6 (UD (iA .i64 e6.Got a2) 1000000) e6.Sent ha IZ; .h ?_ (.m IZ (.s (have:=zC a0 ((qB a0 a1).toNat) (⟨e6.A,UD (iA .i64 e6.Got a2) 1000000,e6.Sent⟩:Al);?_)))))
  λh4=> .j0 (.c (λh5=> .g ?_ (.s ?_))
  λh5=> .s ?_))))
 all_goals first | trivial | ((try simp only[NB]at *)<;>(try simp(disch:=omega) only[DA,PA]at *)<;>omega) | grind [eA,oA,DA,zvX]
def lH{a0 a1}(ha:a0.length≤900000000)(hb:0≤a1∧a1≤100):Ok (Bl a0 a1) λr=>r.1.length≤a1∧r.2.length≤a0.length:=by
 unfold Bl;refine have hm:=zfY a1 (a0.length:Int);
 .h ?_ (.m (uA (have:=yG (List.drop 0 a0) ((UD a1 (a0.length:Int) - 0).toNat);have:=qM a0 0;?_)) (.h ?_ (.s (have:=yG (List.drop 0 a0) ((UD a1 (a0.length:Int) - 0).toNat);have:=yG (List.drop ((UD a1 (a0.length:Int)).toNat) a0) (((a0.length:Int) - (UD a1 (a0.length:Int))).toNat);have:=qM a0 0;have:=qM a0 ((UD a1 (a0.length:Int)).toNat);⟨?_,?_⟩))))
 all_goals first | trivial | ((try simp only[NB]at *)<;>omega) | grind [eA,oA]
def zL{a0 a1}(ha:a0.length≤900000000)(hb:0≤a1∧a1≤100):Ok (Ci a0 a1) λr=>r.2.length≤a0.length:=by
 unfold Ci;refine .b (lH ?_ ?_) λr1 OV=> .m (uA ?_) (.s ?_)
 all_goals first | trivial | ((try simp only[NB]at *)<;>omega) | grind [eA,oA]
def zhu{a0}(ha:wt a0≤900000000):Ok (Cv a0) λr=>wt r.1≤200∧(r.2=true→wB r.1=true):=by
 unfold Cv
 refine .b (zL ?_ ?_) λr1 OV=> .j (λy2:(List UInt8)×Aa=>y2.1.length≤a0.length∧wt y2.2≤200) (λy2 zW=> .j0 (.m (uA ?_) (.c (λh1=> .kt (.s ⟨?_,?_⟩))
  λh1=>have:=pD (nf h1); .b (zd4 ?_) λr30 M0=> .m (uA ?_) (.c (λh2=> .s ⟨?_,?_⟩)
  λh2=> .s ⟨?_,?_⟩))))
  λk3 KV=> .c (λh3=> .b (zL ?_ ?_) λr4 VV=> .b (lH ?_ ?_) λr5 QV=>KV _ ⟨?_,?_⟩)
  λh3=> .j0 (.c (λh4=> .j0 (.kt (.j (λy10:(List UInt8)×Aa=>y10.1.length≤a0.length∧wt y10.2≤0) (λy10 yX=> .b (lH ?_ ?_) λr13 eX=> .b (lH ?_ ?_) λr14 lX=> .b (zL ?_ ?_) λr15 GW=> .b (lH ?_ ?_) λr16 jY=> .j0 (.c (λh5=> .b (lH ?_ ?_) λr19 EX=>KV _ ⟨?_,?_⟩)
  λh5=>KV _ ⟨?_,?_⟩))
  λk11 SV=> .c (λh6=> .b (zL ?_ ?_) λr12 vW=>SV _ ⟨?_,?_⟩)
  λh6=>SV _ ⟨?_,?_⟩)))
  λh4=> .j0 (.c (λh7=> .j (λy10:(List UInt8)×Aa=>y10.1.length≤a0.length∧wt y10.2≤0) (λy10 yX=> .b (lH ?_ ?_) λr13 eX=> .b (lH ?_ ?_) λr14 lX=> .b (zL ?_ ?_) λr15 GW=> .b (lH ?_ ?_) λr16 jY=> .j0 (.c (λh8=> .b (lH ?_ ?_) λr19 EX=>KV _ ⟨?_,?_⟩)
  λh8=>KV _ ⟨?_,?_⟩))
  λk11 SV=> .c (λh9=> .b (zL ?_ ?_) λr12 vW=>SV _ ⟨?_,?_⟩)
  λh9=>SV _ ⟨?_,?_⟩)
  λh7=> .j0 (.c (λxW=> .b (lH ?_ ?_) λr22 fX=> .b (zL ?_ ?_) λr23 OY=> .b (zL ?_ ?_) λr24 eY=> .b (lH ?_ ?_) λr25 rX=> .b (lH ?_ ?_) λr26 FX=>KV _ ⟨?_,?_⟩)
  λxW=>KV _ ⟨?_,?_⟩)))
 all_goals first | trivial | ((try simp only[NB]at *)<;>omega) | grind [eA,oA]
def ziN{a0 a1}(ha:wt a0≤1000000):Ok (Cw a0 a1) λr=>True:=by
 unfold Cw;refine have hw:=JB a0.L;
 .j0 (.l (λx3:Int=>0≤x3∧x3≤(a0.L.length:Int)) (λx3:Int=>((a0.L.length:Int) - x3).toNat) (λx3 FY k4 TV=> .c (λh1=> .bi ?_ ?_ λe5 DX VX=> .j0 (.c (λh2=> .c (λh3=> .s ?_)
  λh3=>TV _ ?_ ?_)
  λh2=> .kf (TV _ ?_ ?_)))
  λh1=> .s ?_) ?_ ?_)
 all_goals first | trivial | ((try simp only[NB]at *)<;>(try simp(disch:=omega) only[DA,PA]at *)<;>omega) | grind [eA,oA]
def zhK{a0 a1}(ha:wt a0≤1000000):Ok (Bx a0 a1) λr=>gD a0=true→0≤qB a0 a1→∀e,a0[(qB a0 a1).toNat]?=some e→r=3 *e.Got - e.Sent:=by
 unfold Bx;refine have hw:=JB a0;have:=JS a0 a1;
 .j0 (.c (λh1=> .kt (.s ?_))
  λh1=>have:=wI (nf h1); .c (λh2=> .s ?_)
  λh2=> .bi ?_ ?_ λe3 T8 T6=>have hg:=λh=>@zf9 a0 _ e3 h T8;have:=@zgl e3.Got;have:=@PA (3 *e3.Got) e3.Sent; .bi ?_ ?_ λe4 yZ KZ=>match(Option.some.inj (T8.symm.trans yZ):e3=e4)with | rfl=>(.s ?_))
 all_goals first | trivial | ((try simp only[NB]at *)<;>(try simp(disch:=omega) only[DA,PA]at *)<;>omega) | grind [eA,oA]
def zhY{a0 a1 a2}(ha:wt a0≤10000):Ok (Fy a0 a1 a2) λr=>True:=by
 unfold Fy
 refine .j0 (.b (ziN ?_) λr3 _=> .c (λh1=> .s ?_)
  λh1=> .b (zhK ?_) λr4 VV=> .s ?_)
 all_goals first | trivial | ((try simp only[NB]at *)<;>omega) | grind [eA,oA]
def zpm{a0 a1}(ha:wt a0≤1000000000):Ok (Ht a0 a1) λr=>r.length≤a0.length+12:=by
 unfold Ht
 refine .c (λh1=> .m (uA ?_) (.s ?_))
  λh1=>have:=QF (nf h1); .m (uA ?_) (have:=FG a0 a1.Host 4; .m (uA ?_) (have:=FG (AD a0 a1.Host 4) a1.Port 2; .s ?_))
 all_goals first | trivial | ((try simp only[NB]at *)<;>omega) | grind [eA,oA]
def zd8{a0 a1 a2 a3 a4}(ha:wt a2≤1000000000)(hb:wt a3≤1000000000):Ok (Er a0 a1 a2 a3 a4) λr=>r.length≤60:=by
 unfold Er
 refine .j0 (.c (λh1=> .kt (.s ?_))
  λh1=>have:=QF (nf h1); .c (λh2=> .kt (.s ?_))
  λh2=> .c (λh3=> .kt (.s ?_))
  λh3=>have:=GK (nf h3); .c (λh4=> .kt (.s ?_))
  λh4=>have:=GK (nf h4); .c (λh5=> .s ?_)
  λh5=> .b (zpm ?_) λr3 tW=> .m (uA ?_) (have:=FG [] a4 4; .m (uA ?_) (have:=OI ([r3,[UInt8.ofNat (IntKind.wrap .u8 a1:Int).toNat],a2,a3,(AD [] a4 4)]:List (List UInt8)); .s ?_)))
 all_goals first | trivial | ((try simp only[NB]at *)<;>omega) | grind [eA,oA]
def ziO{a0 a1 a2 a3 a4 a5}(ha:wt a3≤1000000000)(hb:wt a4≤1000000000):Ok (Fz a0 a1 a2 a3 a4 a5) λr=>r.length≤16:=by
 unfold Fz
 refine .b (zd8 ?_ ?_) λr1 OV=> .j0 (.c (λh1=> .kt (.s ?_))
  λh1=>have:=zcL (nf h1); .c (λh2=> .s ?_)
  λh2=> .b zbH λr4 VV=> .s ?_)
 all_goals first | trivial | ((try simp only[NB]at *)<;>omega) | grind [eA,oA]
def zqG{a0 a1}:Ok (Cq a0 a1) λr=>True:=by
 unfold Cq
 refine .j0 (.c (λh1=> .c (λh2=> .s ?_)
  λh2=> .s ?_)
  λh1=> .s ?_)
 all_goals first | trivial | ((try simp only[NB]at *)<;>(try simp(disch:=omega) only[DA,PA]at *)<;>omega) | grind [eA,oA]
def ziM{a0 a1}(ha:wt a0≤1000000000)(hb:wt a1≤1000000000):Ok (Bp a0 a1) λr=>True:=by
 unfold Bp
 refine .c (λh1=> .s ?_)
  λh1=> .j0 (.l (λx3:Int×Int=>0≤x3.2∧x3.2≤(a0.length:Int)) (λx3:Int×Int=>((a0.length:Int) - x3.2).toNat) (λx3 FY k4 TV=> .c (λh2=> .bi ?_ ?_ λe5 DX VX=> .bi ?_ ?_ λe6 IZ dY=>TV _ ?_ ?_)
  λh2=> .s ?_) ?_ ?_)
 all_goals first | trivial | ((try simp only[NB]at *)<;>(try simp(disch:=omega) only[DA,PA]at *)<;>omega) | grind [eA,oA]
def zed{a0 a1}(ha:wt a0≤1000000000)(hb:wt a1≤1000000000):Ok (Bn a0 a1) λr=>True:=by
 unfold Bn
 refine .j0 (.c (λh1=> .b (ziM ?_ ?_) λr3 _=> .s ?_)
  λh1=> .s ?_)
 all_goals first | trivial | ((try simp only[NB]at *)<;>omega) | grind [eA,oA]
def zqo{a0 a1 a2 a3}(ha:wt a3≤1000):Ok (Hu a0 a1 a2 a3) λr=>r=0→a3.Kind=3∧wB a3=true:=by
 unfold Hu
 refine .j0 (.c (λh1=> .kt (.s ?_))
  λh1=>have:=zcL (nf h1); .c (λh2=> .kt (.s ?_))
  λh2=> .c (λh3=> .kt (.s ?_))
  λh3=>have:=QF (nf h3); .c (λh4=> .kt (.s ?_))
  λh4=> .m (uA ?_) (.c (λh5=> .s ?_)
  λh5=>have:=pD (nf h5); .b zqG λr4 _=> .c (λh6=> .s ?_)
  λh6=> .b (ziO ?_ ?_) λr5 QV=> .b (zed ?_ ?_) λr6 _=> .c (λh7=> .s ?_)
  λh7=> .s ?_))
 all_goals first | trivial | ((try simp only[NB]at *)<;>omega) | grind [eA,oA]
def zhI{a0 a1}:Ok (By a0 a1) λr=>r=VC a0 a1:=by
 unfold By;refine have:=mM a0 a1;
 .s ?_
 all_goals first | trivial | ((try simp only[NB]at *)<;>omega) | grind [eA,oA]
def zdZ{a0}:Ok (Bh a0) λr=>r.length=32∨r.length=0:=by
 unfold Bh
 refine .c (λh1=> .s ?_)
  λh1=>have:=UK (nf h1); .b zhI λr2 dW=>have:=zlO [UInt8.ofNat (114:Int).toNat,UInt8.ofNat (111:Int).toNat,UInt8.ofNat (97:Int).toNat,UInt8.ofNat (109:Int).toNat] a0; .m (uA ?_) (have:=UR r2 [102,105,110,105,115,104];have:=@MU r2 [102,105,110,105,115,104]; .s ?_)
 all_goals first | trivial | ((try simp only[NB]at *)<;>omega) | grind [eA,oA]
def zd2{a0 a1 a2 a3 a4}(ha:wt a1≤1000000000)(hb:wt a2≤1000000000)(hc:wt a4≤1000000000):Ok (Cy a0 a1 a2 a3 a4) λr=>r.length≤60:=by
 unfold Cy
 refine .j0 (.c (λh1=> .kt (.s ?_))
  λh1=> .c (λh2=> .kt (.s ?_))
  λh2=>have:=GK (nf h2); .c (λh3=> .kt (.s ?_))
  λh3=>have:=GK (nf h3); .c (λh4=> .kt (.s ?_))
  λh4=> .c (λh5=> .s ?_)
  λh5=> .m (uA ?_) (have:=FG [] a3 4; .m (uA ?_) (have:=OI [([UInt8.ofNat (102:Int).toNat,UInt8.ofNat (IntKind.wrap .u8 a0:Int).toNat]:List UInt8),a1,a2,(AD [] a3 4),a4]; .s ?_)))
 all_goals first | trivial | ((try simp only[NB]at *)<;>omega) | grind [eA,oA]
def zih{a0 a1 a2 a3 a4 a5}(ha:wt a2≤1000000000)(hb:wt a3≤1000000000)(hc:wt a5≤1000000000):Ok (Dn a0 a1 a2 a3 a4 a5) λr=>r.length=0∨r.length=16:=by
 unfold Dn
 refine .b zdZ λr1 OV=> .b (zd2 ?_ ?_ ?_) λr2 dW=>have:=@wH r1 r2; .j0 (.c (λh1=> .kt (.s ?_))
  λh1=> .c (λh2=> .s ?_)
  λh2=> .b zbH λr5 QV=> .s ?_)
 all_goals first | trivial | ((try simp only[NB]at *)<;>omega) | grind [eA,oA]
def zo9{a0 a1}(ha:wt a1≤1000):Ok (Hv a0 a1) λr=>True:=by
 unfold Hv
 refine .j0 (.c (λh1=> .m (uA ?_) (.c (λh2=>have:=pD h2; .b (zih ?_ ?_ ?_) λr4 VV=> .b (zed ?_ ?_) λr5 _=> .s ?_)
  λh2=> .s ?_))
  λh1=> .s ?_)
 all_goals first | trivial | ((try simp only[NB]at *)<;>omega) | grind [eA,oA]
def zoL{a0}:Ok (Ce a0) λr=>r=⟨a0,[]⟩:=by
 unfold Ce;refine .s ?_
 all_goals first | trivial | ((try simp only[NB]at *)<;>omega) | grind [eA,oA]
def zpk{a0 a1 a2}(ha:CC a0=true)(hb:a1.length=12)(hc:a2.length=12):Ok (Hw a0 a1 a2) λr=>r.length=32:=by
 unfold Hw;refine have:=UK ha;have hm:=@wH (List.flatten [a1,a2]) a0;
 .j0 (.c (λh1=> .kt (.s ?_))
  λh1=>have:=UK (nf h1); .c (λh2=> .kt (.s ?_))
  λh2=>have:=GK (nf h2); .c (λh3=> .s ?_)
  λh3=>have:=GK (nf h3); .m (uA ?_) (have:=OI [a1,a2]; .b zhI λr4 VV=> .s ?_))
 all_goals first | trivial | ((try simp only[NB]at *)<;>omega) | grind [eA,oA]
def zoH{a0}:Ok (Cs a0) λr=>a0.length=32→r.length=32:=by
 unfold Cs
 refine .c (λh1=> .s ?_)
  λh1=> .m (uA ?_) (have:=UR a0 [101,112,111,99,104];have:=@MU a0 [101,112,111,99,104]; .s ?_)
 all_goals first | trivial | ((try simp only[NB]at *)<;>omega) | grind [eA,oA]
def zqJ{a0 a1}(ha:a0.length≤100):Ok (Hx a0 a1) λr=>a1=0→r=a0:=by
 unfold Hx
 refine .c (λh1=> .s ?_)
  λh1=> .m (uA ?_) (.j (λy2:(List UInt8)=>y2.length≤200∧(a1=0→y2=a0)) (λy2 zW=> .s ?_)
  λk3 KV=> .l (λx4:(List UInt8)×Int=>(0≤x4.2∧x4.2≤64)∧x4.1.length≤200∧(a1=0→x4.1=a0)) (λx4:(List UInt8)×Int=>(64 - x4.2).toNat) (λx4 J5 k5 mW=> .c (λh2=> .m (uA ?_) (have:=UR x4.1 [114,101,107,101,121];have:=@MU x4.1 [114,101,107,101,121];mW _ ⟨?_,?_,?_⟩ ?_))
  λh2=>KV _ ⟨?_,?_⟩) ⟨?_,?_,?_⟩ ?_)
 all_goals first | trivial | ((try simp only[NB]at *)<;>(try simp(disch:=omega) only[DA,PA]at *)<;>omega) | grind [eA,oA]
def zhv{a0 a1 a2 a3}(ha:CC a0=true)(hb:a1.length=12)(hc:a2.length=12):Ok (Ga a0 a1 a2 a3) λr=>a3=0→r.length=32:=by
 unfold Ga
 refine .b (zpk ?_ ?_ ?_) λr1 OV=> .b zoH λr2 dW=> .c (λh1=> .s ?_)
  λh1=> .b (zqJ ?_) λr3 tW=> .s ?_
 all_goals first | trivial | ((try simp only[NB]at *)<;>omega) | grind [eA,oA]
def zet{a0 a1}(ha:0≤a0∧a0≤4294967295)(hb:a1.length=32):Ok (Cz a0 a1) λr=>cD r=true∧(r.N=a0∧r.Key=a1∧r.Seq=0):=by
 unfold Cz
 refine .j0 (.c (λh1=> .kt (.s ⟨?_,?_⟩))
  λh1=> .c (λh2=> .s ⟨?_,?_⟩)
  λh2=> .m (uA ?_) (.b zqg λr4 VV=> .s ⟨?_,?_⟩))
 all_goals first | trivial | ((try simp only[NB]at *)<;>omega) | grind [eA,oA,cD]
def zhC{a0 a1 a2}(ha:a0=0∨a0=1)(hb:a1.length=12)(hc:a2.length=32):Ok (Gb a0 a1 a2) λr=>xC r=true∧(r.Role=a0∧r.Sn=a1∧r.Cur.N=0∧r.HasOld=false∧r.Next=[]):=by
 unfold Gb
 refine .j0 (.c (λh1=> .kt (.s ⟨?_,?_⟩))
  λh1=> .c (λh2=> .kt (.s ⟨?_,?_⟩))
  λh2=>have:=GK (nf h2); .c (λh3=> .s ⟨?_,?_⟩)
  λh3=> .m (uA ?_) (.b (zet ?_ ?_) λr4 VV=> .s ⟨?_,?_⟩))
 all_goals first | trivial | ((try simp only[NB]at *)<;>omega) | grind [eA,oA,xC,CH,MF,NA]
def zpc{a0 a1 a2 a3}(ha:CC a0=true)(hb:eA a1 0 1000000=true)(hc:MA a2=true)(hd:wB a3=true)(he:a3.Kind=3):Ok (Es a0 a1 a2 a3) λr=>uC r=true∧(r.Id=a3.Id∧r.Sn=a3.Sn∧r.Cn=a3.Cn∧r.Dead=false):=by
 unfold Es;refine have:=pD hd;have:=zlu hd he;have:=@zte a2 hc;
 .j0 (.c (λh1=> .kt (.s ⟨?_,?_⟩))
  λh1=>have:=UK (nf h1); .c (λh2=> .kt (.s ⟨?_,?_⟩))
  λh2=> .c (λh3=> .kt (.s ⟨?_,?_⟩))
  λh3=>have:=QF (nf h3); .c (λh4=> .kt (.s ⟨?_,?_⟩))
  λh4=> .m (uA ?_) (.c (λh5=> .s ⟨?_,?_⟩)
  λh5=>have:=pD (nf h5); .m (uA ?_) (.m (uA ?_) (.b zoL λr6 uW=> .b (zhv ?_ ?_ ?_) λr7 NW=> .b (zhC ?_ ?_ ?_) λr8 OW=> .s ⟨?_,?_⟩))))
 all_goals first | trivial | ((try simp only[NB]at *)<;>omega) | grind [eA,oA,uC]
def zhP{a0 a1}(ha:UC a0=true)(hb:wt a1≤400):Ok (Bi a0 a1) λr=>UC r.1=true∧(∀e∈r.1.L,e∈a0.L∨e=a1)∧(r.2=0→0≤JE r.1 a1.Sn):=by
 unfold Bi;refine have:=ZK ha;have:=@ztF a0.Cap a0.L a1;
 .m (uA ?_) (.j0 (.m (uA ?_) (.c (λh1=> .kt (.s ⟨?_,?_,?_⟩))
  λh1=>have:=ZK (nf h1); .m (uA ?_) (.c (λh2=> .kt (.s ⟨?_,?_,?_⟩))
  λh2=>have:=NK (nf h2); .c (λh3=> .s ⟨?_,?_,?_⟩)
  λh3=> .m (uA ?_) (have:=FN a0 a1.Sn; .c (λh4=> .s ⟨?_,?_,?_⟩)
  λh4=> .j0 (.m (uA ?_) (.c (λh5=> .kt (.s ⟨?_,?_,?_⟩))
  λh5=> .c (λh6=> .s ⟨?_,?_,?_⟩)
  λh6=> .m (uA ?_) (.g ?_ (.s ⟨?_,?_,?_⟩)))))))))
 all_goals first | trivial | ((try simp only[NB]at *)<;>omega) | grind [eA,oA,zuF]
def zbm{a0 a1 a2}(ha:a0.length=32∨a0.length=0)(hb:a1.length=12∨a1.length=0)(hc:a2.length≤100):Ok (Do a0 a1 a2) λr=>tC r=true:=by
 unfold Do;refine .m (uA ?_) (.m (uA ?_) (.m (uA ?_) (.s ?_)))
 all_goals first | trivial | ((try simp only[NB]at *)<;>omega) | grind [eA,oA,tC,uD,CE,MA,xE,RD,nF]
def zjr{a0}(ha:xC a0=true):Ok (Gc a0) λr=>xC r.1=true∧(r.1.Role=a0.Role∧r.1.Sn=a0.Sn∧r.1.Next=a0.Next∧r.1.Cur.N=a0.Cur.N∧r.1.HasOld=a0.HasOld)∧wt r.2.1≤300∧pJ r.2.1 a0.Sn:=by
 unfold Gc;refine have:=TD ha;
 .j0 (.m (uA ?_) (.c (λh1=> .kt (.m (uA ?_) (.s ⟨?_,?_,?_,?_⟩)))
  λh1=>have:=TD (nf h1); .c (λh2=> .m (uA ?_) (.s ⟨?_,?_,?_,?_⟩))
  λh2=> .b zd1 λr5 QV=> .b (mT ?_ ?_) λr6 uW=> .s ⟨?_,?_,?_,?_⟩))
 all_goals first | trivial | ((try simp only[NB]at *)<;>omega) | grind [eA,oA,pJ]
def zhM{a0}(ha:uC a0=true):Ok (Et a0) λr=>RE a0 r.1∧TE r.2.1∧(r.2.1.length≤1∧wt r.2.1≤400)∧FC r.2.2∧r.2.2.length≤1:=by
 unfold Et;refine have:=mG ha;have hl:=@CM a0 ha;have:=IN ha;
 .m (uA ?_) (.j0 (.m (uA ?_) (.c (λh1=> .kt (.s ⟨?_,?_,?_,?_,?_⟩))
  λh1=>have:=NK (nf h1); .c (λh2=> .kt (.s ⟨?_,?_,?_,?_,?_⟩))
  λh2=> .c (λh3=> .s ⟨?_,?_,?_,?_,?_⟩)
  λh3=> .b (zjr ?_) λr5 QV=> .c (λh4=> .s ⟨?_,?_,?_,?_,?_⟩)
  λh4=> .b (LP ?_ ?_) λr6 uW=> .s ⟨?_,?_,?_,?_,?_⟩)))
 all_goals first | trivial | ((try simp only[NB]at *)<;>omega) | grind [eA,oA,rM,YN,aI,xE,RD]
def zhD{a0 a1 a2}(ha:UC a0=true)(hb:wt a2≤400):Ok (Bt a0 a1 a2) λr=>UC r.1=true∧(∀e∈r.1.L,e∈a0.L∨e=a2)∧r.1.L.length=a0.L.length:=by
 unfold Bt;refine have:=ZK ha;
 .m (uA ?_) (.j0 (.m (uA ?_) (.c (λh1=> .kt (.s ⟨?_,?_,?_⟩))
  λh1=>have:=ZK (nf h1); .c (λh2=> .kt (.s ⟨?_,?_,?_⟩))
  λh2=> .c (λh3=> .s ⟨?_,?_,?_⟩)
  λh3=> .m (uA ?_) (.h ?_ (.bg ?_ λe6 IZ dY=> .m (uA (have:=zC a0.L a1.toNat a2;?_)) (.c (λh4=> .m (uA ?_) (.s ⟨?_,?_,?_⟩))
  λh4=>have:=ZK (nf h4); .s (have:=zC a0.L a1.toNat a2;⟨?_,?_,?_⟩)))))))
 all_goals first | trivial | ((try simp only[NB]at *)<;>omega) | grind [eA,oA,zfx]
def zoY{a0 a1 a2 a3}(ha:fC a0=true)(hb:eA a1 0 1000000=true)(hc:MA a2=true)(hd:wB a3=true):Ok (Km a0 a1 a2 a3) λr=>fC r.1=true∧r.1.Psks=a0.Psks∧TE r.2.1∧(r.2.1.length≤2∧wt r.2.1≤1000)∧FC r.2.2∧r.2.2.length≤8:=by
 unfold Km;refine have:=QH ha;have hs:=MH.1 ha;have:=hs.jar;have:=hs.dice;have:=pD hd;
 .j0 (.c (λh1=> .kt (.s ⟨?_,?_,?_,?_,?_,?_⟩))
  λh1=> .b (zhY ?_) λr3 _=> .c (λh2=> .kt (.s ⟨?_,?_,?_,?_,?_,?_⟩))
  λh2=> .c (λh3=> .s ⟨?_,?_,?_,?_,?_,?_⟩)
  λh3=> .m (uA ?_) (have:=zc7 a0.D; .b (ziO ?_ ?_) λr5 QV=> .m (uA ?_) (.m (uA ?_) (.b (zd8 ?_ ?_) λr8 OW=> .b (zex ?_ ?_) λr9 dX=> .m (uA ?_) (have:=zjX (iE a0.D).2;have:=@zi2 (iE a0.D).2; .s ⟨?_,?_,?_,?_,?_,?_⟩)))))
 all_goals first | trivial | ((try simp only[NB]at *)<;>omega) | grind [eA,oA,fC,dF,YN,aI,VE,tC,uD,CE,MA,xE,RD,nF]
def znT{a0 a1 a2 a3}(ha:fC a0=true)(hb:eA a1 0 1000000=true)(hc:MA a2=true)(hd:wB a3=true):Ok (Ko a0 a1 a2 a3) λr=>fC r.1=true∧r.1.Psks=a0.Psks∧TE r.2.1∧(r.2.1.length≤2∧wt r.2.1≤1000)∧FC r.2.2∧r.2.2.length≤8:=by
 unfold Ko;refine have:=QH ha;have hs:=MH.1 ha;have:=hs.jar;have:=hs.tab;have:=pD hd;have hf3:=@zlu a3 hd;have hw:=JB a0.T.L;have hp:=JB a0.Psks;
 .j0 (.b (zqo ?_) λr3 tW=> .c (λh1=> .kt (.s ⟨?_,?_,?_,?_,?_,?_⟩))
  λh1=> .c (λh2=> .kt (.s ⟨?_,?_,?_,?_,?_,?_⟩))
  λh2=> .bm ?_ ?_ λe4 yZ KZ=>have:=hs.psk e4 yZ; .b (zo9 ?_) λr5 _=> .c (λh3=> .s ⟨?_,?_,?_,?_,?_,?_⟩)
  λh3=> .m (uA ?_) (have:=FN a0.T a3.Sn; .j (λy7:(List Ae)×Ac×Ac=>FC y7.1∧y7.1.length≤3∧fC y7.2.2=true∧y7.2.2.Psks=a0.Psks∧0≤JE y7.2.2.T a3.Sn) (λy7 WZ=>have⟨hn7,hm7,hs7,hp7,hf7⟩:=WZ;have:=QH hs7;have S:=MH.1 hs7;have:=S.tab;have:=UF hn7; .m (uA ?_) (have:=FN y7.2.2.T a3.Sn; .bm ?_ ?_ λe22 n5 m8=>have F3:=(UG.1 S.tab).el _ n5;have:=mG F3; .j0 (.c (λh4=> .kt (.s ⟨?_,?_,?_,?_,?_,?_⟩))
  λh4=> .c (λh5=> .kt (.s ⟨?_,?_,?_,?_,?_,?_⟩))
  λh5=> .m (uA ?_) (.c (λh6=> .s ⟨?_,?_,?_,?_,?_,?_⟩)
  λh6=> .b (zhM ?_) λr26 FX=>have:=mG FX.1.1;have:=UF FX.2.2.2.1; .b (zhD ?_ ?_) λr27 PY=>have n8:=qO (d:=⟨y7.2.2.Psks,y7.2.2.J,y7.2.2.D,r27.1,y7.2.2.Cr⟩) hs7 rfl S.jar S.dice PY.1 S.cr (λe he=>(PY.2.1 e he).elim (S.id e) λh=>by rw[h,FX.1.2.1];exact S.id _ n5);have SW:=nF.2 ⟨hn7,FX.2.2.2.1⟩; .g ?_ (.s ⟨?_,?_,?_,?_,?_,?_⟩)))))
  λk8 EW=> .c (λh7=> .bm ?_ ?_ λe9 HZ CY=>have hpk:=hs.psk e9 HZ; .b (zpc ?_ ?_ ?_ ?_ ?_) λr10 rW=>have:=mG rW.1;have hch:=TD (CM rW.1 rW.2.2.2.2).1; .b (zhP ?_ ?_) λr11 AW=>have n8:=qO (d:=⟨a0.Psks,a0.J,a0.D,r11.1,a0.Cr⟩) ha rfl hs.jar hs.dice AW.1 hs.cr (λe he=>(AW.2.1 e he).elim (hs.id e) λh=>by rw[h,rW.2.1];simp at h2;omega); .c (λh8=> .s ⟨?_,?_,?_,?_,?_,?_⟩)
  λh8=> .b (zd8 ?_ ?_) λr12 vW=> .b (zbm ?_ ?_ ?_) λr13 eX=> .b zdZ λr14 lX=> .b (zd2 ?_ ?_ ?_) λr15 GW=> .b (zbm ?_ ?_ ?_) λr16 jY=>have SW:FC [r13,r16,(⟨4,a3.Id,0,a3.Cn,a3.Sn,0,0,[],r10.C.Cur.Key,a2,a1⟩:Ae)]:=xE.2 ⟨eX,xE.2 ⟨jY,xE.2 ⟨by grind [tC,uD,CE,eA],RD⟩⟩⟩;have:=UF SW; .m (uA ?_) (.m (uA ?_) (.m (uA ?_) (.g ?_ (EW _ ⟨?_,?_,?_,?_,?_⟩)))))
  λh7=>EW _ ⟨?_,?_,?_,?_,?_⟩))
 all_goals first | trivial | assumption | exact aI | exact RD | exact SW | ((try simp only[NB]at *)<;>(try simp(disch:=omega) only[DA,PA]at *)<;>omega) | grind [eA,oA,YN,aI,zfO,tC,uD,CE,MA,xE,RD,nF]
end Go.D
namespace Go.D
def zp6{a0 a1 a2}(ha:wt a0≤1000000000)(hb:wt a2≤1000000000):Ok (Hy a0 a1 a2) λr=>r.1.length≤a2.Body.length:=by
 unfold Hy
 refine .b (QO ?_) λr1 OV=> .j0 (.c (λh1=> .kt (.s ?_))
  λh1=> .c (λh2=> .kt (.s ?_))
  λh2=> .b zbH λr4 VV=> .b (zed ?_ ?_) λr5 _=> .c (λh3=> .s ?_)
  λh3=> .b (zej ?_) λr6 uW=> .b (zje ?_ ?_) λr7 NW=> .s ?_)
 all_goals first | trivial | ((try simp only[NB]at *)<;>omega) | grind [eA,oA]
def zpx{a0 a1 a2}(ha:cD a0=true)(hb:wt a2≤1000):Ok (Eu a0 a1 a2) λr=>cD r.1=true∧(r.1.N=a0.N∧r.1.Key=a0.Key∧r.1.Seq=a0.Seq)∧r.2.1.length≤a2.Body.length:=by
 unfold Eu;refine have:=epF ha;
 .m (uA ?_) (.j0 (.c (λh1=> .kt (.s ⟨?_,?_,?_⟩))
  λh1=>have:=epF (nf h1); .b (QO ?_) λr4 VV=> .c (λh2=> .kt (.s ⟨?_,?_,?_⟩))
  λh2=> .c (λh3=> .s ⟨?_,?_,?_⟩)
  λh3=> .b (zen ?_) λr5 QV=> .c (λh4=> .s ⟨?_,?_,?_⟩)
  λh4=> .b (zp6 ?_ ?_) λr6 uW=> .c (λh5=> .s ⟨?_,?_,?_⟩)
  λh5=> .s ⟨?_,?_,?_⟩))
 all_goals first | trivial | ((try simp only[NB]at *)<;>omega) | grind [eA,oA,cD]
def zhg{a0 a1 a2}(ha:xC a0=true)(hb:wt a2≤1000):Ok (Db a0 a1 a2) λr=>xC r.1=true∧(r.1.Role=a0.Role∧r.1.Sn=a0.Sn)∧(r.1.Next=a0.Next∧r.1.Cur.N=a0.Cur.N∨r.1.Next=[]∧r.1.Cur.N≠a0.Cur.N)∧r.2.1.length≤a2.Body.length∧(r.2.2=0→wB a2=true∧gC a2.Kind=true∧eA a1 0 1000000=true):=by
 unfold Db;refine have:=TD ha;have i1:=@DA a0.Cur.N 1;have i2:=@PA a0.Cur.N 1;have i3:=@DA a1 5;
 .m (uA ?_) (.j0 (.m (uA ?_) (.c (λh1=> .kt (.s ⟨?_,?_,?_,?_,?_⟩))
  λh1=>have:=TD (nf h1); .c (λh2=> .kt (.s ⟨?_,?_,?_,?_,?_⟩))
  λh2=> .c (λh3=> .kt (.s ⟨?_,?_,?_,?_,?_⟩))
  λh3=> .m (uA ?_) (.c (λh4=> .s ⟨?_,?_,?_,?_,?_⟩)
  λh4=>have:=pD (nf h4); .j (λy6:Bool=>y6=true→a0.HasOld=true∧a2.Epoch=a0.Old.N) (λy6 vX=> .j (λy8:Bool=>y8=true→a0.Next.length>0∧a2.Epoch=iA .i64 a0.Cur.N 1) (λy8 P4=> .j (λy10:Bool=>y10=false→(a2.Epoch=a0.Cur.N∨y6=true∨y8=true)) (λy10 yX=> .c (λh5=> .s ⟨?_,?_,?_,?_,?_⟩)
  λh5=> .jt (λy13=> .c (λh6=> .s ⟨?_,?_,?_,?_,?_⟩)
  λh6=> .j (λy15:Aw=>cD y15=true∧(y6=true∧y15=a0.Old∨y6=false∧y15=a0.Cur)) (λy15 LZ=> .j (λy17:Aw=>cD y17=true∧(y8=true∧y17.N=a0.Cur.N+1∨y8=false∧(y6=true∧y17=a0.Old∨y6=false∧y17=a0.Cur))) (λy17 A1=> .b (zpx ?_ ?_) λr20 pY=>have i4:=@PA r20.1.N 1; .c (λh7=> .s ⟨?_,?_,?_,?_,?_⟩)
  λh7=> .j (λy21:Ak=>xC y21=true∧(y21.Role=a0.Role∧y21.Sn=a0.Sn)∧(y21.Next=a0.Next∧y21.Cur.N=a0.Cur.N∨y21.Next=[]∧y21.Cur.N≠a0.Cur.N)) (λy21 O0=> .s ⟨?_,?_,?_,?_,?_⟩)
  λk22 gX=> .c (λh8=> .j0 (.c (λh9=> .j0 (.c (λxW=>gX _ ⟨?_,?_,?_⟩)
  λxW=>gX _ ⟨?_,?_,?_⟩))
  λh9=> .j0 (.kf (gX _ ⟨?_,?_,?_⟩))))
  λh8=> .j0 (.c (λHW=>gX _ ⟨?_,?_,?_⟩)
  λHW=>gX _ ⟨?_,?_,?_⟩))
  λk18 sX=> .c (λaX=> .b (zet ?_ ?_) λr19 EX=>sX _ ⟨?_,?_⟩)
  λaX=>sX _ ⟨?_,?_⟩)
  λk16 MW=> .c (λwX=>MW _ ⟨?_,?_⟩)
  λwX=>MW _ ⟨?_,?_⟩)
  λk14 RV=> .c (λwY=> .c (λxY=>RV _)
  λxY=>RV _)
  λwY=>RV _)
  λk11 SV=> .b (ziM ?_ ?_) λr12 _=> .c (λUY=>SV _ ?_)
  λUY=> .c (λjZ=> .c (λM1=>SV _ ?_)
  λM1=>SV _ ?_)
  λjZ=>SV _ ?_)
  λk9 WW=> .c (λPZ=>WW _ ?_)
  λPZ=>WW _ ?_)
  λk7 UV=> .c (λQZ=>UV _ ?_)
  λQZ=>UV _ ?_))))
 all_goals first | trivial | ((try simp only[NB]at *)<;>(try simp(disch:=omega) only[DA,PA]at *)<;>omega) | grind [eA,oA,xC,CH]
def zh9{a0 a1}(ha:xC a0=true):Ok (Gd a0 a1) λr=>r.1.length=0∨r.1.length=32:=by
 unfold Gd;refine have:=TD ha;
 .m (uA ?_) (.c (λh1=> .s ?_)
  λh1=>have:=TD (nf h1); .j (λy2:Bool=>y2=true→a0.HasOld=true) (λy2 zW=> .c (λh2=> .m (uA ?_) (.s ?_))
  λh2=> .c (λh3=> .m (uA ?_) (.s ?_))
  λh3=> .j0 (.c (λh4=> .c (λh5=> .m (uA ?_) (.s ?_))
  λh5=> .s ?_)
  λh4=> .kf (.s ?_)))
  λk3 KV=> .c (λh6=>KV _ ?_)
  λh6=>KV _ ?_)
 all_goals first | trivial | ((try simp only[NB]at *)<;>(try simp(disch:=omega) only[DA,PA]at *)<;>omega) | grind [eA,oA,xC,cD,CH]
def zqc{a0 a1 a2 a3}(ha:qC a0=true)(hb:wt a3≤1000):Ok (Ge a0 a1 a2 a3) λr=>qC r.1=true:=by
 unfold Ge;refine have:=SH ha;have hw:=JB a0.Cands;
 .m (uA ?_) (.m (uA ?_) (have:=zj8 a0 a2; .j0 (.c (λh1=> .kt (.s ?_))
  λh1=>have:=SH (nf h1); .c (λh2=> .kt (.s ?_))
  λh2=> .c (λh3=> .kt (.s ?_))
  λh3=> .bm ?_ ?_ λe5 DX VX=> .m (uA ?_) (.c (λh4=> .kt (.s ?_))
  λh4=> .bm ?_ ?_ λe7 I5 JZ=> .c (λh5=> .s ?_)
  λh5=> .h ?_ (.h ?_ (.g (have:=yG a0.Cands (((yE a0 a2) - 0).toNat);have:=yG (List.drop ((iA .i64 (yE a0 a2) 1).toNat) a0.Cands) (((a0.Cands.length:Int) - (iA .i64 (yE a0 a2) 1)).toNat);have:=qM a0.Cands ((iA .i64 (yE a0 a2) 1).toNat);?_) (.s (have:=yG a0.Cands (((yE a0 a2) - 0).toNat);have:=yG (List.drop ((iA .i64 (yE a0 a2) 1).toNat) a0.Cands) (((a0.Cands.length:Int) - (iA .i64 (yE a0 a2) 1)).toNat);have:=qM a0.Cands ((iA .i64 (yE a0 a2) 1).toNat);?_))))))))
 all_goals first | trivial | exact zrA ha (by simp at h3;omega) | ((try simp only[NB]at *)<;>(try simp(disch:=omega) only[DA,PA]at *)<;>omega) | grind [eA,oA]
def zrw{a0}(ha:xC a0=true):Ok (Hz a0) λr=>xC r.1=true∧(r.1.Role=a0.Role∧r.1.Sn=a0.Sn):=by
 unfold Hz;refine have:=TD ha;
 .m (uA ?_) (.j0 (.m (uA ?_) (.c (λh1=> .kt (.s ⟨?_,?_⟩))
  λh1=>have:=TD (nf h1); .c (λh2=> .kt (.s ⟨?_,?_⟩))
  λh2=> .c (λh3=> .s ⟨?_,?_⟩)
  λh3=> .m (uA ?_) (have:=UR a0.Cur.Key [114,101,107,101,121];have:=@MU a0.Cur.Key [114,101,107,101,121]; .b (zet ?_ ?_) λr6 uW=> .s ⟨?_,?_⟩))))
 all_goals first | trivial | ((try simp only[NB]at *)<;>(try simp(disch:=omega) only[DA,PA]at *)<;>omega) | grind [eA,oA,xC,CH,DA,PA]
def zoh{a0 a1 a2}(ha:xC a0=true)(hb:wt a2≤1000):Ok (Ia a0 a1 a2) λr=>xC r.1=true∧(r.1.Role=a0.Role∧r.1.Sn=a0.Sn):=by
 unfold Ia;refine have:=TD ha;
 .m (uA ?_) (.j0 (.m (uA ?_) (.c (λh1=> .kt (.s ⟨?_,?_⟩))
  λh1=>have:=TD (nf h1); .c (λh2=> .kt (.s ⟨?_,?_⟩))
  λh2=> .c (λh3=> .kt (.s ⟨?_,?_⟩))
  λh3=> .b zd1 λr5 QV=> .m (uA ?_) (.c (λh4=> .s ⟨?_,?_⟩)
  λh4=> .c (λh5=> .s ⟨?_,?_⟩)
  λh5=> .b (zrw ?_) λr7 NW=> .j0 (.c (λh6=> .kt (.s ⟨?_,?_⟩))
  λh6=> .c (λh7=> .s ⟨?_,?_⟩)
  λh7=> .s ⟨?_,?_⟩)))))
 all_goals first | trivial | ((try simp only[NB]at *)<;>(try simp(disch:=omega) only[DA,PA]at *)<;>omega) | grind [eA,oA]
def zoo{a0 a1 a2}(ha:uC a0=true)(hb:a0.Dead=false)(hc:wt a2≤1000):Ok (Kp a0 a1 a2) λr=>RE a0 r.1∧TE r.2.1∧(r.2.1.length≤1∧wt r.2.1≤400)∧FC r.2.2∧r.2.2.length≤2∧r.1.Dead=false:=by
 unfold Kp;refine have:=mG ha;have hl:=CM ha hb;have:=IN ha;
 .b (zoh ?_ ?_) λr1 OV=>have:=TD OV.1; .c (λh1=> .s ⟨?_,?_,?_,?_,?_,?_⟩)
  λh1=> .j (λy2:(List Ae)=>FC y2∧y2.length≤1) (λy2 zW=>have:=UF zW.1; .b (zjr ?_) λr7 NW=> .c (λh2=> .s ⟨?_,?_,?_,?_,?_,?_⟩)
  λh2=> .b (LP ?_ ?_) λr8 OW=>have SW:=nF.2 ⟨zW.1,xE.2 ⟨OW,RD⟩⟩;have:=CS OW; .g ?_ (.s ⟨?_,?_,?_,?_,?_,?_⟩))
  λk3 KV=> .c (λh3=> .m (uA ?_) (.m (uA ?_) (.g ?_ (KV _ ⟨?_,?_⟩))))
  λh3=>KV _ ⟨?_,?_⟩
 all_goals first | trivial | exact rM ha (by grind) (by grind) (by grind) hl.2.2.2.1 hl.2.2.2.2.2 hb | ((try simp only[NB]at *)<;>omega) | grind [eA,oA,rM,YN,aI,tC,uD,CE,MA,xE,RD,nF]
def zg6{a0 a1}(ha:qC a0=true):Ok (Dp a0 a1) λr=>qC r=true∧r.At=a0.At:=by
 have hL:=IB;have hf:=SH ha;unfold Dp;refine .m (uA (by omega)) (.j (λy:Aj=>y.At=a0.At∧y.Cands.Sublist a0.Cands) (λy hy=> .s ⟨?_,hy.1⟩) λk hk=> .l (λx:Int×Aj=>∃i:Nat,x.1=(i:Int)∧i≤a0.Cands.length∧x.2.At=a0.At∧x.2.Cands.Sublist (a0.Cands.take i)) (λx:Int×Aj=>((a0.Cands.length:Int) - x.1).toNat) (λx hx k' bX=>?_) ⟨0,rfl,Nat.zero_le _,rfl, .slnil⟩ (by simp only;omega))
 ·have:=zt1 ha hy.2;rwa [←hy.1]at this
 ·obtain⟨i,h1,h2,h3,h4⟩:=hx;have hs:=h4.trans (List.take_sublist _ _);refine .c (λh=>?_) λ_=>hk _ ⟨h3,hs⟩;simp only[B]at h;have N3:iA .i64 x.1 1=((i+1:Nat):Int):=by rw[h1,DA (by omega) (by omega)];omega
  refine .h (by simp only[B];omega) ?_;rw[show x.1.toNat=i by omega];refine .bg (by omega) λe he hew=>?_;have ht:=take_succ he;have hl:=hs.length_le;refine .j (λy:Aj=>y.At=a0.At∧y.Cands.Sublist (a0.Cands.take (i+1))) (λy hy=>bX _ ⟨i+1,N3,by omega,hy.1,hy.2⟩ (by simp only[N3];omega)) λk2 JV=> .c (λ_=> .g ?_ (JV _ ⟨h3,?_⟩)) λ_=>JV _ ⟨h3,?_⟩
  ·have:wt x.2.Cands≤39 *3:=by
    have:=hM 38 x.2.Cands λc hc=>by have:=qV (hs.subset hc);simp only[N]at hf this⊢;omega
    simp only[N]at hf;omega
   simp only[N]at hf hew⊢;omega
  ·rw[ht];exact h4.append (.refl _)
  ·rw[ht];exact h4.trans (List.sublist_append_left _ _)
def zqz{a0 a1 a2 a3}(ha:qC a0=true)(hb:a3.length≤100):Ok (Gf a0 a1 a2 a3) λr=>qC r.1=true∧r.1.At=a0.At∧(r.2=true→MA a2=true):=by
 unfold Gf;refine have:=SH ha;
 .j0 (.c (λh1=> .kt (.m (uA ?_) (.s ⟨?_,?_,?_⟩)))
  λh1=>have:=SH (nf h1); .c (λh2=> .kt (.m (uA ?_) (.s ⟨?_,?_,?_⟩)))
  λh2=> .c (λh3=> .kt (.m (uA ?_) (.s ⟨?_,?_,?_⟩)))
  λh3=>have:=QF (nf h3); .c (λh4=> .kt (.m (uA ?_) (.s ⟨?_,?_,?_⟩)))
  λh4=>have:=GK (nf h4); .c (λh5=> .m (uA ?_) (.s ⟨?_,?_,?_⟩))
  λh5=> .b (zg6 ?_) λr5 QV=>have:=SH QV.1;have hap:=@ztx r5 a2 a3 a1 QV.1; .j0 (.m (uA ?_) (have:=zj8 r5 a2; .c (λh6=> .kt (.m (uA ?_) (.s ⟨?_,?_,?_⟩)))
  λh6=> .c (λh7=> .m (uA ?_) (.s ⟨?_,?_,?_⟩))
  λh7=> .m (uA ?_) (.g ?_ (.s ⟨?_,?_,?_⟩)))))
 all_goals first | trivial | ((try simp only[NB]at *)<;>(try simp(disch:=omega) only[DA,PA]at *)<;>omega) | grind [eA,oA,zbN]
end Go.D

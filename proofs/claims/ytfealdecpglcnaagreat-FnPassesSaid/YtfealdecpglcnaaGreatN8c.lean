/-
 The reference's machine comes to an end, and what it gives is small.
-/
import Derived.Test.YtfealdecpglcnaaGreatN8
set_option linter.all false
namespace Go.D
def zar{a0 a1 a2 a3}(ha:wt a1≤1000000000):Ok (Cb a0 a1 a2 a3) λr=>r.length≤40∧(0<r.length→a1.length=12):=by
 unfold Cb
 refine .j (λy1:Bool=>y1=false→a1.length=12) (λy1 qW=> .c (λh1=> .s ?_)
  λh1=>have i2:=qW h1; .g ?_ (.b (zG ?_) λr3 tW=> .b (zG ?_) λr4 VV=> .s ?_))
  λk2 JV=> .c (λ_=>JV _ nofun)
  λh3=> .c (λ_=>JV _ nofun)
  λh4=> .c (λ_=>JV _ nofun)
  λh5=>JV _ λq6=>?_
 all_goals (try simp only[NB]at *)<;>omega
def zpo{a0 a1 a2}(ha:wt a1≤1000000000):Ok (Gj a0 a1 a2) λr=>r.length≤32∧(0≤a2∧a2≤6∧a1.length≤100∧a0.length≤1048576→r.length=32):=by
 try simp only[N]at ha
 have hL:=IB;unfold Gj;refine Ok.join (λy1:Bool=>(y1=true∧¬(0≤a2∧a2≤6∧a1.length≤100))∨(y1=false∧a1.length≤100)) (λy1 qW=>?_) (λk2 JV=>?_)
 ·rcases qW with⟨rfl,h⟩ | ⟨rfl,h⟩
  ·exact Ok.some' ⟨Nat.zero_le _,λk=>absurd ⟨k.1,k.2.1,k.2.2.1⟩ h⟩
  ·refine Ok.guard ?_ ?_
   ·simp only[N];omega
   refine Ok.bind (zG ?_) (λr3 tW=>?_)
   ·simp only[N];omega
   simp only[N]at tW;exact Ok.some' ⟨mM _ _,λk=>wH k.2.2.2 (by omega)⟩
 refine Ok.cond' (λh2=>?_) (λh2=>?_)
 ·simp only[B]at h2;exact JV _ (.inl ⟨rfl,λk=>h2 ⟨k.1,k.2.1⟩⟩)
 ·simp only[B]at h2;refine JV _ ?_
  by_cases h:(a1.length:Int)>100
  ·exact .inl ⟨decide_eq_true h,λk=>by omega⟩
  ·exact .inr ⟨decide_eq_false h,by omega⟩
def zh0{a0 a1 a2}(ha:wt a1≤1000000000):Ok (Ey a0 a1 a2) λr=>r.length≤200∧(0≤a2∧a2≤200∧a1.length≤100∧a0.length≤1048576→(r.length:Int)=a2):=by
 have hL:=IB;unfold Ey;refine Ok.join (λy1:Bool=>(y1=true∧¬(0≤a2∧a2≤200∧a1.length≤100∧a0.length≤1048576))∨(y1=false∧(0≤a2∧a2≤200∧a1.length≤100∧a0.length≤1048576))) (λy1 qW=>?_) (λk2 JV=>?_)
 ·rcases qW with⟨rfl,h⟩ | ⟨rfl,h⟩
  ·exact Ok.some' ⟨Nat.zero_le _,λk=>absurd k h⟩
  ·rw[cond_false];refine Ok.join (λy3:List UInt8=>a2≤(y3.length:Int)∧y3.length≤1000) (λy3 vY=>?_) (λk4 TV=>?_)
   ·refine Ok.chk ?_ ?_
    ·simp only[B];omega
    refine Ok.guard ?_ ?_
    ·simp only[N];omega
    refine Ok.some' ?_;simp only[N];omega
   refine Ok.loop (λx5:(List UInt8)×Int=>0≤x5.2∧x5.2≤7∧(x5.1.length:Int)=32 *x5.2) (λx5=>(7 - x5.2).toNat) (λx5 hx5 k6 QW=>?_) ?_ ?_
   ·refine Ok.cond' (λh1=>?_) (λh1=>?_)
    ·simp only[B]at h1;refine Ok.bind (zpo ha) (λr7 NW=>?_);have h7:r7.length=32:=NW.2 (by omega);refine Ok.guard ?_ ?_
     ·simp only[N];omega
     have:=DA (a:=x5.2) (b:=1) (by omega) (by omega);refine QW _ ?_ ?_
     ·simp only[N];omega
     ·simp only[N];omega
    ·simp only[B]at h1;refine TV _ ?_;omega
   ·simp only[N];omega
   ·simp only[N];omega
 refine Ok.cond' (λh2=>?_) (λh2=>?_)
 ·simp only[B]at h2;exact JV _ (.inl ⟨rfl,λk=>h2 ⟨k.1,k.2.1⟩⟩)
 ·simp only[B]at h2;refine Ok.cond' (λh3=>?_) (λh3=>?_)
  ·simp only[B]at h3;exact JV _ (.inl ⟨rfl,λk=>by omega⟩)
  ·simp only[B]at h3;refine JV _ ?_
   by_cases h:(a0.length:Int)>1048576
   ·exact .inl ⟨decide_eq_true h,λk=>by omega⟩
   ·exact .inr ⟨decide_eq_false h,by omega⟩
def zeM{a0 a1 a2}(ha:wt a1≤1000000000)(hb:wt a2≤1000000000):Ok (Dv a0 a1 a2) λr=>r.length≤200:=by
 unfold Dv
 refine .j (λy1:Bool=>y1=false→a2.length≤200∧a1.length≤100∧a0.length≤1048576) (λy1 qW=> .c (λh1=> .s ?_)
  λh1=>have i2:=qW h1; .b (zh0 ?_) λr3 tW=> .j (λy4:(List UInt8)=>y4.length≤200) (λy4 dZ=> .s ?_)
  λk5 mW=> .l (λx6:(List UInt8)×Int=>0≤x6.2∧x6.2≤(a2.length:Int)∧(x6.1.length:Int)=x6.2) (λx6:(List UInt8)×Int=>((a2.length:Int) - x6.2).toNat) (λx6 G5 k7 UV=> .c (λh3=> .bi ?_ ?_ λe8 J3 I2=> .h ?_ (.bg ?_ λe9 HZ CY=> .g ?_ (UV _ ?_ ?_)))
  λh3=>mW _ ?_) ?_ ?_)
  λk2 JV=> .c (λ_=>JV _ nofun)
  λh4=> .c (λ_=>JV _ nofun)
  λh5=>JV _ λq6=>?_
 all_goals (try simp only[NB]at *)<;>(try simp(disch:=omega) only[DA,PA]at *)<;>omega
def PM{a0 a1}(ha:wt a1≤1000000000):Ok (Bu a0 a1) λr=>r.length≤160:=by
 unfold Bu
 refine .j (λy1:Bool=>y1=false→wt a1≤112) (λy1 qW=> .c (λh1=> .s ?_)
  λh1=>have i2:=qW h1; .b (zar ?_) λr3 tW=> .g ?_ (.g ?_ (.g ?_ (.s ?_))))
  λk2 JV=> .c (λ_=>JV _ nofun)
  λh3=> .c (λ_=>JV _ nofun)
  λh4=>have f5:=pD (nf h4);JV _ λq6=>?_
 all_goals (try simp only[NB]at *)<;>omega
def AU{a0 a1}:Ok (Cm a0 a1) λr=>r.length≤16:=by
 unfold Cm;refine have hm:=mM a0 a1;
 .c (λh1=> .s ?_)
  λh1=> .h ?_ (.g ?_ (.s ?_))
 all_goals (try simp only[NB]at *)<;>omega
def zeB{a0 a1 a2 a3 a4 a5 a6}(ha:wt a0≤1000000000)(hb:wt a2≤1000000000)(hc:wt a6≤1000000000):Ok (Dw a0 a1 a2 a3 a4 a5 a6) λr=>(wt r.1≤300)∧(r.2=true→a2.length=12∧a0.length=32):=by
 unfold Dw
 refine .b (zar ?_) λr1 OV=> .j (λy2:Bool=>y2=false→a2.length=12∧a0.length=32) (λy2 zW=> .c (λh1=> .s ⟨?_,nofun⟩)
  λh1=>have i2:=zW h1; .g ?_ (.b (zeM ?_ ?_) λr4 VV=> .j (λy5:Aa=>wt y5≤280) (λy5 R6=> .b (PM ?_) λr9 dX=> .b AU λr10 rW=> .s ⟨?_,λq3=>?_⟩)
  λk6 QW=> .l (λx7:Int×Aa=>0≤x7.1∧x7.1≤16∧x7.2.Tag.length=x7.1∧wt x7.2≤212+x7.1) (λx7:Int×Aa=>(16 - x7.1).toNat) (λx7 hx7 k8 EW=> .c (λh4=> .g ?_ (EW _ ?_ ?_))
  λh4=>QW _ ?_) ?_ ?_))
  λk3 KV=> .c (λ_=>KV _ nofun)
  λh5=> .c (λ_=>KV _ nofun)
  λh6=> .c (λ_=>KV _ nofun)
  λh7=>KV _ λq8=>?_
 all_goals (try simp only[NB]at *)<;>(try simp(disch:=omega) only[DA,PA]at *)<;>omega
def zqE{a0 a1 a2 a3 a4 a5 a6 a7}(ha:wt a0≤1000000000)(hb:wt a3≤1000000000)(hc:wt a7≤1000000000):Ok (Iq a0 a1 a2 a3 a4 a5 a6 a7) λr=>wt r≤1000:=by
 unfold Iq
 refine .b (zeB ?_ ?_ ?_) λr1 ⟨OV,O4⟩=> .j (λy2:Bool=>y2=false→a3.length=12) (λy2 zW=> .c (λh1=> .s ?_)
  λh1=>have i2:=zW h1; .g ?_ (.b (zG ?_) λr4 VV=> .b (zG ?_) λr5 QV=> .b (PM ?_) λr6 uW=> .g ?_ (.s ?_)))
  λk3 KV=> .c (λ_=>KV _ nofun)
  λh3=>have i4:=O4 (nf h3);KV _ λq5=>?_
 all_goals (try simp only[NB]at *)<;>omega
def zd6{a0}(ha:wt a0≤1000000000):Ok (Bj a0) λr=>r.length≤200:=by
 unfold Bj
 refine .c (λh1=> .s ?_)
  λh1=>have f2:=pD (nf h1); .j (λy1:(List UInt8)=>y1.length≤200) (λy1 qW=> .s ?_)
  λk2 JV=> .c (λh3=> .g ?_ (.g ?_ (.j (λy4:(List UInt8)=>y4.length≤200) (λy4 dZ=>JV _ ?_)
  λk5 mW=> .l (λx6:(List UInt8)×Int=>0≤x6.2∧x6.2≤20∧x6.1.length≤140+x6.2) (λx6:(List UInt8)×Int=>(20 - x6.2).toNat) (λx6 G5 k7 UV=> .c (λh4=> .g ?_ (UV _ ?_ ?_))
  λh4=>mW _ ?_) ?_ ?_)))
  λh3=> .j (λy8:(List UInt8)=>y8.length≤200) (λy8 P4=>JV _ ?_)
  λk9 WW=> .c (λh5=> .g ?_ (.g ?_ (.b (zG ?_) λr11 AW=> .g ?_ (WW _ ?_))))
  λh5=> .j (λy12:(List UInt8)=>y12.length≤200) (λy12 DY=>WW _ ?_)
  λk13 lW=> .c (λh6=> .g ?_ (.g ?_ (.g ?_ (.b (zG ?_) λr15 GW=> .g ?_ (.g ?_ (lW _ ?_))))))
  λh6=> .g ?_ (.b (zG ?_) λr17 UX=> .b (zG ?_) λr18 EY=> .g ?_ (.g ?_ (lW _ ?_)))
 all_goals (try simp only[NB]at *)<;>(try simp(disch:=omega) only[DA,PA]at *)<;>omega
def zd3{a0 a1 a2}(ha:wt a2≤1000000000):Ok (Dx a0 a1 a2) λr=>wt r≤200:=by
 unfold Dx;refine .b (zd6 ?_) λr1 OV=> .s ?_
 all_goals (try simp only[NB]at *)<;>omega
def zee{a0 a1}(ha:wt a0≤1000000000)(hb:wt a1≤1000000):Ok (Dy a0 a1) λr=>wt r≤201 *a1.length:=by
 unfold Dy;refine have hw:=JB a1;
 .j (λy1:(List Am)=>wt y1≤201 *a1.length) (λy1 qW=> .s ?_)
  λk2 JV=> .l (λx3:(List Am)×Int=>0≤x3.2∧x3.2≤(a1.length:Int)∧wt x3.1≤201 *x3.2) (λx3:(List Am)×Int=>((a1.length:Int) - x3.2).toNat) (λx3 FY k4 TV=> .c (λh1=> .bi ?_ ?_ λe6 IZ dY=> .b (zd3 ?_) λr7 NW=> .g ?_ (TV _ ?_ ?_))
  λh1=>JV _ ?_) ?_ ?_
 all_goals (try simp only[NB]at *)<;>(try simp(disch:=omega) only[DA,PA]at *)<;>omega
def zhE{a0}(ha:wt a0≤1000000):Ok (Fc a0) λr=>wt r≤201 *a0.length:=by
 unfold Fc;refine have hw:=JB a0;
 .j (λy1:(List Am)=>wt y1≤201 *a0.length) (λy1 qW=> .s ?_)
  λk2 JV=> .l (λx3:(List Am)×Int=>0≤x3.2∧x3.2≤(a0.length:Int)∧wt x3.1≤201 *x3.2) (λx3:(List Am)×Int=>((a0.length:Int) - x3.2).toNat) (λx3 FY k4 TV=> .c (λh1=> .bi ?_ ?_ λe6 IZ dY=> .bi ?_ ?_ λe7 I5 JZ=> .b (zd3 ?_) λr8 OW=> .g ?_ (TV _ ?_ ?_))
  λh1=>JV _ ?_) ?_ ?_
 all_goals (try simp only[NB]at *)<;>(try simp(disch:=omega) only[DA,PA]at *)<;>omega
def zpI{a0}(ha:wt a0≤1000000000):Ok (Eh a0) λr=>True:=by
 unfold Eh;refine .b (zd6 ?_) λr1 OV=> .s trivial
 all_goals (try simp only[NB]at *)<;>omega
def zhk{a0}(ha:wt a0≤900000000):Ok (Eb a0) λr=>wt r.1≤400:=by
 unfold Eb
 refine .c (λh1=> .s ?_)
  λh1=> .bi ?_ ?_ λe1 vZ he1w=> .j (λy3:Aa×Aa=>wt y3.2≤a0.length+100) (λy3 vY=> .b (zd6 ?_) λr28 J2=> .e ?_ (.e ?_ (.c (λh2=> .s ?_)
  λh2=>have:=congrArg List.length (eq_of_beq (nf h2)); .s ?_)))
  λk4 TV=> .c (λh3=> .c (λh4=> .s ?_)
  λh4=> .bi ?_ ?_ λe5 DX VX=> .h ?_ (.g ?_ (TV _ ?_)))
  λh3=> .j (λy8:Aa×Aa=>wt y8.2≤a0.length+100) (λy8 P4=>TV _ ?_)
  λk9 WW=> .c (λh5=> .c (λh6=> .s ?_)
  λh6=> .h ?_ (.g ?_ (.h ?_ (.g ?_ (.b (zcR ?_) λr12 vW=> .h ?_ (.g ?_ (WW _ ?_)))))))
  λh5=> .j (λy14:Aa×Aa=>wt y14.2≤a0.length+100) (λy14 L2=>WW _ ?_)
  λk15 XW=> .c (λh7=> .c (λh8=> .s ?_)
  λh8=> .bi ?_ ?_ λe16 M2 K3=> .h ?_ (.g ?_ (.h ?_ (.g ?_ (.b (zcR ?_) λr20 pY=> .h ?_ (.g ?_ (.h ?_ (.g ?_ (XW _ ?_)))))))))
  λh7=> .c (λh9=> .s ?_)
  λh9=> .h ?_ (.g ?_ (.b (zcR ?_) λr24 eY=> .b (zcR ?_) λr25 rX=> .h ?_ (.g ?_ (.h ?_ (.g ?_ (XW _ ?_))))))
 all_goals (try simp only[NB]at *)<;>(try simp(disch:=omega) only[DA,PA]at *)<;>omega
end Go.D
namespace Go.D
def zph{a0}:Ok (Hc a0) λr=>True:=by
 unfold Hc
 refine .c (λh1=> .s trivial)
  λh1=> .s trivial
def zh4{a0 a1}:Ok (Bq a0 a1) λr=>(True)∧(r=true→a0.Bits.length=32∧0≤a1∧a1≤281474976710655∧ -1≤a0.Top∧a0.Top≤281474976710655):=by
 unfold Bq
 refine .j (λy1:Bool=>y1=false→a0.Bits.length=32∧0≤a1∧a1≤281474976710655∧ -1≤a0.Top∧a0.Top≤281474976710655) (λy1 qW=> .c (λh1=> .s ⟨trivial,nofun⟩)
  λh1=>have i2:=qW h1; .jt (λy3=> .s ⟨trivial,λq3=>?_⟩)
  λk4 TV=> .c (λ_=>TV _)
  λh4=> .b zph λr5 _=> .c (λh5=> .b (zv7 ?_) λr6 uW=>TV _)
  λ_=>TV _)
  λk2 JV=> .c (λ_=>JV _ nofun)
  λh6=>have f7:=zfA (nf h6);JV _ λq8=>?_
 all_goals (try simp only[NB]at *)<;>omega
def NS{n:Int}(h0:0≤n):EA .i64 n 1024=n % 1024:=hO h0
def LS{n:Int}(h0:0≤n)(h1:n<1024):PC .i64 n 32=n / 32:=by
 unfold PC;rw[Int.tdiv_eq_ediv_of_nonneg h0,XB (by omega) (by omega)]
def zh7{a0 a1}(ha:wt a0≤1000000000):Ok (Cf a0 a1) λr=>wt r.1≤wt a0∧wt a0≤wt r.1:=by
 have hL:=IB;unfold Cf;simp only[N]at ha;refine Ok.same (uA (p:=wt a0≤bA) ?_) ?_
 ·simp only[N];omega
 refine Ok.bind zh4 (λr2 dW=>?_);refine Ok.cond' (λh=>Ok.some' ?_) (λh=>?_)
 ·simp only[N];omega
 ·simp only[B]at h;have hm:=dW.2 h;have e1:=NS hm.2.1;have e2:=LS (n:=a1 % 1024) (by omega) (by omega);have e3:=hO (a:=a1 % 1024) (b:=32) (by omega);rw[e1,e2,e3];refine Ok.join (λy:Ap=>y.Bits.length=32) (λy hy=>?_) (λk hk=>?_)
  ·refine Ok.chk ?_ ?_
   ·simp only[B];omega
   refine Ok.bind (Ok.get ?_) (λe he=>?_)
   ·omega
   refine Ok.chkn ?_ ?_
   ·simp only[B];omega
   refine Ok.chk ?_ ?_
   ·simp only[B];omega
   refine Ok.bind (Ok.get ?_) (λe' tX=>?_)
   ·omega
   refine Ok.join (λz:Ap=>z.Bits.length=32) (λz hz=>?_) (λk' bX=>?_)
   ·refine Ok.some' ?_;simp only[N];omega
   ·refine Ok.cond' (λ_=>bX _ ?_) (λ_=>bX _ ?_)
    ·simp only[N];exact hy
    ·simp only[N];exact hy
  ·refine Ok.loop (λx:Int×Int×Ap=>0≤x.2.1∧x.2.1≤281474976710656∧0≤x.1∧x.1≤1024∧x.2.2.Bits.length=32) (λx=>(1025 - x.1).toNat) (λx hx k' bX=>?_) ?_ ?_
   ·have f1:=NS hx.1;have f2:=LS (n:=x.2.1 % 1024) (by omega) (by omega);have f3:=hO (a:=x.2.1 % 1024) (b:=32) (by omega);rw[f1,f2,f3];refine Ok.join (λy:Bool=>y=true→x.1<1024∧x.2.1≤a1) (λy hy=>?_) (λk2 JV=>?_)
    ·refine Ok.cond' (λh=>?_) (λ_=>hk _ hx.2.2.2.2);have hy:=hy h;refine Ok.chk ?_ ?_
     ·simp only[B];omega
     refine Ok.bind (Ok.get ?_) (λe he=>?_)
     ·omega
     refine Ok.chkn ?_ ?_
     ·simp only[B];omega
     refine Ok.chk ?_ ?_
     ·simp only[B];omega
     refine Ok.bind (Ok.get ?_) (λe' tX=>?_)
     ·omega
     have g1:=DA (a:=x.1) (b:=1) (by omega) (by omega);have g2:=DA (a:=x.2.1) (b:=1) (by omega) (by omega);refine bX _ ?_ ?_
     ·simp only[N];omega
     ·simp only;omega
    ·refine Ok.cond' (λh=>JV _ λq=>?_) (λ_=>JV _ λq=>nomatch q);simp only[B]at h q;omega
   ·have g:=DA (a:=a0.Top) (b:=1) (by omega) (by omega);simp only;omega
   ·simp only;omega
def zh1:Ok (Fl) λr=>wt r≤32∧32≤wt r:=by
 unfold Fl
 refine .j (λy1:Ap=>wt y1≤32∧32≤wt y1) (λy1 qW=> .s ?_)
  λk2 JV=> .l (λx3:Int×Ap=>0≤x3.1∧x3.1≤32∧x3.2.Bits.length=x3.1) (λx3:Int×Ap=>(32 - x3.1).toNat) (λx3 FY k4 TV=> .c (λh1=> .g ?_ (TV _ ?_ ?_))
  λh1=>JV _ ?_) ?_ ?_
 all_goals (try simp only[NB]at *)<;>(try simp(disch:=omega) only[DA,PA]at *)<;>omega
def VT{a0 a1}(ha:wt a1≤1000000000):Ok (Bz a0 a1) λr=>wt r≤64:=by
 unfold Bz
 refine .j (λy1:Bool=>y1=false→a1.length=32) (λy1 qW=> .c (λh1=> .s ?_)
  λh1=>have i2:=qW h1; .g ?_ (.b zh1 λr3 tW=> .s ?_))
  λk2 JV=> .c (λ_=>JV _ nofun)
  λh3=>JV _ λq4=>?_
 all_goals (try simp only[NB]at *)<;>omega
def zeb{a0 a1 a2}(ha:wt a1≤1000000000)(hb:wt a2≤1000000000):Ok (Ee a0 a1 a2) λr=>wt r≤76:=by
 unfold Ee
 refine .j (λy1:Bool=>y1=false→a1.length=12∧a2.length=32) (λy1 qW=> .c (λh1=> .s ?_)
  λh1=>have i2:=qW h1; .g ?_ (.b (VT ?_) λr3 tW=> .s ?_))
  λk2 JV=> .c (λ_=>JV _ nofun)
  λh3=> .c (λ_=>JV _ nofun)
  λh4=>JV _ λq5=>?_
 all_goals (try simp only[NB]at *)<;>omega
def zp7{a0 a1 a2 a3 a4}(ha:wt a0≤1000000000)(hb:wt a2≤1000000000)(hc:wt a4≤1000000000):Ok (Gk a0 a1 a2 a3 a4) λr=>wt r.1≤wt a0∧wt r.2.1≤300:=by
 unfold Gk
 refine .cp ?_ (.jt (λy2=> .c (λh1=> .s ?_)
  λh1=> .jt (λy5=> .c (λh2=> .s ?_)
  λh2=> .c (λh3=> .s ?_)
  λh3=> .b (zeB ?_ ?_ ?_) λr7 ⟨NW,hr7i⟩=> .s ?_)
  λk6 QW=> .c (λ_=>QW _)
  λ_=>QW _)
  λk3 KV=> .c (λ_=>KV _)
  λh5=>have f6:=nV (nf h5); .b (zar ?_) λr4 VV=> .c (λ_=>KV _)
  λh7=> .c (λ_=>KV _)
  λ_=>KV _)
 all_goals (try simp only[NB]at *)<;>(try simp(disch:=omega) only[DA,PA]at *)<;>omega
def WO{a0 a1 a2}(ha:wt a0≤1000000000)(hb:wt a2≤1000000000):Ok (Cc a0 a1 a2) λr=>wt r.1≤wt a0∧wt r.2.1≤300:=by
 unfold Cc
 refine .cp ?_ (.b (PJ ?_) λr2 dW=> .c (λh1=> .s ?_)
  λh1=>have i2:=dW (nf h1); .b (zp7 ?_ ?_ ?_) λr3 tW=> .j (λy4:Ak=>wt y4≤wt a0) (λy4 dZ=> .s ?_)
  λk5 mW=> .c (λh3=>mW _ ?_)
  λh3=>mW _ ?_)
 all_goals (try simp only[NB]at *)<;>omega
def zeD{a0 a1}(ha:wt a0≤1000000000)(hb:wt a1≤1000000000):Ok (Dz a0 a1) λr=>wt r≤a0.length+a1.length:=by
 unfold Dz;refine .g ?_ (.g ?_ (.s ?_))
 all_goals (try simp only[NB]at *)<;>omega
def tL{a0 a1}(ha:wt a0≤1000000000)(hb:wt a1≤1000000000):Ok (Bo a0 a1) λr=>wt r≤a0.Cur.Key.length+160:=by
 unfold Bo;refine .b (PM ?_) λr1 OV=> .b (zeD ?_ ?_) λr2 dW=> .s ?_
 all_goals (try simp only[NB]at *)<;>omega
def zaY{a0 a1 a2}(ha:wt a0≤1000000000)(hb:wt a1≤1000000000)(hc:wt a2≤1000000000):Ok (Di a0 a1 a2) λr=>wt r≤a0.length+a1.length+a2.length:=by
 unfold Di;refine .g ?_ (.g ?_ (.g ?_ (.s ?_)))
 all_goals (try simp only[NB]at *)<;>omega
def zhe{a0 a1}(ha:wt a0≤1000000000):Ok (Bv a0 a1) λr=>wt r≤wt a0:=by
 unfold Bv
 refine .cp ?_ (.jt (λy2=> .j (λy5:Ak=>wt y5≤wt a0) (λy5 R6=> .s ?_)
  λk6 QW=> .c (λh1=>QW _ ?_)
  λh1=>QW _ ?_)
  λk3 KV=> .b (PJ ?_) λr4 VV=> .c (λh2=>have i3:=VV h2; .c (λh4=> .c (λh5=> .c (λ_=>KV _)
  λ_=>KV _)
  λ_=>KV _)
  λ_=>KV _)
  λ_=>KV _)
 all_goals (try simp only[NB]at *)<;>omega
def zah{a0}:Ok (Bk a0) λr=>r.length≤6:=by
 unfold Bk
 refine .c (λh1=> .s ?_)
  λh1=> .b (zG ?_) λr1 OV=> .s ?_
 all_goals (try simp only[NB]at *)<;>omega
def zhr{a0}(ha:wt a0≤1000000000):Ok (Fd a0) λr=>wt r.1≤wt a0∧wt r.2.1≤300:=by
 unfold Fd
 refine .jt (λy1=> .c (λh1=> .cp ?_ (.s ?_))
  λh1=> .b zah λr5 QV=> .b (WO ?_ ?_) λr6 uW=> .s ?_)
  λk2 JV=> .b (PJ ?_) λr3 tW=> .c (λ_=>JV _)
  λ_=>JV _
 all_goals (try simp only[NB]at *)<;>(try simp(disch:=omega) only[DA,PA]at *)<;>omega
def zjq{a0}(ha:wt a0≤1000000000):Ok (Fn a0) λr=>wt r.1≤wt a0∧wt r.2.1≤300:=by
 unfold Fn
 refine .jt (λy1=> .c (λh1=> .cp ?_ (.s ?_))
  λh1=> .b zah λr5 QV=> .b (WO ?_ ?_) λr6 uW=> .s ?_)
  λk2 JV=> .b (PJ ?_) λr3 tW=> .c (λ_=>JV _)
  λ_=>JV _
 all_goals (try simp only[NB]at *)<;>omega
def zqY{a0}(ha:wt a0≤1000000000):Ok (Ff a0) λr=>wt r.1≤wt a0+32:=by
 unfold Ff
 refine .cp ?_ (.jt (λy2=> .c (λh1=> .s ?_)
  λh1=> .b (XL ?_) λr5 QV=> .s ?_)
  λk3 KV=> .b (PJ ?_) λr4 VV=> .c (λ_=>KV _)
  λh2=>have i3:=VV (nf h2); .c (λ_=>KV _)
  λh4=> .c (λ_=>KV _)
  λ_=>KV _)
 all_goals (try simp only[NB]at *)<;>omega
def zq9{a0}(ha:wt a0≤1000000000):Ok (He a0) λr=>wt r.1≤wt a0+64:=by
 unfold He
 refine .cp ?_ (.jt (λy2=> .c (λh1=> .s ?_)
  λh1=> .b (XL ?_) λr5 QV=> .b (VT ?_) λr6 uW=> .s ?_)
  λk3 KV=> .b (PJ ?_) λr4 VV=> .c (λ_=>KV _)
  λh2=>have i3:=VV (nf h2); .c (λ_=>KV _)
  λ_=>KV _)
 all_goals (try simp only[NB]at *)<;>(try simp(disch:=omega) only[DA,PA]at *)<;>omega
def zrk{a0 a1}(ha:a0.length≤1000000000)(hb:a1.length≤1000000000):Ok (Bp a0 a1) λr=>True:=by
 unfold Bp
 refine .c (λh1=> .s trivial)
  λh1=> .jt (λy1=> .s trivial)
  λk2 JV=> .l (λx3:Int×Int=>0≤x3.2∧x3.2≤(a0.length:Int)) (λx3:Int×Int=>((a0.length:Int) - x3.2).toNat) (λx3 FY k4 TV=> .c (λh2=> .bi ?_ ?_ λe5 DX VX=> .bi ?_ ?_ λe6 IZ dY=>TV _ ?_ ?_)
  λ_=>JV _) ?_ ?_
 all_goals (try simp only[NB]at *)<;>(try simp(disch:=omega) only[DA,PA]at *)<;>omega
def zec{a0 a1}(ha:a0.length≤1000000000)(hb:a1.length≤1000000000):Ok (Bn a0 a1) λr=>True:=by
 unfold Bn
 refine .jt (λy1=> .s trivial)
  λk2 JV=> .c (λh1=> .b (zrk ?_ ?_) λr3 _=>JV _)
  λ_=>JV _
 all_goals (try simp only[NB]at *)<;>omega
def zqb{a0 a1 a2}(ha:wt a0≤1000000000)(hb:wt a2≤1000000000):Ok (Hd a0 a1 a2) λr=>r.1.length≤200:=by
 unfold Hd
 refine .b (PM ?_) λr1 OV=> .jt (λy2=> .c (λh1=> .s ?_)
  λh1=> .b (zar ?_) λr6 uW=> .b (zeM ?_ ?_) λr7 NW=> .s ?_)
  λk3 KV=> .c (λ_=>KV _)
  λh2=> .c (λ_=>KV _)
  λh3=> .b AU λr4 VV=> .b (zec ?_ ?_) λr5 _=>KV _
 all_goals (try simp only[NB]at *)<;>omega
def zem{a0 a1 a2}(ha:wt a0≤1000000000)(hb:wt a2≤1000000000):Ok (Ct a0 a1 a2) λr=>wt r.1≤wt a0∧r.2.1.length≤200:=by
 unfold Ct
 refine .cp ?_ (.jt (λy2=> .c (λh1=> .s ?_)
  λh1=> .b zh4 λr5 ⟨QV,hr5i⟩=> .c (λh2=> .s ?_)
  λh2=>have i3:=hr5i (nf h2); .b (zqb ?_ ?_) λr6 uW=> .c (λh4=> .s ?_)
  λh4=> .b (zh7 ?_) λr7 NW=> .s ?_)
  λk3 KV=> .c (λ_=>KV _)
  λh5=>have f6:=nV (nf h5); .b (PM ?_) λr4 VV=> .c (λ_=>KV _)
  λ_=>KV _)
 all_goals (try simp only[NB]at *)<;>omega
def zhd{a0 a1 a2}(ha:wt a0≤1000000000)(hb:wt a2≤1000000000):Ok (Ef a0 a1 a2) λr=>wt r.1≤wt a0+64∧r.2.1.length≤200:=by
 unfold Ef
 refine .cp ?_ (.jt (λy2=> .c (λh1=> .s ?_)
  λh1=> .b (cV ?_) λr5 QV=> .c (λh2=> .s ?_)
  λh2=> .c (λh3=> .b (zem ?_ ?_) λr6 uW=> .c (λh4=> .s ?_)
  λh4=> .jt (λy7=> .j (λy9:Ak=>wt y9≤wt a0+64) (λy9 GY=> .s ?_)
  λk10 PV=> .c (λh5=>PV _ ?_)
  λh5=>PV _ ?_)
  λk8 EW=> .c (λ_=>EW _)
  λ_=>EW _)
  λh3=> .jt (λy11=> .c (λh7=> .jt (λy13=> .c (λh8=> .s ?_)
  λh8=> .b (zem ?_ ?_) λr15 GW=> .c (λh9=> .s ?_)
  λh9=> .s ?_)
  λk14 RV=> .c (λ_=>RV _)
  λ_=>RV _)
  λh7=> .jt (λy16=> .c (λHW=> .b (VT ?_) λr18 EY=> .b (zem ?_ ?_) λr19 EX=> .c (λaX=> .s ?_)
  λaX=> .s ?_)
  λHW=> .s ?_)
  λk17 gW=> .c (λ_=>gW _)
  λ_=>gW _)
  λk12 wW=> .c (λ_=>wW _)
  λ_=>wW _)
  λk3 KV=> .b (PJ ?_) λr4 VV=> .c (λ_=>KV _)
  λxY=>have i16:=VV (nf xY); .c (λ_=>KV _)
  λjZ=> .c (λ_=>KV _)
  λ_=>KV _)
 all_goals (try simp only[NB]at *)<;>(try simp(disch:=omega) only[DA,PA]at *)<;>omega
def zhX{a0 a1}(ha:wt a0≤1000000000):Ok (Fo a0 a1) λr=>r.1.length≤wt a0:=by
 unfold Fo
 refine .b (PJ ?_) λr1 OV=> .c (λh1=> .s ?_)
  λh1=>have i2:=OV (nf h1); .jt (λy2=> .c (λh3=> .g ?_ (.s ?_))
  λh3=> .c (λh4=> .g ?_ (.s ?_))
  λh4=> .jt (λy4=> .c (λh5=> .g ?_ (.s ?_))
  λh5=> .s ?_)
  λk5 mW=> .c (λ_=>mW _)
  λ_=>mW _)
  λk3 KV=> .c (λ_=>KV _)
  λ_=>KV _
 all_goals (try simp only[NB]at *)<;>(try simp(disch:=omega) only[DA,PA]at *)<;>omega
def zog{a0 a1 a2}(ha:wt a0≤1000000000)(hb:wt a2≤1000000000):Ok (Hf a0 a1 a2) λr=>wt r.1≤wt a0+64:=by
 unfold Hf
 refine .cp ?_ (.jt (λy2=> .c (λh1=> .s ?_)
  λh1=> .c (λh2=> .b (zq9 ?_) λr7 NW=> .c (λh3=> .s ?_)
  λh3=> .s ?_)
  λh2=> .c (λh4=> .s ?_)
  λh4=> .s ?_)
  λk3 KV=> .b (PJ ?_) λr4 VV=> .c (λ_=>KV _)
  λh5=>have i6:=VV (nf h5); .c (λ_=>KV _)
  λh7=> .c (λ_=>KV _)
  λh8=> .b zah λr5 QV=> .b (cV ?_) λr6 uW=>KV _)
 all_goals (try simp only[NB]at *)<;>(try simp(disch:=omega) only[DA,PA]at *)<;>omega
def zpN{a0}(ha:wt a0≤1000000000):Ok (Hm a0) λr=>wt r≤400:=by
 unfold Hm
 refine .b (PJ ?_) λr1 OV=> .c (λh1=> .s ?_)
  λh1=>have i2:=OV (nf h1); .j (λy2:(List (List UInt8))=>wt y2≤200) (λy2 zW=> .g ?_ (.g ?_ (.j (λy4:(List (List UInt8))=>wt y4≤400) (λy4 dZ=> .s ?_)
  λk5 mW=> .c (λh3=> .g ?_ (.g ?_ (mW _ ?_)))
  λh3=>mW _ ?_)))
  λk3 KV=> .c (λh4=> .g ?_ (.g ?_ (KV _ ?_)))
  λh4=>KV _ ?_
 all_goals (try simp only[NB]at *)<;>omega
def zho{a0 a1}(ha:wt a0≤1000000000):Ok (Bw a0 a1) λr=>wt r≤wt a0+1600:=by
 unfold Bw;refine have hw:=JB a0.Cands;
 .j (λy1:Bool=>y1=false→wt a0≤39∧a0.Cands.length≤3) (λy1 qW=> .c (λh1=> .cp ?_ (.s ?_))
  λh1=>have i2:=qW h1; .j (λy4:Aj=>wt y4≤1600) (λy4 dZ=> .s ?_)
  λk5 mW=> .l (λx6:Int×Aj=>0≤x6.1∧x6.1≤(a0.Cands.length:Int)∧wt x6.2≤40 *x6.1) (λx6:Int×Aj=>((a0.Cands.length:Int) - x6.1).toNat) (λx6 G5 k7 UV=> .c (λh3=> .bi ?_ ?_ λe8 J3 I2=> .j (λy9:Aj=>wt y9≤40 *x6.1+40) (λy9 GY=>UV _ ?_ ?_)
  λk10 PV=> .c (λh4=> .bi ?_ ?_ λe11 S6 L3=> .m (uA ?_) (.g ?_ (PV _ ?_)))
  λh4=>PV _ ?_)
  λh3=>mW _ ?_) ?_ ?_)
  λk2 JV=> .c (λ_=>JV _ nofun)
  λh5=>have f6:=SH (nf h5);JV _ λq7=>?_
 all_goals (try simp only[NB]at *)<;>(try simp(disch:=omega) only[DA,PA]at *)<;>omega
def zib{a0 a1 a2 a3}(ha:wt a0≤1000000000)(hb:wt a3≤1000000000):Ok (Eg a0 a1 a2 a3) λr=>wt r.1≤wt a0+1700:=by
 unfold Eg
 refine .j (λy1:Bool=>y1=false→a3.length=12) (λy1 qW=> .c (λh1=> .cp ?_ (.s ?_))
  λh1=>have i2:=qW h1; .b (zho ?_) λr5 QV=>have hw:=JB r5.Cands; .jt (λy6=> .c (λh3=> .cp ?_ (.s ?_))
  λh3=> .g ?_ (.g ?_ (.s ?_)))
  λk7 UV=> .l (λx8:Int×Aj=>0≤x8.1∧x8.1≤(r5.Cands.length:Int)) (λx8:Int×Aj=>((r5.Cands.length:Int) - x8.1).toNat) (λx8 Q4 k9 WW=> .c (λh4=> .h ?_ (.bg ?_ λe10 qY BX=> .c (λh5=> .cp ?_ (.s ?_))
  λh5=>WW _ ?_ ?_))
  λ_=>UV _) ?_ ?_)
  λk2 JV=> .c (λ_=>JV _ nofun)
  λh6=>have f7:=SH (nf h6); .c (λ_=>JV _ nofun)
  λh8=> .c (λ_=>JV _ nofun)
  λh9=>have f10:=QF (nf h9); .c (λ_=>JV _ nofun)
  λHW=>JV _ λq12=>?_
 all_goals (try simp only[NB]at *)<;>(try simp(disch:=omega) only[DA,PA]at *)<;>omega
def zp9{a0 a1 a2 a3}(ha:wt a0≤1000000000)(hb:wt a3≤1000000000):Ok (Fp a0 a1 a2 a3) λr=>wt r.1≤wt a0+1600:=by
 unfold Fp;refine have hw:=JB a0.Cands;
 .b (zsV ?_) λr1 ⟨OV,O4⟩=> .j (λy2:Bool=>y2=false→wt a0≤39∧a0.Cands.length≤3) (λy2 zW=> .c (λh1=> .cp ?_ (.s ?_))
  λh1=>have i2:=zW h1; .j (λy6:Aj=>wt y6≤1600) (λy6 vX=> .s ?_)
  λk7 UV=> .l (λx8:Int×Aj=>0≤x8.1∧x8.1≤(a0.Cands.length:Int)∧wt x8.2≤40 *x8.1) (λx8:Int×Aj=>((a0.Cands.length:Int) - x8.1).toNat) (λx8 Q4 k9 WW=> .c (λh3=> .bi ?_ ?_ λe10 qY BX=> .j (λy12:Aj=>wt y12≤40 *x8.1+40) (λy12 DY=>WW _ ?_ ?_)
  λk13 lW=> .c (λh4=> .bi ?_ ?_ λe14 R4 K0=> .m (uA ?_) (.g ?_ (lW _ ?_)))
  λh4=>lW _ ?_)
  λh3=>UV _ ?_) ?_ ?_)
  λk3 KV=> .c (λ_=>KV _ nofun)
  λh5=>have i6:=O4 (nf h5); .c (λ_=>KV _ nofun)
  λh7=> .b (cV ?_) λr4 VV=> .c (λ_=>KV _ nofun)
  λh8=>KV _ λq9=>?_
 all_goals (try simp only[NB]at *)<;>(try simp(disch:=omega) only[DA,PA]at *)<;>omega
def ziw{a0 a1 a2}(ha:wt a0≤1000000000):Ok (Fg a0 a1 a2) λr=>wt r≤wt a0+1:=by
 unfold Fg;refine have hc:=JS a0 a1;
 have hw:=JB a0;
 .g ?_ (.jt (λy1=> .c (λh1=> .s ?_)
  λh1=> .c (λh2=> .c (λh3=> .s ?_)
  λh3=> .g ?_ (.s ?_))
  λh2=> .h ?_ (.bg ?_ λe3 T8 T6=> .h ?_ (.bg ?_ λe4 yZ KZ=> .h (have:=zC ([]++a0) ((qB a0 a1).toNat) (⟨e4.A,iA .i64 e3.Got a2,e4.Sent⟩:Al);?_) (.bg ?_ λe6 IZ dY=> .j (λy7:(List Al)=>wt y7≤wt a0+1) (λy7 WZ=> .s ?_)
  λk8 EW=> .c (λh4=> .h (have:=zC ([]++a0) ((qB a0 a1).toNat) (⟨e4.A,iA .i64 e3.Got a2,e4.Sent⟩:Al);?_) (.bg ?_ λe9 HZ CY=>EW _ (have:=zC (List.set ([]++a0) ((qB a0 a1).toNat) (⟨e4.A,iA .i64 e3.Got a2,e4.Sent⟩:Al):List Al) ((qB a0 a1).toNat) (⟨e9.A,1000000,e9.Sent⟩:Al);have:=zC ([]++a0) ((qB a0 a1).toNat) (⟨e4.A,iA .i64 e3.Got a2,e4.Sent⟩:Al);?_)))
  λh4=>EW _ (have:=zC ([]++a0) ((qB a0 a1).toNat) (⟨e4.A,iA .i64 e3.Got a2,e4.Sent⟩:Al);?_)))))
  λk2 JV=> .c (λ_=>JV _)
  λh5=>have f6:=wI (nf h5); .c (λ_=>JV _)
  λ_=>JV _)
 all_goals (try simp only[NB]at *)<;>(try simp(disch:=omega) only[DA,PA]at *)<;>omega
def zhz{a0 a1}:Ok (Bx a0 a1) λr=>True:=by
 unfold Bx;refine have hc:=JS a0 a1;
 have hw:=JB a0;
 .j (λy1:Bool=>y1=false→0≤qB a0 a1) (λy1 qW=> .c (λh1=> .s trivial)
  λh1=>have i2:=qW h1; .bi ?_ ?_ λe3 T8 T6=> .bi ?_ ?_ λe4 yZ KZ=> .s trivial)
  λk2 JV=> .c (λ_=>JV _ nofun)
  λh3=>have f4:=wI (nf h3);JV _ λq5=>?_
 all_goals (try simp only[NB]at *)<;>(try simp(disch:=omega) only[DA,PA]at *)<;>omega
def zik{a0 a1 a2}(ha:wt a0≤1000000000):Ok (Dj a0 a1 a2) λr=>wt r.1≤wt a0:=by
 unfold Dj;refine have hc:=JS a0 a1;
 have hw:=JB a0;
 .g ?_ (.j (λy1:Bool=>y1=false→0≤qB a0 a1) (λy1 qW=> .c (λh1=> .s ?_)
  λh1=>have i2:=qW h1; .h ?_ (.bg ?_ λe4 yZ KZ=> .h ?_ (.bg ?_ λe5 DX VX=> .s (have:=zC ([]++a0) ((qB a0 a1).toNat) (⟨e5.A,e5.Got,iA .i64 e4.Sent a2⟩:Al);?_))))
  λk2 JV=> .c (λ_=>JV _ nofun)
  λh3=> .c (λ_=>JV _ nofun)
  λh4=>have f5:=wI (nf h4); .b zhz λr3 _=>JV _ λq6=>?_)
 all_goals (try simp only[NB]at *)<;>(try simp(disch:=omega) only[DA,PA]at *)<;>omega
def ziD{a0 a1}(ha:wt a0≤1000000000):Ok (Dh a0 a1) λr=>True:=by
 unfold Dh;refine have hw:=JB a0.L;
 .jt (λy1=> .s trivial)
  λk2 JV=> .l (λx3:Int=>0≤x3∧x3≤(a0.L.length:Int)) (λx3:Int=>((a0.L.length:Int) - x3).toNat) (λx3 FY k4 TV=> .c (λh1=> .jt (λy5=> .c (λh2=> .s trivial)
  λh2=>TV _ ?_ ?_)
  λk6 QW=> .bi ?_ ?_ λe7 I5 JZ=> .c (λh3=> .bi ?_ ?_ λe8 J3 I2=>QW _)
  λ_=>QW _)
  λ_=>JV _) ?_ ?_
 all_goals (try simp only[NB]at *)<;>(try simp(disch:=omega) only[DA,PA]at *)<;>omega
def zhZ{a0 a1 a2}(ha:wt a0≤1000000000):Ok (Fh a0 a1 a2) λr=>True:=by
 unfold Fh
 refine .jt (λy1=> .s trivial)
  λk2 JV=> .b (ziD ?_) λr3 _=> .c (λ_=>JV _)
  λh1=> .b zhz λr4 _=>JV _
 all_goals (try simp only[NB]at *)<;>omega
def zpd{a0 a1}(ha:wt a0≤1000000000):Ok (Gw a0 a1) λr=>r.length≤a0.length+12:=by
 unfold Gw
 refine .c (λh1=> .g ?_ (.s ?_))
  λh1=>have f2:=QF (nf h1); .b (zG ?_) λr1 OV=> .b (zG ?_) λr2 dW=> .s ?_
 all_goals (try simp only[NB]at *)<;>omega
def zd5{a0 a1 a2 a3 a4}(ha:wt a2≤1000000000)(hb:wt a3≤1000000000):Ok (Ec a0 a1 a2 a3 a4) λr=>r.length≤60:=by
 unfold Ec
 refine .j (λy1:Bool=>y1=false→a2.length=12∧a3.length=12) (λy1 qW=> .c (λh1=> .s ?_)
  λh1=>have i2:=qW h1; .b (zpd ?_) λr3 tW=> .g ?_ (.g ?_ (.g ?_ (.b (zG ?_) λr5 QV=> .s ?_))))
  λk2 JV=> .c (λ_=>JV _ nofun)
  λh3=>have f4:=QF (nf h3); .c (λ_=>JV _ nofun)
  λh5=> .c (λ_=>JV _ nofun)
  λh6=> .c (λ_=>JV _ nofun)
  λh7=>JV _ λq8=>?_
 all_goals (try simp only[NB]at *)<;>omega
def ziV{a0 a1 a2 a3 a4 a5}(ha:wt a3≤1000000000)(hb:wt a4≤1000000000):Ok (Fi a0 a1 a2 a3 a4 a5) λr=>r.length≤16:=by
 unfold Fi
 refine .b (zd5 ?_ ?_) λr1 OV=> .jt (λy2=> .c (λh1=> .s ?_)
  λh1=> .b AU λr4 VV=> .s ?_)
  λk3 KV=> .c (λ_=>KV _)
  λ_=>KV _
 all_goals (try simp only[NB]at *)<;>omega
def zqL{a0 a1}:Ok (Cq a0 a1) λr=>True:=by
 unfold Cq
 refine .jt (λy1=> .s trivial)
  λk2 JV=> .c (λh1=> .c (λ_=>JV _)
  λ_=>JV _)
  λ_=>JV _
def zqj{a0 a1 a2 a3}(ha:wt a3≤1000000000):Ok (Gx a0 a1 a2 a3) λr=>r=0→a3.Kind=3∧1≤a3.Id∧a3.Id≤9:=by
 unfold Gx
 refine .j (λy1:Bool=>y1=false→a3.Kind=3∧1≤a3.Id∧a3.Id≤9) (λy1 qW=> .c (λh1=> .s ?_)
  λh1=>have i2:=qW h1; .b zqL λr3 _=> .c (λh3=> .s ?_)
  λh3=> .b (ziV ?_ ?_) λr4 VV=> .b (zec ?_ ?_) λr5 _=> .c (λh4=> .s ?_)
  λh4=> .s ?_)
  λk2 JV=> .c (λ_=>JV _ nofun)
  λh5=>have f6:=zcL (nf h5); .c (λ_=>JV _ nofun)
  λh7=> .c (λ_=>JV _ nofun)
  λh8=>have f9:=QF (nf h8); .c (λ_=>JV _ nofun)
  λxW=>have f11:=pD (nf xW);JV _ λq12=>?_
 all_goals (try simp only[NB]at *)<;>omega
def zhH{a0 a1}:Ok (By a0 a1) λr=>r.length≤32:=by
 unfold By;refine have hm:=mM a0 a1;
 .s ?_
 all_goals (try simp only[NB]at *)<;>omega
def zd0{a0}:Ok (Bh a0) λr=>r.length≤32:=by
 unfold Bh
 refine .c (λh1=> .s ?_)
  λh1=>have f2:=UK (nf h1); .b zhH λr2 dW=> .b (XL ?_) λr3 tW=> .s ?_
 all_goals (try simp only[NB]at *)<;>omega
def zdY{a0 a1 a2 a3 a4}(ha:wt a1≤1000000000)(hb:wt a2≤1000000000)(hc:wt a4≤1000000000):Ok (Ed a0 a1 a2 a3 a4) λr=>r.length≤60:=by
 unfold Ed
 refine .j (λy1:Bool=>y1=false→a1.length=12∧a2.length=12∧a4.length=16) (λy1 qW=> .c (λh1=> .s ?_)
  λh1=>have i2:=qW h1; .g ?_ (.g ?_ (.b (zG ?_) λr4 VV=> .g ?_ (.s ?_))))
  λk2 JV=> .c (λ_=>JV _ nofun)
  λh3=> .c (λ_=>JV _ nofun)
  λh4=> .c (λ_=>JV _ nofun)
  λh5=> .c (λ_=>JV _ nofun)
  λh6=>JV _ λq7=>?_
 all_goals (try simp only[NB]at *)<;>omega
def zil{a0 a1 a2 a3 a4 a5}(ha:wt a2≤1000000000)(hb:wt a3≤1000000000)(hc:wt a5≤1000000000):Ok (Fj a0 a1 a2 a3 a4 a5) λr=>r.length≤16:=by
 unfold Fj
 refine .b zd0 λr1 OV=> .b (zdY ?_ ?_ ?_) λr2 dW=> .jt (λy3=> .c (λh1=> .s ?_)
  λh1=> .b AU λr5 QV=> .s ?_)
  λk4 TV=> .c (λ_=>TV _)
  λ_=>TV _
 all_goals (try simp only[NB]at *)<;>omega
def zpu{a0 a1}(ha:wt a1≤1000000000):Ok (Gy a0 a1) λr=>True:=by
 unfold Gy
 refine .jt (λy1=> .s trivial)
  λk2 JV=> .c (λh1=>have f2:=pD h1; .c (λh3=> .b (zil ?_ ?_ ?_) λr3 tW=> .b (zec ?_ ?_) λr4 _=>JV _)
  λ_=>JV _)
  λ_=>JV _
 all_goals (try simp only[NB]at *)<;>omega
def zpn{a0 a1 a2}(ha:wt a1≤1000000000)(hb:wt a2≤1000000000):Ok (Gz a0 a1 a2) λr=>r.length≤32:=by
 unfold Gz
 refine .j (λy1:Bool=>y1=false→a1.length=12∧a2.length=12) (λy1 qW=> .c (λh1=> .s ?_)
  λh1=>have i2:=qW h1; .g ?_ (.g ?_ (.b zhH λr3 tW=> .s ?_)))
  λk2 JV=> .c (λ_=>JV _ nofun)
  λh3=>have f4:=UK (nf h3); .c (λ_=>JV _ nofun)
  λh5=>JV _ λq6=>?_
 all_goals (try simp only[NB]at *)<;>omega
def zoD{a0}:Ok (Cs a0) λr=>r.length≤32:=by
 unfold Cs
 refine .c (λh1=> .s ?_)
  λh1=> .b (XL ?_) λr1 OV=> .s ?_
 all_goals (try simp only[NB]at *)<;>omega
def zqt{a0 a1}(ha:wt a0≤1000000000):Ok (Ha a0 a1) λr=>r.length≤a0.length+32:=by
 unfold Ha
 refine .c (λh1=> .s ?_)
  λh1=> .g ?_ (.j (λy1:(List UInt8)=>y1.length≤a0.length+32) (λy1 qW=> .s ?_)
  λk2 JV=> .l (λx3:(List UInt8)×Int=>0≤x3.2∧x3.2≤64∧x3.1.length≤a0.length+32) (λx3:(List UInt8)×Int=>(64 - x3.2).toNat) (λx3 FY k4 TV=> .c (λh2=> .b (XL ?_) λr5 QV=>TV _ ?_ ?_)
  λh2=>JV _ ?_) ?_ ?_)
 all_goals (try simp only[NB]at *)<;>(try simp(disch:=omega) only[DA,PA]at *)<;>omega
def zhl{a0 a1 a2 a3}(ha:wt a1≤1000000000)(hb:wt a2≤1000000000):Ok (Fk a0 a1 a2 a3) λr=>r.length≤64:=by
 unfold Fk
 refine .b (zpn ?_ ?_) λr1 OV=> .b zoD λr2 dW=> .c (λh1=> .s ?_)
  λh1=> .b (zqt ?_) λr3 tW=> .s ?_
 all_goals (try simp only[NB]at *)<;>omega
def zhn{a0 a1 a2}(ha:wt a2≤1000000000):Ok (Fq a0 a1 a2) λr=>wt r.1≤200:=by
 unfold Fq
 refine .j (λy1:Bool=>y1=false→wt a2≤112) (λy1 qW=> .c (λh1=> .s ?_)
  λh1=>have i2:=qW h1; .b (zil ?_ ?_ ?_) λr3 tW=> .c (λh3=> .s ?_)
  λh3=> .cp ?_ (.s ?_))
  λk2 JV=> .c (λ_=>JV _ nofun)
  λh4=>have f5:=pD (nf h4);JV _ λq6=>?_
 all_goals (try simp only[NB]at *)<;>omega
end Go.D
namespace Go.D
def OM{a0}:Ok (Bf a0) λr=>True:=by
 unfold Bf
 refine .c (λh1=> .s trivial)
  λh1=> .s trivial
def znV{a0 a1}:Ok (Co a0 a1) λr=>True:=by
 unfold Co
 refine .jt (λy1=> .s trivial)
  λk2 JV=> .c (λh1=> .c (λh2=> .c (λ_=>JV _)
  λ_=>JV _)
  λ_=>JV _)
  λ_=>JV _
def jT{a0 a1}:Ok (Cp a0 a1) λr=>True:=by
 unfold Cp
 refine .b znV λr1 _=> .c (λh1=> .s trivial)
  λh1=> .c (λh2=> .s trivial)
  λh2=> .jt (λy2=> .s trivial)
  λk3 KV=> .c (λ_=>KV _)
  λ_=>KV _
def zhQ{a0}(ha:wt a0≤1000000000):Ok (Ez a0) λr=>wt r≤a0.Cn.length:=by
 unfold Ez;refine .g ?_ (.s ?_)
 all_goals (try simp only[NB]at *)<;>omega
def zam{a0}(ha:wt a0≤1000000000)(hb:1≤a0.Id∧a0.Id≤9∧1≤a0.Psk.length∧a0.Psk.length≤32∧0≤a0.At.Host∧a0.At.Host≤4294967295∧0≤a0.At.Port∧a0.At.Port≤65535):Ok (Dg a0) λr=>wt r≤wt a0∧r.Id=a0.Id:=by
 unfold Dg;refine .b (zic ?_ ?_ ?_ ?_) λr1 OV=> .s ?_
 all_goals (try simp only[NB]at *)<;>omega
def ziB{a0 a1 a2}(ha:wt a0≤1000000000)(hb:wt a2≤1000000000):Ok (Fa a0 a1 a2) λr=>wt r.1≤wt a0+12∧r.1.Id=a0.Id∧r.2.1.length≤1∧wt r.2.1≤400∧wt r.2.2.1≤2000:=by
 unfold Fa
 refine .cp ?_ (.j (λy2:Bool=>y2=false→CF a0∧a2.length=12) (λy2 zW=> .c (λh1=> .s ?_)
  λh1=>have i2:=zW h1; .c (λh3=> .s ?_)
  λh3=> .g ?_ (.b OM λr5 _=> .g ?_ (.b (zhQ ?_) λr6 uW=> .s ?_)))
  λk3 KV=> .b (lN ?_) λr4 VV=> .c (λ_=>KV _ nofun)
  λh4=>have i5:=VV (nf h4); .c (λ_=>KV _ nofun)
  λh6=>KV _ λq7=>?_)
 all_goals (try simp only[NB]at *)<;>omega
def znZ{a0 a1 a2}(ha:wt a0≤1000000000)(hb:wt a2≤1000000000):Ok (Gm a0 a1 a2) λr=>wt r.1≤wt a0∧r.1.Id=a0.Id∧r.2.1.length≤1∧wt r.2.1≤400∧wt r.2.2.1≤2000:=by
 unfold Gm
 refine .cp ?_ (.j (λy2:Bool=>y2=false→CF a0∧a2.length≤40) (λy2 zW=> .c (λh1=> .s ?_)
  λh1=>have i2:=zW h1; .c (λh3=> .s ?_)
  λh3=> .b (WO ?_ ?_) λr5 QV=> .c (λh4=> .s ?_)
  λh4=> .g ?_ (.g ?_ (.b (tL ?_ ?_) λr6 uW=> .s ?_)))
  λk3 KV=> .b (lN ?_) λr4 VV=> .c (λ_=>KV _ nofun)
  λh5=>have i6:=VV (nf h5); .c (λ_=>KV _ nofun)
  λh7=>KV _ λq8=>?_)
 all_goals (try simp only[NB]at *)<;>omega
def znI{a0 a1}(ha:wt a0≤1000000000):Ok (Gv a0 a1) λr=>wt r.1≤wt a0+32∧r.1.Id=a0.Id∧r.2.1.length≤1∧wt r.2.1≤400∧wt r.2.2.1≤2000:=by
 unfold Gv
 refine .cp ?_ (.j (λy2:Bool=>y2=false→CF a0) (λy2 zW=> .c (λh1=> .s ?_)
  λh1=>have i2:=zW h1; .jt (λy5=> .c (λh3=> .s ?_)
  λh3=> .b (zqY ?_) λr7 NW=> .b (zhr ?_) λr8 OW=> .jt (λy9=> .c (λh4=> .s ?_)
  λh4=> .b OM λr11 _=> .b (tL ?_ ?_) λr12 vW=> .s ?_)
  λk10 PV=> .c (λ_=>PV _)
  λ_=>PV _)
  λk6 QW=> .c (λ_=>QW _)
  λ_=>QW _)
  λk3 KV=> .b (lN ?_) λr4 VV=> .c (λ_=>KV _ nofun)
  λh7=>have i8:=VV (nf h7);KV _ λq9=>?_)
 all_goals (try simp only[NB]at *)<;>omega
def znX{a0 a1}(ha:wt a0≤1000000000):Ok (Gq a0 a1) λr=>wt r.1≤wt a0∧r.1.Id=a0.Id∧r.2.1.length≤2∧wt r.2.1≤900∧wt r.2.2≤2000:=by
 unfold Gq
 refine .cp ?_ (.j (λy2:Bool=>y2=false→CF a0) (λy2 zW=> .c (λh1=> .s ?_)
  λh1=>have i2:=zW h1; .c (λh3=> .b jT λr5 _=> .c (λh4=> .b (zam ?_ ?_) λr6 uW=> .g ?_ (.g ?_ (.s ?_)))
  λh4=> .jt (λy8=> .j (λy10:(List Aa)=>y10.length≤1∧wt y10≤400) (λy10 yX=> .jt (λy13=> .j (λy15:(List Aa)=>y15.length≤2∧wt y15≤900) (λy15 LZ=> .s ?_)
  λk16 MW=> .c (λh5=> .cp ?_ (.g ?_ (MW _ ?_)))
  λh5=>MW _ ?_)
  λk14 RV=> .c (λ_=>RV _)
  λ_=>RV _)
  λk11 SV=> .c (λh7=> .b (zhQ ?_) λr12 vW=> .g ?_ (SV _ ?_))
  λh7=>SV _ ?_)
  λk9 WW=> .c (λ_=>WW _)
  λ_=>WW _)
  λh3=> .c (λh9=> .b (zam ?_ ?_) λr18 EY=> .g ?_ (.g ?_ (.s ?_)))
  λh9=> .b (zhe ?_) λr20 pY=> .b jT λr21 _=> .c (λxW=> .s ?_)
  λxW=> .j (λy22:Ad=>wt y22≤wt a0∧y22.Id=a0.Id) (λy22 S4=> .b (zhr ?_) λr25 rX=> .j (λy26:(List Aa)×(List Ae)×Ad=>y26.1.length≤1∧wt y26.1≤400∧wt y26.2.1≤2000∧wt y26.2.2≤wt a0∧y26.2.2.Id=a0.Id) (λy26 L0=> .s ?_)
  λk27 YW=> .c (λHW=> .g ?_ (.b (tL ?_ ?_) λr28 J2=> .g ?_ (YW _ ?_)))
  λHW=>YW _ ?_)
  λk23 WX=> .c (λaX=> .b OM λr24 _=>WX _ ?_)
  λaX=>WX _ ?_)
  λk3 KV=> .b (lN ?_) λr4 VV=> .c (λ_=>KV _ nofun)
  λwX=>have i14:=VV (nf wX); .c (λ_=>KV _ nofun)
  λxY=>KV _ λq16=>?_)
 all_goals (try simp only[NB]at *)<;>(try simp(disch:=omega) only[DA,PA]at *)<;>omega
def zq8{a0 a1}(ha:wt a0≤1000000000):Ok (Gu a0 a1) λr=>wt r≤wt a0∧r.Id=a0.Id:=by
 unfold Gu
 refine .cp ?_ (.jt (λy2=> .j (λy5:Ad=>wt y5≤wt a0∧y5.Id=a0.Id) (λy5 R6=> .s ?_)
  λk6 QW=> .c (λh1=>QW _ ?_)
  λh1=>QW _ ?_)
  λk3 KV=> .b (lN ?_) λr4 VV=> .c (λ_=>KV _)
  λ_=>KV _)
 all_goals (try simp only[NB]at *)<;>omega
def zqZ{a0}(ha:wt a0≤1000000000):Ok (Hk a0) λr=>wt r.1≤wt a0∧r.1.Id=a0.Id∧wt r.2≤500:=by
 unfold Hk
 refine .b (lN ?_) λr1 OV=> .c (λh1=> .cp ?_ (.s ?_))
  λh1=>have i2:=OV (nf h1); .c (λh3=> .b (zam ?_ ?_) λr3 tW=> .g ?_ (.s ?_))
  λh3=> .b (zam ?_ ?_) λr5 QV=> .s ?_
 all_goals (try simp only[NB]at *)<;>omega
def zdX{a0 a1 a2}(ha:wt a0≤1000000000)(hb:wt a2≤1000000000):Ok (Ei a0 a1 a2) λr=>wt r.1≤wt a0+2000∧r.1.Id=a0.Id∧r.2.1.length≤1∧wt r.2.1≤400∧wt r.2.2≤8000:=by
 unfold Ei
 refine .cp ?_ (.j (λy2:Bool=>y2=false→CF a0∧wt a2≤112) (λy2 zW=> .c (λh1=> .s ?_)
  λh1=>have i2:=zW h1; .jt (λy5=> .c (λh3=> .b (zhn ?_) λr8 OW=> .b (zhl ?_ ?_) λr9 dX=> .b (zeb ?_ ?_) λr10 rW=> .b OM λr11 _=> .g ?_ (.g ?_ (.g ?_ (.b zd0 λr13 eX=> .b (zdY ?_ ?_ ?_) λr14 lX=> .b (zeD ?_ ?_) λr15 GW=> .g ?_ (.cp ?_ (.g ?_ (.s ?_)))))))
  λh3=> .jt (λy17=> .c (λh4=> .s ?_)
  λh4=> .b (zhd ?_ ?_) λr19 EX=> .c (λh5=> .s ?_)
  λh5=> .b (zhX ?_) λr20 pY=> .b (PM ?_) λr21 MZ=> .b (zaY ?_ ?_ ?_) λr22 fX=> .g ?_ (.j (λy23:(List Ae)×Ad=>wt y23.1≤2000∧wt y23.2≤wt a0+1000∧y23.2.Id=a0.Id) (λy23 eZ=> .j (λy26:(List Ae)×Ad=>wt y26.1≤3000∧wt y26.2≤wt a0+1000∧y26.2.Id=a0.Id) (λy26 L0=> .j (λy29:(List Ae)=>wt y29≤4000) (λy29 U6=> .j (λy32:(List Aa)×(List Ae)×Ad=>y32.1.length≤1∧wt y32.1≤400∧wt y32.2.1≤8000∧wt y32.2.2≤wt a0+2000∧y32.2.2.Id=a0.Id) (λy32 hy32=> .s ?_)
  λk33 HY=> .c (λh6=> .b (WO ?_ ?_) λr34 T4=> .j (λy35:(List Aa)×(List Ae)×Ad=>y35.1.length≤1∧wt y35.1≤400∧wt y35.2.1≤8000∧wt y35.2.2≤wt a0+2000∧y35.2.2.Id=a0.Id) (λy35 V6=>HY _ ?_)
  λk36 fY=> .c (λh7=> .g ?_ (.b (tL ?_ ?_) λr37 U4=> .g ?_ (.g ?_ (.g ?_ (.g ?_ (fY _ ?_))))))
  λh7=>fY _ ?_)
  λh6=>HY _ ?_)
  λk30 IY=> .c (λh8=> .g ?_ (.g ?_ (.g ?_ (IY _ ?_))))
  λh8=>IY _ ?_)
  λk27 YW=> .c (λh9=> .g ?_ (.g ?_ (.g ?_ (YW _ ?_))))
  λh9=>YW _ ?_)
  λk24 pW=> .c (λxW=> .g ?_ (.g ?_ (.g ?_ (.g ?_ (pW _ ?_)))))
  λxW=>pW _ ?_))
  λk18 sX=> .c (λ_=>sX _)
  λ_=>sX _)
  λk6 QW=> .c (λaX=> .c (λwX=> .b (cV ?_) λr7 NW=>QW _)
  λ_=>QW _)
  λ_=>QW _)
  λk3 KV=> .b (lN ?_) λr4 VV=> .c (λ_=>KV _ nofun)
  λwY=>have i15:=VV (nf wY); .c (λ_=>KV _ nofun)
  λUY=>KV _ λq17=>have f18:=pD (nf q17);?_)
 all_goals (try simp only[NB]at *)<;>omega
end Go.D
namespace Go.D
def UQ{a0}(ha:wt a0≤1000000000):Ok (Cd a0) λr=>wt r≤wt a0:=by
 unfold Cd
 refine .b (LR ?_) λr1 OV=> .c (λh1=> .cp ?_ (.s ?_))
  λh1=>have i2:=OV (nf h1); .g ?_ (.g ?_ (.s ?_))
 all_goals (try simp only[NB]at *)<;>omega
def zhs{a0}:Ok (Ce a0) λr=>wt r≤0:=by
 unfold Ce;refine .s ?_
 all_goals (try simp only[NB]at *)<;>omega
def zhO{a0 a1 a2 a3}(ha:wt a3≤1000000000):Ok (Fm a0 a1 a2 a3) λr=>wt r≤400:=by
 unfold Fm
 refine .j (λy1:Bool=>y1=false→wt a3≤112) (λy1 qW=> .c (λh1=> .s ?_)
  λh1=>have i2:=qW h1; .g ?_ (.g ?_ (.b (zhl ?_ ?_) λr3 tW=> .b (zeb ?_ ?_) λr4 VV=> .b zhs λr5 QV=> .s ?_)))
  λk2 JV=> .c (λ_=>JV _ nofun)
  λh3=>have f4:=UK (nf h3); .c (λ_=>JV _ nofun)
  λh5=> .c (λ_=>JV _ nofun)
  λh6=>have f7:=QF (nf h6); .c (λ_=>JV _ nofun)
  λh8=>have f9:=pD (nf h8);JV _ λq10=>?_
 all_goals (try simp only[NB]at *)<;>omega
def zeh{a0 a1}(ha:wt a0≤1000000000)(hb:wt a1≤1000000000):Ok (Bi a0 a1) λr=>wt r.1≤wt a0+wt a1+1∧(r.2=0→0<r.1.L.length)∧r.1.L.length≤a0.L.length+1:=by
 unfold Bi
 refine .cp ?_ (.jt (λy2=> .c (λh1=> .s ?_)
  λh1=> .b (zb9 ?_) λr6 uW=> .c (λh2=> .s ?_)
  λh2=> .jt (λy7=> .c (λh3=> .s ?_)
  λh3=> .cp ?_ (.g ?_ (.s ?_)))
  λk8 EW=> .b (zva ?_) λr9 dX=> .c (λ_=>EW _)
  λ_=>EW _)
  λk3 KV=> .b (zkA ?_) λr4 VV=> .c (λ_=>KV _)
  λh5=>have i6:=VV (nf h5); .b (LR ?_) λr5 QV=> .c (λ_=>KV _)
  λ_=>KV _)
 all_goals (try simp only[NB]at *)<;>omega
def zo7{a0}(ha:wt a0≤1000000000):Ok (Hb a0) λr=>wt r.1≤wt a0∧r.2.1.length≤1∧wt r.2.1≤400∧wt r.2.2≤600:=by
 unfold Hb
 refine .cp ?_ (.j (λy2:Bool=>y2=false→wt a0≤235) (λy2 zW=> .c (λh1=> .s ?_)
  λh1=>have i2:=zW h1; .b (zjq ?_) λr5 QV=> .c (λh3=> .s ?_)
  λh3=> .b (tL ?_ ?_) λr6 uW=> .s ?_)
  λk3 KV=> .b (LR ?_) λr4 VV=> .c (λ_=>KV _ nofun)
  λh4=>have i5:=VV (nf h4); .c (λ_=>KV _ nofun)
  λh6=>KV _ λq7=>?_)
 all_goals (try simp only[NB]at *)<;>omega
def zoN{a0 a1}(ha:wt a0≤1000000000)(hb:wt a1≤1000000000):Ok (Gn a0 a1) λr=>wt r.1≤wt a0∧r.2.1.length≤1∧wt r.2.1≤400∧wt r.2.2.1≤2000:=by
 unfold Gn
 refine .cp ?_ (.j (λy2:Bool=>y2=false→wt a0≤235∧a1.length≤40) (λy2 zW=> .c (λh1=> .s ?_)
  λh1=>have i2:=zW h1; .c (λh3=> .s ?_)
  λh3=> .b (WO ?_ ?_) λr5 QV=> .c (λh4=> .s ?_)
  λh4=> .g ?_ (.g ?_ (.b (tL ?_ ?_) λr6 uW=> .s ?_)))
  λk3 KV=> .b (LR ?_) λr4 VV=> .c (λ_=>KV _ nofun)
  λh5=>have i6:=VV (nf h5);KV _ λq7=>?_)
 all_goals (try simp only[NB]at *)<;>omega
def zoT{a0 a1}(ha:wt a0≤1000000000):Ok (Gr a0 a1) λr=>wt r≤wt a0+1600:=by
 unfold Gr
 refine .cp ?_ (.jt (λy2=> .c (λh1=> .s ?_)
  λh1=> .c (λh2=> .b (UQ ?_) λr5 QV=> .s ?_)
  λh2=> .b (zhe ?_) λr6 uW=> .b (zho ?_) λr7 NW=> .s ?_)
  λk3 KV=> .b (LR ?_) λr4 VV=> .c (λ_=>KV _)
  λh3=>have i4:=VV (nf h3); .c (λ_=>KV _)
  λ_=>KV _)
 all_goals (try simp only[NB]at *)<;>(try simp(disch:=omega) only[DA,PA]at *)<;>omega
def zoV{a0 a1 a2 a3 a4}(ha:wt a0≤1000000000)(hb:wt a3≤1000000000)(hc:wt a4≤1000000000):Ok (Hg a0 a1 a2 a3 a4) λr=>wt r.1≤wt a0+5000∧r.2.1.length≤2∧wt r.2.1≤1000∧wt r.2.2.1≤10000:=by
 unfold Hg
 refine .cp ?_ (.j (λy2:Bool=>y2=false→wt a0≤235) (λy2 zW=> .c (λh1=> .s ?_)
  λh1=>have i2:=zW h1; .b (zhd ?_ ?_) λr5 QV=> .c (λh3=> .s ?_)
  λh3=> .b (zhX ?_) λr6 uW=> .b (PM ?_) λr7 NW=> .b (zaY ?_ ?_ ?_) λr8 OW=> .g ?_ (.j (λy9:(List Au)×(List Ae)×Ah=>y9.1.length≤1∧wt y9.1≤400∧wt y9.2.1≤4000∧wt y9.2.2≤wt a0+3000) (λy9 GY=> .b (zib ?_ ?_) λr30 M0=> .b (WO ?_ ?_) λr31 V4=> .jt (λy32=> .c (λh4=> .s ?_)
  λh4=> .g ?_ (.b (tL ?_ ?_) λr34 T4=> .g ?_ (.s ?_)))
  λk33 HY=> .c (λ_=>HY _)
  λ_=>HY _)
  λk10 PV=> .c (λh6=> .g ?_ (.g ?_ (.g ?_ (PV _ ?_))))
  λh6=> .j (λy12:(List Au)×(List Ae)×Ah=>y12.1.length≤1∧wt y12.1≤400∧wt y12.2.1≤4000∧wt y12.2.2≤wt a0+3000) (λy12 DY=>PV _ ?_)
  λk13 lW=> .c (λh7=> .b (zp9 ?_ ?_) λr14 lX=> .j (λy15:(List Ae)×Ah=>wt y15.1≤4000∧wt y15.2≤wt a0+3000) (λy15 LZ=>lW _ ?_)
  λk16 MW=> .c (λh8=> .g ?_ (.g ?_ (.g ?_ (MW _ ?_))))
  λh8=>MW _ ?_)
  λh7=> .j (λy18:(List Au)×(List Ae)×Ah=>y18.1.length≤1∧wt y18.1≤400∧wt y18.2.1≤4000∧wt y18.2.2≤wt a0+3000) (λy18 NZ=>lW _ ?_)
  λk19 DW=> .c (λh9=> .b (zog ?_ ?_) λr20 pY=> .j (λy21:(List Au)×(List Ae)×Ah=>y21.1.length≤1∧wt y21.1≤400∧wt y21.2.1≤4000∧wt y21.2.2≤wt a0+3000) (λy21 O0=>DW _ ?_)
  λk22 gX=> .c (λxW=> .j (λy23:(List Ae)=>wt y23≤2000) (λy23 eZ=> .b (zjq ?_) λr26 FX=> .j (λy27:(List Au)×(List Ae)×Ah=>y27.1.length≤1∧wt y27.1≤400∧wt y27.2.1≤4000∧wt y27.2.2≤wt a0+3000) (λy27 W4=>gX _ ?_)
  λk28 ZW=> .c (λHW=> .g ?_ (.b (tL ?_ ?_) λr29 fZ=> .g ?_ (ZW _ ?_)))
  λHW=>ZW _ ?_)
  λk24 pW=> .c (λaX=> .g ?_ (.g ?_ (.g ?_ (pW _ ?_))))
  λaX=>pW _ ?_)
  λxW=>gX _ ?_)
  λh9=>DW _ ?_))
  λk3 KV=> .b (LR ?_) λr4 VV=> .c (λ_=>KV _ nofun)
  λwX=>have i14:=VV (nf wX); .c (λ_=>KV _ nofun)
  λxY=>KV _ λq16=>have f17:=QF (nf q16);?_)
 all_goals (try simp only[NB]at *)<;>omega
def zh8{a0}(ha:wt a0≤1000000000):Ok (Fe a0) λr=>wt r≤wt a0:=by
 unfold Fe;refine .g ?_ (.s ?_)
 all_goals (try simp only[NB]at *)<;>omega
def zpg{a0 a1}(ha:wt a0≤1000000000):Ok (Gs a0 a1) λr=>wt r≤wt a0+60000:=by
 unfold Gs;refine have hw:=JB a0.L;
 .j (λy1:Bool=>y1=false→wt a0≤2832∧a0.L.length≤12) (λy1 qW=> .c (λh1=> .cp ?_ (.s ?_))
  λh1=>have i2:=qW h1; .j (λy5:Ao=>wt y5≤60000) (λy5 R6=> .s ?_)
  λk6 QW=> .l (λx7:Int×Ao=>0≤x7.1∧x7.1≤(a0.L.length:Int)∧wt x7.2≤4500 *x7.1) (λx7:Int×Ao=>((a0.L.length:Int) - x7.1).toNat) (λx7 hx7 k8 EW=> .c (λh3=> .bi ?_ ?_ λe9 HZ CY=> .b (zoT ?_) λr10 rW=> .jt (λy11=> .j (λy13:Ao=>wt y13≤4500 *x7.1+4500) (λy13 gY=>EW _ ?_ ?_)
  λk14 RV=> .c (λh4=> .g ?_ (RV _ ?_))
  λh4=>RV _ ?_)
  λk12 wW=> .c (λ_=>wW _)
  λ_=>wW _)
  λh3=>QW _ ?_) ?_ ?_)
  λk2 JV=> .b (zkA ?_) λr3 tW=> .c (λ_=>JV _ nofun)
  λh6=>have i7:=tW (nf h6);JV _ λq8=>?_
 all_goals (try simp only[NB]at *)<;>(try simp(disch:=omega) only[DA,PA]at *)<;>omega
def zoc{a0 a1 a2 a3}(ha:wt a0≤1000000000)(hb:wt a3≤1000000000):Ok (Gp a0 a1 a2 a3) λr=>wt r.1≤wt a0+4000∧r.2.1.length≤1∧wt r.2.1≤400∧wt r.2.2.1≤2000:=by
 unfold Gp;refine have hw:=JB a0.T.L;
 .cp ?_ (.j (λy2:Bool=>y2=false→SF a0) (λy2 zW=> .c (λh1=> .s ?_)
  λh1=>have i2:=zW h1; .c (λh3=> .s ?_)
  λh3=> .bi ?_ ?_ λe6 IZ dY=> .b (zoN ?_ ?_) λr7 NW=> .j (λy8:Ac=>wt y8≤wt a0+4000) (λy8 P4=> .s ?_)
  λk9 WW=> .c (λh4=> .h ?_ (.bg ?_ λe10 qY BX=>WW _ (have:=zC a0.T.L a2.toNat r7.1;?_)))
  λh4=>WW _ ?_)
  λk3 KV=> .b (iU ?_) λr4 VV=> .c (λ_=>KV _ nofun)
  λh5=>have i6:=VV (nf h5);KV _ λq7=>?_)
 all_goals (try simp only[NB]at *)<;>(try simp(disch:=omega) only[DA,PA]at *)<;>omega
def zn0{a0 a1}(ha:wt a0≤1000000000):Ok (Gt a0 a1) λr=>wt r.1≤wt a0+60000∧wt r.2≤50000:=by
 unfold Gt;refine have hw:=JB a0.T.L;
 .cp ?_ (.j (λy2:Bool=>y2=false→SF a0) (λy2 zW=> .c (λh1=> .s ?_)
  λh1=>have i2:=zW h1; .b (zpg ?_) λr5 QV=> .j (λy6:(List Ae)=>wt y6≤50000) (λy6 vX=> .s ?_)
  λk7 UV=> .l (λx8:(List Ae)×Int=>0≤x8.2∧x8.2≤(a0.T.L.length:Int)∧wt x8.1≤3400 *x8.2) (λx8:(List Ae)×Int=>((a0.T.L.length:Int) - x8.2).toNat) (λx8 Q4 k9 WW=> .c (λh3=> .bi ?_ ?_ λe10 qY BX=> .b (zb9 ?_) λr11 AW=> .jt (λy12=> .j (λy16:(List Ae)=>wt y16≤3400 *x8.2+3400) (λy16 iY=>WW _ ?_ ?_)
  λk17 gW=> .c (λh4=> .bi ?_ ?_ λe18 X4 P0=> .b (zh8 ?_) λr19 EX=> .g ?_ (gW _ ?_))
  λh4=>gW _ ?_)
  λk13 lW=> .bi ?_ ?_ λe14 R4 K0=> .c (λh5=> .c (λ_=>lW _)
  λh6=> .h ?_ (.bg ?_ λe15 Q0 S0=>lW _))
  λ_=>lW _)
  λh3=>UV _ ?_) ?_ ?_)
  λk3 KV=> .b (iU ?_) λr4 VV=> .c (λ_=>KV _ nofun)
  λh7=>have i8:=VV (nf h7);KV _ λq9=>?_)
 all_goals (try simp only[NB]at *)<;>(try simp(disch:=omega) only[DA,PA]at *)<;>omega
def zpV{a0 a1}(ha:wt a0≤1000000000)(hb:wt a1≤3000)(hc:a1.length≤3):Ok (Hh a0 a1) λr=>r.1.length≤3∧wt r.1≤9100∧wt r.2≤wt a0:=by
 unfold Hh
 refine .j (λy1:(List Au)×Ac=>y1.1.length≤3∧wt y1.1≤9100∧wt y1.2≤wt a0) (λy1 qW=> .s ?_)
  λk2 JV=> .l (λx3:(List Au)×Int×Ac=>0≤x3.2.1∧x3.2.1≤(a1.length:Int)∧(x3.1.length:Int)≤x3.2.1∧wt x3.1≤3001 *x3.2.1∧wt x3.2.2≤wt a0) (λx3:(List Au)×Int×Ac=>((a1.length:Int) - x3.2.1).toNat) (λx3 FY k4 TV=> .c (λh1=> .j (λy5:(List Au)×Ac=>(y5.1.length:Int)≤x3.2.1+1∧wt y5.1≤3001 *x3.2.1+3001∧wt y5.2≤wt a0) (λy5 R6=>TV _ ?_ ?_)
  λk6 QW=> .bi ?_ ?_ λe7 I5 JZ=> .b (ziD ?_) λr8 _=> .j (λy9:Ac=>wt y9≤wt a0) (λy9 GY=> .bi ?_ ?_ λe15 Q0 S0=> .g ?_ (QW _ ?_))
  λk10 PV=> .c (λh2=> .bi ?_ ?_ λe11 S6 L3=> .bi ?_ ?_ λe12 he12 W6=> .b (zpI ?_) λr13 _=> .b (zik ?_) λr14 lX=> .c (λh3=>QW _ ?_)
  λh3=>PV _ ?_)
  λh2=>PV _ ?_)
  λh1=>JV _ ?_) ?_ ?_
 all_goals (try simp only[NB]at *)<;>(try simp(disch:=omega) only[DA,PA]at *)<;>omega
def zrb{a0}(ha:wt a0≤1000000000):Ok (Hj a0) λr=>wt r.1≤wt a0+100∧wt r.2≤200:=by
 unfold Hj
 refine .cp ?_ (.j (λy2:Bool=>y2=false→SF a0) (λy2 zW=> .c (λh1=> .s ?_)
  λh1=>have i2:=zW h1; .b (zcU ?_) λr5 QV=>have hj:=PU r5.2;have ht:=ze2 a0.T.Cap;have hn:wt (VE r5.2)=wt r5.2:=(by simp only[VE,PI,IE,FA,List.length_nil];omega); .m (zaq ?_) (.g ?_ (.s ?_)))
  λk3 KV=> .b (iU ?_) λr4 VV=> .c (λ_=>KV _ nofun)
  λh3=>have i4:=VV (nf h3);KV _ λq5=>?_)
 all_goals (try simp only[NB]at *)<;>omega
def znF{a0 a1}(ha:wt a0≤1000000000):Ok (Hl a0 a1) λr=>wt r.1≤wt a0+4000∧wt r.2.1≤4000:=by
 unfold Hl;refine have hw:=JB a0.T.L;
 .cp ?_ (.b (iU ?_) λr2 dW=> .c (λh1=> .s ?_)
  λh1=>have i2:=dW (nf h1); .j (λy3:Bool=>y3=false→0≤a1∧a1<(a0.T.L.length:Int)) (λy3 vY=> .c (λh3=> .s ?_)
  λh3=>have i4:=vY h3; .bi ?_ ?_ λe7 I5 JZ=> .b (UQ ?_) λr8 OW=> .h ?_ (.bg ?_ λe9 HZ CY=> .bi ?_ ?_ λe10 qY BX=> .b (zh8 ?_) λr11 AW=> .s (have:=zC a0.T.L a1.toNat r8;?_)))
  λk4 TV=> .c (λ_=>TV _ nofun)
  λh5=> .bi ?_ ?_ λe6 IZ dY=>TV _ λq6=>?_)
 all_goals (try simp only[NB]at *)<;>(try simp(disch:=omega) only[DA,PA]at *)<;>omega
def zn1{a0 a1 a2 a3}(ha:wt a0≤1000000000)(hb:wt a3≤900000000):Ok (Hi a0 a1 a2 a3) λr=>wt r.1≤wt a0+50000∧r.2.1.length≤3∧wt r.2.1≤9100∧wt r.2.2≤20000:=by
 unfold Hi
 refine .cp ?_ (.j (λy2:Bool=>y2=false→SF a0) (λy2 zW=> .c (λh1=> .s ?_)
  λh1=>have i2:=zW h1; .b (ziw ?_) λr5 QV=> .b (zhk ?_) λr6 uW=> .c (λh3=> .s ?_)
  λh3=> .j (λy7:(List Au)×(List Ae)×Ac×Ac=>y7.1.length≤3∧wt y7.1≤2000∧wt y7.2.1≤20000∧wt y7.2.2.1≤wt a0+50000) (λy7 WZ=> .b (zpV ?_ ?_ ?_) λr65 hr65=> .s ?_)
  λk8 EW=> .c (λh4=> .jt (λy9=> .c (λh5=> .s ?_)
  λh5=> .b (zcU ?_) λr12 vW=>have hn:wt (VE r12.2)=wt r12.2:=(by simp only[VE,PI,IE,FA,List.length_nil];omega); .g ?_ (.b (ziV ?_ ?_) λr13 eX=> .m (zaq ?_) (.b (zd5 ?_ ?_) λr15 GW=> .b (zeD ?_ ?_) λr16 jY=> .g ?_ (.g ?_ (EW _ ?_)))))
  λk10 PV=> .c (λ_=>PV _)
  λh6=> .b (zhZ ?_) λr11 _=> .c (λ_=>PV _)
  λ_=>PV _)
  λh4=> .j (λy18:(List Au)×(List Ae)×Ac×Ac=>y18.1.length≤3∧wt y18.1≤2000∧wt y18.2.1≤20000∧wt y18.2.2.2≤wt a0+50000) (λy18 NZ=>EW _ ?_)
  λk19 DW=> .c (λh8=> .j (λy20:Bool=>y20=false→1≤r6.1.Id∧r6.1.Id≤(a0.Psks.length:Int)) (λy20 rY=> .c (λh9=> .s ?_)
  λh9=>have i10:=rY h9; .b (zb9 ?_) λr25 rX=> .j (λy26:(List Ae)×Int×Ac×Ac=>wt y26.1≤8000∧wt y26.2.2.2≤wt a0+10000∧0≤y26.2.1∧y26.2.1<(y26.2.2.2.T.L.length:Int)) (λy26 L0=> .h ?_ (.bg ?_ λe38 he38 he38w=> .jt (λy39=> .j (λy42:(List Au)×(List Ae)×Ac=>y42.1.length≤3∧wt y42.1≤1000∧wt y42.2.1≤15000∧wt y42.2.2≤wt a0+40000) (λy42 X6=>DW _ ?_)
  λk43 JY=> .c (λHW=> .b (zo7 ?_) λr44 hr44=> .h ?_ (.bg ?_ λe45 he45 he45w=> .g ?_ (.g ?_ (JY _ (have:=zC y26.2.2.2.T.L y26.2.1.toNat r44.1;?_)))))
  λHW=>JY _ ?_)
  λk40 OZ=> .c (λaX=> .c (λwX=> .b (cV ?_) λr41 Y4=>OZ _)
  λ_=>OZ _)
  λ_=>OZ _))
  λk27 YW=> .c (λwY=> .bi ?_ ?_ λe28 he28 he28w=> .b (zhO ?_) λr29 fZ=> .b (zeh ?_ ?_) λr30 M0=>have hl:=JB r30.1.L; .c (λxY=> .s ?_)
  λxY=> .b (zd5 ?_ ?_) λr31 V4=> .b (zaY ?_ ?_ ?_) λr32 hr32=> .g ?_ (.bi ?_ ?_ λe33 he33 he33w=> .b zd0 λr34 T4=> .b (zdY ?_ ?_ ?_) λr35 hr35=> .b (zaY ?_ ?_ ?_) λr36 N2=> .g ?_ (.g ?_ (.g ?_ (.g ?_ (.g ?_ (YW _ ?_)))))))
  λwY=>YW _ ?_)
  λk21 iW=> .b (zqj ?_) λr22 fX=> .c (λ_=>iW _ nofun)
  λUY=> .c (λ_=>iW _ nofun)
  λjZ=> .bi ?_ ?_ λe23 he23 Y6=> .b (zpu ?_) λr24 _=>iW _ λq18=>?_)
  λh8=> .j (λy46:(List Au)×(List Ae)×Ac×Ac=>y46.1.length≤3∧wt y46.1≤2000∧wt y46.2.1≤20000∧wt y46.2.2.2≤wt a0+50000) (λy46 hy46=>DW _ ?_)
  λk47 T0=> .c (λPZ=> .b (zb9 ?_) λr48 hr48=> .j (λy49:Bool=>y49=false→0≤r48) (λy49 Z6=> .c (λQZ=> .s ?_)
  λQZ=>have i21:=Z6 QZ; .b (zcU ?_) λr52 hr52=> .b (zhZ ?_) λr53 _=> .j (λy54:(List UInt8)=>y54.length≤32) (λy54 hy54=>have hn:wt (VE y54)=wt y54:=(by simp only[VE,PI,IE,FA,List.length_nil];omega); .bi ?_ ?_ λe56 he56 b7=> .b (zoV ?_ ?_ ?_) λr57 hr57=> .h ?_ (.bg ?_ λe58 he58 d7=> .g ?_ (.j (λy59:(List Ae)×Ac=>wt y59.1≤200∧wt y59.2≤wt a0+40000) (λy59 hy59=> .g ?_ (.j (λy62:(List Ae)=>wt y62≤20000) (λy62 hy62=>T0 _ ?_)
  λk63 m7=> .c (λO1=> .g ?_ (.g ?_ (.g ?_ (m7 _ ?_))))
  λO1=>m7 _ ?_))
  λk60 n7=> .c (λXZ=> .m (zaq ?_) (.g ?_ (n7 _ (have:=zC a0.T.L r48.toNat r57.1;?_))))
  λXZ=>n7 _ (have:=zC a0.T.L r48.toNat r57.1;?_))))
  λk55 o7=> .c (λP1=>o7 _ ?_)
  λP1=>o7 _ ?_)
  λk50 U0=> .c (λ_=>U0 _ nofun)
  λs5=> .bi ?_ ?_ λe51 he51 he51w=>U0 _ λq26=>?_)
  λPZ=>T0 _ ?_)
  λk3 KV=> .b (iU ?_) λr4 VV=> .c (λ_=>KV _ nofun)
  λL5=>have i28:=VV (nf L5); .c (λ_=>KV _ nofun)
  λt8=>KV _ λq30=>have f31:=QF (nf q30);?_)
 all_goals (try simp only[NB]at *)<;>(try simp(disch:=omega) only[DA,PA]at *)<;>omega
end Go.D
namespace Go.D
def zgV{α:Type}[Wt α](l:List α)(i:Nat):Nat:=match l[i]? with
 | some c=>wt c
 | none=>0
def XN{α:Type}[Wt α]{l:List α}{i:Nat}{x:α}(h:l[i]?=some x):zgV l i=wt x:=by unfold zgV;rw[h]
def KR{α:Type}[Wt α]{x y:α}:∀{l:List α} {i:Nat},l[i]?=some y→wt (l.set i x)+wt y=wt l+wt x
 | [],_,h=>by simp at h
 | z :: l,0,h=>by
  rw[List.getElem?_cons_zero]at h;cases h;rw[List.set_cons_zero,vD,vD];omega
 | z :: l,i+1,h=>by
  rw[List.getElem?_cons_succ]at h;have:=KR (x:=x) h;rw[List.set_cons_succ,vD,vD];omega
def zsT{e:Aq}(h:nM e=true):1≤e.Kind∧e.Kind≤17∧0≤e.I∧0≤e.J∧0≤e.N∧e.B.length≤200∧e.Ops.length≤16:=by
 simp only[nM,Bool.and_eq_true,pC,decide_eq_true_eq]at h;omega
def zqB{c:Af}(h:mA c):Ok (Im c) λr=>mA r.2:=by
 unfold Im;exact(zfL h (by simp)).bind λq hq=> .some' hq.2
def zql{s a b:List UInt8}{m:Int}(hs:1≤s.length∧s.length≤32)(ha:1≤a.length∧a.length≤32)(hb:1≤b.length∧b.length≤32)(hm:1≤m∧m≤6):fC (HC [a,b] s m)=true:=by
 have e0:eA (s.length:Int) 1 32=true:=YC.2 ⟨by omega,by omega⟩
 have hd:BC ⟨s,0⟩=true:=by
  show(eA (s.length:Int) 1 32&&eA 0 0 10000)=true
  rw[e0];rfl
 have hr:iE ⟨s,0⟩=(⟨s,iA .i64 0 1⟩,xD s 0):=by
  rw[iE,hd];rfl
 have hl:(xD s 0).length=12:=by
  rw[xD,e0];show(List.take 12 _).length=12
  rw[List.length_take,wH (by omega) (by rw[WU];omega)];rfl
 have hj:dF (XG (xD s 0))=true:=by
  rw[XG,show oA (xD s 0)=true by rw[oA,hl];rfl];show(((zM (xD s 0) [106,97,114]).length:Int)==32)=true
  rw[zjw (by omega) (by decide)];rfl
 have ht:FF m=⟨m,[]⟩:=by rw[FF,YC.2 hm];rfl
 have hp:CC a=true∧CC b=true:=⟨YC.2 (by omega),YC.2 (by omega)⟩
 have hto:UC ⟨m,[]⟩=true:=by
  show(eA m 1 6&&true&&decide ((0:Int)≤m)&&true)=true
  rw[YC.2 hm,decide_eq_true (by omega)];rfl
 have h1:iA .i64 0 1=1:=rfl;show(eA 2 1 9&&dF (XG (iE ⟨s,0⟩).2)&&BC (iE ⟨s,0⟩).1&&UC (FF m)&&true&&!(!CC a||(!CC b||false))&&!((FF m).L.any λe=>decide (e.Id>2)))=true
 rw[hr,ht,hto,hp.1,hp.2];simp only;rw[hj,h1];show(true&&true&&(eA (s.length:Int) 1 32&&eA 1 0 10000)&&true&&true&&true&&true)=true
 rw[e0];rfl
def zra{s a b:List UInt8}{m:Int}(h:s.length=8∧a.length=6∧b.length=9)(hm:1≤m∧m≤3):Ok (zb6 s a b m) λr=>wt r≤4000∧TW r:=by
 have hL:=IB;have hw:=zrx s a b m;rw[FA,FA,FA]at hw;refine eF (by rw[FA,FA,FA];omega) ⟨by omega,?_⟩;have hs:=zql (s:=s) (a:=a) (b:=b) (m:=m) (by omega) (by omega) (by omega) (by omega);rw[SU,hs];obtain⟨_,ka,kb,_⟩:=zrJ hs;show[QB 1 a (KB 1),QB 2 b (KB 2)].length=2∧(QB 1 a (KB 1)).Id=1∧(QB 2 b (KB 2)).Id=2
 rw[ka,kb];exact⟨rfl,rfl,rfl⟩
def zvG{b:List UInt8}{f n:Int}(h:b.length≤bA):Ok (mJ b f n) λr=>r.1.length≤b.length:=eF (by rw[FA];exact h) (by
 unfold cut;cases decide (f<0)||(decide (n<0)||(decide (f>(b.length:Int))||decide (n>(b.length:Int) - f)))
 ·rw[cond_false];simp only[List.length_take,List.length_drop];omega
 ·exact Nat.zero_le _)
def zqs(b:List UInt8)(f n:Int)(h:wt b≤bA)(hf:sE .i64 f)(hn:sE .i64 n):Ot b f n=some (cut b f n):=by
 have hl:b.length≤bA:=by rw[←FA];exact h
 have hL:=IB;have hf:=gS hf;have hn:=gS hn;simp only[Ot,aA,cut,List.nil_append]
 by_cases h2:n<0
 ·rw[decide_eq_true h2];cases decide (f<0)<;>rfl
 by_cases h1:f<0
 ·rw[decide_eq_false h2,decide_eq_true h1];rfl
 by_cases h3:n>(b.length:Int)
 ·have h4:(decide (f>(b.length:Int))||decide (n>(b.length:Int) - f))=true:=by simp;omega
  rw[decide_eq_false h2,decide_eq_false h1,decide_eq_true h3,h4];rfl
 have e:wA .i64 (b.length:Int) n=(b.length:Int) - n:=by rw[wA,XB (by omega) (by omega)]
 rw[e]
 by_cases h4:f>(b.length:Int) - n
 ·have h5:(decide (f>(b.length:Int))||decide (n>(b.length:Int) - f))=true:=by simp;omega
  rw[decide_eq_false h2,decide_eq_false h1,decide_eq_false h3,decide_eq_true h4,h5];rfl
 have e2:iA .i64 f n=f+n:=by rw[iA,XB (by omega) (by omega)]
 have e3:(decide (0≤f)&&decide (f≤f+n)&&decide (f+n≤(b.length:Int)))=true:=by simp;omega
 have h5:(decide (f>(b.length:Int))||decide (n>(b.length:Int) - f))=false:=by simp;omega
 rw[decide_eq_false h1,decide_eq_false h2,decide_eq_false h3,decide_eq_false h4,h5];simp only[cond_false,e2];rw[e3,show f+n - f=n by omega];have:((b.drop f.toNat).take n.toNat).length≤bA:=by rw[List.length_take,List.length_drop];omega
 rw[List.length_nil,Nat.zero_add,decide_eq_true this];rfl
def lS.ok{x}(hb:xA [.sl .byte, .v .int, .v .int] x){r}:mJ x.1 x.2.1 x.2.2=some r→Ot x.1 x.2.1 x.2.2=some r:=UA λh=>
 zqs x.1 x.2.1 x.2.2 h (RN hb.2.1 0 (by decide) rfl) (RN hb.2.2 0 (by decide) rfl)
end Go.D

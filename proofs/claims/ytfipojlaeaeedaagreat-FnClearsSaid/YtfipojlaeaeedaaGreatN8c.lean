/-
 The reference's machine comes to an end, and what it gives is small.
-/
import Derived.Test.YtfipojlaeaeedaaGreatN8
set_option linter.all false
namespace Go.D
def IQ{a0 a1 a2 a3}(ha:wt a1≤1000000000):Ok (Bn a0 a1 a2 a3) λr=>r.length≤40∧(0<r.length→a1.length=12):=by
 unfold Bn
 refine .j (λy1:Bool=>y1=false→a1.length=12) (λy1 gW=> .c (λh1=> .s ?_)
  λh1=>have i2:=gW h1; .g ?_ (.b (lF ?_) λr3 wW=> .b (lF ?_) λr4 bW=> .s ?_))
  λk2 KV=> .c (λ_=>KV _ nofun)
  λh3=> .c (λ_=>KV _ nofun)
  λh4=> .c (λ_=>KV _ nofun)
  λh5=>KV _ λq6=>?_
 all_goals (try simp only[NB]at *)<;>omega
def zhX{a0 a1 a2}(ha:wt a1≤1000000000):Ok (Hl a0 a1 a2) λr=>r.length≤32∧(0≤a2∧a2≤6∧a1.length≤100∧a0.length≤1048576→r.length=32):=by
 try simp only[N]at ha
 have hL:=sB;unfold Hl;refine Ok.join (λy1:Bool=>(y1=true∧¬(0≤a2∧a2≤6∧a1.length≤100))∨(y1=false∧a1.length≤100)) (λy1 gW=>?_) (λk2 KV=>?_)
 ·rcases gW with⟨rfl,h⟩ | ⟨rfl,h⟩
  ·exact Ok.some' ⟨Nat.zero_le _,λk=>absurd ⟨k.1,k.2.1,k.2.2.1⟩ h⟩
  ·refine Ok.guard ?_ ?_
   ·simp only[N];omega
   refine Ok.bind (lF ?_) (λr3 wW=>?_)
   ·simp only[N];omega
   simp only[N]at wW;exact Ok.some' ⟨QT _ _,λk=>RJ k.2.2.2 (by omega)⟩
 refine Ok.cond' (λh2=>?_) (λh2=>?_)
 ·simp only[B]at h2;exact KV _ (.inl ⟨rfl,λk=>h2 ⟨k.1,k.2.1⟩⟩)
 ·simp only[B]at h2;refine KV _ ?_
  by_cases h:(a1.length:Int)>100
  ·exact .inl ⟨decide_eq_true h,λk=>by omega⟩
  ·exact .inr ⟨decide_eq_false h,by omega⟩
def zij{a0 a1 a2}(ha:wt a1≤1000000000):Ok (Hm a0 a1 a2) λr=>r.length≤200∧(0≤a2∧a2≤200∧a1.length≤100∧a0.length≤1048576→(r.length:Int)=a2):=by
 have hL:=sB;unfold Hm;refine Ok.join (λy1:Bool=>(y1=true∧¬(0≤a2∧a2≤200∧a1.length≤100∧a0.length≤1048576))∨(y1=false∧(0≤a2∧a2≤200∧a1.length≤100∧a0.length≤1048576))) (λy1 gW=>?_) (λk2 KV=>?_)
 ·rcases gW with⟨rfl,h⟩ | ⟨rfl,h⟩
  ·exact Ok.some' ⟨Nat.zero_le _,λk=>absurd k h⟩
  ·rw[cond_false];refine Ok.join (λy3:List UInt8=>a2≤(y3.length:Int)∧y3.length≤1000) (λy3 I3=>?_) (λk4 mW=>?_)
   ·refine Ok.chk ?_ ?_
    ·simp only[B];omega
    refine Ok.guard ?_ ?_
    ·simp only[N];omega
    refine Ok.some' ?_;simp only[N];omega
   refine Ok.loop (λx5:(List UInt8)×Int=>0≤x5.2∧x5.2≤7∧(x5.1.length:Int)=32 *x5.2) (λx5=>(7 - x5.2).toNat) (λx5 hx5 k6 xW=>?_) ?_ ?_
   ·refine Ok.cond' (λh1=>?_) (λh1=>?_)
    ·simp only[B]at h1;refine Ok.bind (zhX ha) (λr7 aY=>?_);have h7:r7.length=32:=aY.2 (by omega);refine Ok.guard ?_ ?_
     ·simp only[N];omega
     have:=nB (a:=x5.2) (b:=1) (by omega) (by omega);refine xW _ ?_ ?_
     ·simp only[N];omega
     ·simp only[N];omega
    ·simp only[B]at h1;refine mW _ ?_;omega
   ·simp only[N];omega
   ·simp only[N];omega
 refine Ok.cond' (λh2=>?_) (λh2=>?_)
 ·simp only[B]at h2;exact KV _ (.inl ⟨rfl,λk=>h2 ⟨k.1,k.2.1⟩⟩)
 ·simp only[B]at h2;refine Ok.cond' (λh3=>?_) (λh3=>?_)
  ·simp only[B]at h3;exact KV _ (.inl ⟨rfl,λk=>by omega⟩)
  ·simp only[B]at h3;refine KV _ ?_
   by_cases h:(a0.length:Int)>1048576
   ·exact .inl ⟨decide_eq_true h,λk=>by omega⟩
   ·exact .inr ⟨decide_eq_false h,by omega⟩
def zas{a0 a1 a2}(ha:wt a1≤1000000000)(hb:wt a2≤1000000000):Ok (Bu a0 a1 a2) λr=>r.length≤200:=by
 unfold Bu
 refine .j (λy1:Bool=>y1=false→a2.length≤200∧a1.length≤100∧a0.length≤1048576) (λy1 gW=> .c (λh1=> .s ?_)
  λh1=>have i2:=gW h1; .b (zij ?_) λr3 wW=> .j (λy4:(List UInt8)=>y4.length≤200) (λy4 J2=> .s ?_)
  λk5 SW=> .l (λx6:(List UInt8)×Int=>0≤x6.2∧x6.2≤(a2.length:Int)∧(x6.1.length:Int)=x6.2) (λx6:(List UInt8)×Int=>((a2.length:Int) - x6.2).toNat) (λx6 hx6 k7 tX=> .c (λh3=> .bi ?_ ?_ λe8 he8 Y4=> .h ?_ (.bg ?_ λe9 L2 jZ=> .g ?_ (tX _ ?_ ?_)))
  λh3=>SW _ ?_) ?_ ?_)
  λk2 KV=> .c (λ_=>KV _ nofun)
  λh4=> .c (λ_=>KV _ nofun)
  λh5=>KV _ λq6=>?_
 all_goals (try simp only[NB]at *)<;>(try simp(disch:=omega) only[nB,rB]at *)<;>omega
def uJ{a0 a1}(ha:wt a1≤1000000000):Ok (Bg a0 a1) λr=>r.length≤160:=by
 unfold Bg
 refine .j (λy1:Bool=>y1=false→wt a1≤112) (λy1 gW=> .c (λh1=> .s ?_)
  λh1=>have i2:=gW h1; .b (IQ ?_) λr3 wW=> .g ?_ (.g ?_ (.g ?_ (.s ?_))))
  λk2 KV=> .c (λ_=>KV _ nofun)
  λh3=> .c (λ_=>KV _ nofun)
  λh4=>have f5:=DI (nf h4);KV _ λq6=>?_
 all_goals (try simp only[NB]at *)<;>omega
def RO{a0 a1}:Ok (Bl a0 a1) λr=>r.length≤16:=by
 unfold Bl;refine have hm:=QT a0 a1;
 .c (λh1=> .s ?_)
  λh1=> .h ?_ (.g ?_ (.s ?_))
 all_goals (try simp only[NB]at *)<;>omega
def zc4{a0 a1 a2 a3 a4 a5 a6}(ha:wt a0≤1000000000)(hb:wt a2≤1000000000)(hc:wt a6≤1000000000):Ok (Ci a0 a1 a2 a3 a4 a5 a6) λr=>(wt r.1≤300)∧(r.2=true→a2.length=12∧a0.length=32):=by
 unfold Ci
 refine .b (IQ ?_) λr1 WV=> .j (λy2:Bool=>y2=false→a2.length=12∧a0.length=32) (λy2 AW=> .c (λh1=> .s ⟨?_,nofun⟩)
  λh1=>have i2:=AW h1; .g ?_ (.b (zas ?_ ?_) λr4 bW=> .j (λy5:Ab=>wt y5≤280) (λy5 J3=> .b (uJ ?_) λr9 Z4=> .b RO λr10 QX=> .s ⟨?_,λq3=>?_⟩)
  λk6 xW=> .l (λx7:Int×Ab=>0≤x7.1∧x7.1≤16∧x7.2.Tag.length=x7.1∧wt x7.2≤212+x7.1) (λx7:Int×Ab=>(16 - x7.1).toNat) (λx7 hx7 k8 CX=> .c (λh4=> .g ?_ (CX _ ?_ ?_))
  λh4=>xW _ ?_) ?_ ?_))
  λk3 OV=> .c (λ_=>OV _ nofun)
  λh5=> .c (λ_=>OV _ nofun)
  λh6=> .c (λ_=>OV _ nofun)
  λh7=>OV _ λq8=>?_
 all_goals (try simp only[NB]at *)<;>(try simp(disch:=omega) only[nB,rB]at *)<;>omega
def ziP{a0 a1 a2 a3 a4 a5 a6 a7}(ha:wt a0≤1000000000)(hb:wt a3≤1000000000)(hc:wt a7≤1000000000):Ok (Hn a0 a1 a2 a3 a4 a5 a6 a7) λr=>wt r≤1000:=by
 unfold Hn
 refine .b (zc4 ?_ ?_ ?_) λr1 ⟨WV,M2⟩=> .j (λy2:Bool=>y2=false→a3.length=12) (λy2 AW=> .c (λh1=> .s ?_)
  λh1=>have i2:=AW h1; .g ?_ (.b (lF ?_) λr4 bW=> .b (lF ?_) λr5 NW=> .b (uJ ?_) λr6 dX=> .g ?_ (.s ?_)))
  λk3 OV=> .c (λ_=>OV _ nofun)
  λh3=>have i4:=M2 (nf h3);OV _ λq5=>?_
 all_goals (try simp only[NB]at *)<;>omega
def zV{a0}(ha:wt a0≤1000000000):Ok (Bv a0) λr=>r.length≤200:=by
 unfold Bv
 refine .c (λh1=> .s ?_)
  λh1=>have f2:=DI (nf h1); .j (λy1:(List UInt8)=>y1.length≤200) (λy1 gW=> .s ?_)
  λk2 KV=> .c (λh3=> .g ?_ (.g ?_ (.j (λy4:(List UInt8)=>y4.length≤200) (λy4 J2=>KV _ ?_)
  λk5 SW=> .l (λx6:(List UInt8)×Int=>0≤x6.2∧x6.2≤20∧x6.1.length≤140+x6.2) (λx6:(List UInt8)×Int=>(20 - x6.2).toNat) (λx6 hx6 k7 tX=> .c (λh4=> .g ?_ (tX _ ?_ ?_))
  λh4=>SW _ ?_) ?_ ?_)))
  λh3=> .j (λy8:(List UInt8)=>y8.length≤200) (λy8 o9=>KV _ ?_)
  λk9 uX=> .c (λh5=> .g ?_ (.g ?_ (.b (lF ?_) λr11 kZ=> .g ?_ (uX _ ?_))))
  λh5=> .j (λy12:(List UInt8)=>y12.length≤200) (λy12 b5=>uX _ ?_)
  λk13 FW=> .c (λh6=> .g ?_ (.g ?_ (.g ?_ (.b (lF ?_) λr15 ZZ=> .g ?_ (.g ?_ (FW _ ?_))))))
  λh6=> .g ?_ (.b (lF ?_) λr17 d5=> .b (lF ?_) λr18 N2=> .g ?_ (.g ?_ (FW _ ?_)))
 all_goals (try simp only[NB]at *)<;>(try simp(disch:=omega) only[nB,rB]at *)<;>omega
def zcg{a0 a1 a2}(ha:wt a2≤1000000000):Ok (Ck a0 a1 a2) λr=>wt r≤200:=by
 unfold Ck;refine .b (zV ?_) λr1 WV=> .s ?_
 all_goals (try simp only[NB]at *)<;>omega
def DV{a0 a1}(ha:wt a0≤1000000000)(hb:wt a1≤1000000):Ok (Bw a0 a1) λr=>wt r≤201 *a1.length:=by
 unfold Bw;refine have hw:=lC a1;
 .j (λy1:(List Aq)=>wt y1≤201 *a1.length) (λy1 gW=> .s ?_)
  λk2 KV=> .l (λx3:(List Aq)×Int=>0≤x3.2∧x3.2≤(a1.length:Int)∧wt x3.1≤201 *x3.2) (λx3:(List Aq)×Int=>((a1.length:Int) - x3.2).toNat) (λx3 j0 k4 mW=> .c (λh1=> .bi ?_ ?_ λe6 m5 lZ=> .b (zcg ?_) λr7 aY=> .g ?_ (mW _ ?_ ?_))
  λh1=>KV _ ?_) ?_ ?_
 all_goals (try simp only[NB]at *)<;>(try simp(disch:=omega) only[nB,rB]at *)<;>omega
def zcq{a0}(ha:wt a0≤1000000):Ok (Cl a0) λr=>wt r≤201 *a0.length:=by
 unfold Cl;refine have hw:=lC a0;
 .j (λy1:(List Aq)=>wt y1≤201 *a0.length) (λy1 gW=> .s ?_)
  λk2 KV=> .l (λx3:(List Aq)×Int=>0≤x3.2∧x3.2≤(a0.length:Int)∧wt x3.1≤201 *x3.2) (λx3:(List Aq)×Int=>((a0.length:Int) - x3.2).toNat) (λx3 j0 k4 mW=> .c (λh1=> .bi ?_ ?_ λe6 m5 lZ=> .bi ?_ ?_ λe7 n5 mZ=> .b (zcg ?_) λr8 KZ=> .g ?_ (mW _ ?_ ?_))
  λh1=>KV _ ?_) ?_ ?_
 all_goals (try simp only[NB]at *)<;>(try simp(disch:=omega) only[nB,rB]at *)<;>omega
def zib{a0}(ha:wt a0≤1000000000):Ok (Iy a0) λr=>True:=by
 unfold Iy;refine .b (zV ?_) λr1 WV=> .s trivial
 all_goals (try simp only[NB]at *)<;>omega
def zch{a0}(ha:wt a0≤900000000):Ok (Cv a0) λr=>wt r.1≤400:=by
 unfold Cv
 refine .c (λh1=> .s ?_)
  λh1=> .bi ?_ ?_ λe1 AY p9=> .j (λy3:Ab×Ab=>wt y3.2≤a0.length+100) (λy3 I3=> .b (zV ?_) λr28 s9=> .e ?_ (.e ?_ (.c (λh2=> .s ?_)
  λh2=>have:=congrArg List.length (eq_of_beq (nf h2)); .s ?_)))
  λk4 mW=> .c (λh3=> .c (λh4=> .s ?_)
  λh4=> .bi ?_ ?_ λe5 nZ oZ=> .h ?_ (.g ?_ (mW _ ?_)))
  λh3=> .j (λy8:Ab×Ab=>wt y8.2≤a0.length+100) (λy8 o9=>mW _ ?_)
  λk9 uX=> .c (λh5=> .c (λh6=> .s ?_)
  λh6=> .h ?_ (.g ?_ (.h ?_ (.g ?_ (.b (bU ?_) λr12 MY=> .h ?_ (.g ?_ (uX _ ?_)))))))
  λh5=> .j (λy14:Ab×Ab=>wt y14.2≤a0.length+100) (λy14 t9=>uX _ ?_)
  λk15 RX=> .c (λh7=> .c (λh8=> .s ?_)
  λh8=> .bi ?_ ?_ λe16 u9 o5=> .h ?_ (.g ?_ (.h ?_ (.g ?_ (.b (bU ?_) λr20 pZ=> .h ?_ (.g ?_ (.h ?_ (.g ?_ (RX _ ?_)))))))))
  λh7=> .c (λh9=> .s ?_)
  λh9=> .h ?_ (.g ?_ (.b (bU ?_) λr24 v9=> .b (bU ?_) λr25 m0=> .h ?_ (.g ?_ (.h ?_ (.g ?_ (RX _ ?_))))))
 all_goals (try simp only[NB]at *)<;>(try simp(disch:=omega) only[nB,rB]at *)<;>omega
end Go.D
namespace Go.D
def zhT{a0}:Ok (Iq a0) λr=>True:=by
 unfold Iq
 refine .c (λh1=> .s trivial)
  λh1=> .s trivial
def zcC{a0 a1}:Ok (Dh a0 a1) λr=>(True)∧(r=true→a0.Bits.length=32∧0≤a1∧a1≤281474976710655∧ -1≤a0.Top∧a0.Top≤281474976710655):=by
 unfold Dh
 refine .j (λy1:Bool=>y1=false→a0.Bits.length=32∧0≤a1∧a1≤281474976710655∧ -1≤a0.Top∧a0.Top≤281474976710655) (λy1 gW=> .c (λh1=> .s ⟨trivial,nofun⟩)
  λh1=>have i2:=gW h1; .jt (λy3=> .s ⟨trivial,λq3=>?_⟩)
  λk4 mW=> .c (λ_=>mW _)
  λh4=> .b zhT λr5 _=> .c (λh5=> .b (znn ?_) λr6 dX=>mW _)
  λ_=>mW _)
  λk2 KV=> .c (λ_=>KV _ nofun)
  λh6=>have f7:=zl8 (nf h6);KV _ λq8=>?_
 all_goals (try simp only[NB]at *)<;>omega
def zfJ{n:Int}(h0:0≤n):DA .i64 n 1024=n % 1024:=zbn h0
def zfG{n:Int}(h0:0≤n)(h1:n<1024):kD .i64 n 32=n / 32:=by
 unfold kD;rw[Int.tdiv_eq_ediv_of_nonneg h0,yB (by omega) (by omega)]
def zis{a0 a1}(ha:wt a0≤1000000000):Ok (Is a0 a1) λr=>wt r.1≤wt a0∧wt a0≤wt r.1:=by
 have hL:=sB;unfold Is;simp only[N]at ha;refine Ok.same (fH (p:=wt a0≤bA) ?_) ?_
 ·simp only[N];omega
 refine Ok.bind zcC (λr2 HW=>?_);refine Ok.cond' (λh=>Ok.some' ?_) (λh=>?_)
 ·simp only[N];omega
 ·simp only[B]at h;have hm:=HW.2 h;have e1:=zfJ hm.2.1;have e2:=zfG (n:=a1 % 1024) (by omega) (by omega);have e3:=zbn (a:=a1 % 1024) (b:=32) (by omega);rw[e1,e2,e3];refine Ok.join (λy:Ao=>y.Bits.length=32) (λy hy=>?_) (λk hk=>?_)
  ·refine Ok.chk ?_ ?_
   ·simp only[B];omega
   refine Ok.bind (Ok.get ?_) (λe he=>?_)
   ·omega
   refine Ok.chkn ?_ ?_
   ·simp only[B];omega
   refine Ok.chk ?_ ?_
   ·simp only[B];omega
   refine Ok.bind (Ok.get ?_) (λe' VW=>?_)
   ·omega
   refine Ok.join (λz:Ao=>z.Bits.length=32) (λz hz=>?_) (λk' wX=>?_)
   ·refine Ok.some' ?_;simp only[N];omega
   ·refine Ok.cond' (λ_=>wX _ ?_) (λ_=>wX _ ?_)
    ·simp only[N];exact hy
    ·simp only[N];exact hy
  ·refine Ok.loop (λx:Int×Int×Ao=>0≤x.2.1∧x.2.1≤281474976710656∧0≤x.1∧x.1≤1024∧x.2.2.Bits.length=32) (λx=>(1025 - x.1).toNat) (λx hx k' wX=>?_) ?_ ?_
   ·have f1:=zfJ hx.1;have f2:=zfG (n:=x.2.1 % 1024) (by omega) (by omega);have f3:=zbn (a:=x.2.1 % 1024) (b:=32) (by omega);rw[f1,f2,f3];refine Ok.join (λy:Bool=>y=true→x.1<1024∧x.2.1≤a1) (λy hy=>?_) (λk2 KV=>?_)
    ·refine Ok.cond' (λh=>?_) (λ_=>hk _ hx.2.2.2.2);have hy:=hy h;refine Ok.chk ?_ ?_
     ·simp only[B];omega
     refine Ok.bind (Ok.get ?_) (λe he=>?_)
     ·omega
     refine Ok.chkn ?_ ?_
     ·simp only[B];omega
     refine Ok.chk ?_ ?_
     ·simp only[B];omega
     refine Ok.bind (Ok.get ?_) (λe' VW=>?_)
     ·omega
     have g1:=nB (a:=x.1) (b:=1) (by omega) (by omega);have g2:=nB (a:=x.2.1) (b:=1) (by omega) (by omega);refine wX _ ?_ ?_
     ·simp only[N];omega
     ·simp only;omega
    ·refine Ok.cond' (λh=>KV _ λq=>?_) (λ_=>KV _ λq=>nomatch q);simp only[B]at h q;omega
   ·have g:=nB (a:=a0.Top) (b:=1) (by omega) (by omega);simp only;omega
   ·simp only;omega
def zim:Ok (Im) λr=>wt r≤32∧32≤wt r:=by
 unfold Im
 refine .j (λy1:Ao=>wt y1≤32∧32≤wt y1) (λy1 gW=> .s ?_)
  λk2 KV=> .l (λx3:Int×Ao=>0≤x3.1∧x3.1≤32∧x3.2.Bits.length=x3.1) (λx3:Int×Ao=>(32 - x3.1).toNat) (λx3 j0 k4 mW=> .c (λh1=> .g ?_ (mW _ ?_ ?_))
  λh1=>KV _ ?_) ?_ ?_
 all_goals (try simp only[NB]at *)<;>(try simp(disch:=omega) only[nB,rB]at *)<;>omega
def zad{a0 a1}(ha:wt a1≤1000000000):Ok (Cd a0 a1) λr=>wt r≤64:=by
 unfold Cd
 refine .j (λy1:Bool=>y1=false→a1.length=32) (λy1 gW=> .c (λh1=> .s ?_)
  λh1=>have i2:=gW h1; .g ?_ (.b zim λr3 wW=> .s ?_))
  λk2 KV=> .c (λ_=>KV _ nofun)
  λh3=>KV _ λq4=>?_
 all_goals (try simp only[NB]at *)<;>omega
def zcr{a0 a1 a2}(ha:wt a1≤1000000000)(hb:wt a2≤1000000000):Ok (De a0 a1 a2) λr=>wt r≤76:=by
 unfold De
 refine .j (λy1:Bool=>y1=false→a1.length=12∧a2.length=32) (λy1 gW=> .c (λh1=> .s ?_)
  λh1=>have i2:=gW h1; .g ?_ (.b (zad ?_) λr3 wW=> .s ?_))
  λk2 KV=> .c (λ_=>KV _ nofun)
  λh3=> .c (λ_=>KV _ nofun)
  λh4=>KV _ λq5=>?_
 all_goals (try simp only[NB]at *)<;>omega
def zip{a0 a1 a2 a3 a4}(ha:wt a0≤1000000000)(hb:wt a2≤1000000000)(hc:wt a4≤1000000000):Ok (Hq a0 a1 a2 a3 a4) λr=>wt r.1≤wt a0∧wt r.2.1≤300:=by
 unfold Hq
 refine .cp ?_ (.jt (λy2=> .c (λh1=> .s ?_)
  λh1=> .jt (λy5=> .c (λh2=> .s ?_)
  λh2=> .c (λh3=> .s ?_)
  λh3=> .b (zc4 ?_ ?_ ?_) λr7 ⟨aY,hr7i⟩=> .s ?_)
  λk6 xW=> .c (λ_=>xW _)
  λ_=>xW _)
  λk3 OV=> .c (λ_=>OV _)
  λh5=>have f6:=qU (nf h5); .b (IQ ?_) λr4 bW=> .c (λ_=>OV _)
  λh7=> .c (λ_=>OV _)
  λ_=>OV _)
 all_goals (try simp only[NB]at *)<;>(try simp(disch:=omega) only[nB,rB]at *)<;>omega
def EK{a0 a1 a2}(ha:wt a0≤1000000000)(hb:wt a2≤1000000000):Ok (Bk a0 a1 a2) λr=>wt r.1≤wt a0∧wt r.2.1≤300:=by
 unfold Bk
 refine .cp ?_ (.b (dH ?_) λr2 HW=> .c (λh1=> .s ?_)
  λh1=>have i2:=HW (nf h1); .b (zip ?_ ?_ ?_) λr3 wW=> .j (λy4:Ak=>wt y4≤wt a0) (λy4 J2=> .s ?_)
  λk5 SW=> .c (λh3=>SW _ ?_)
  λh3=>SW _ ?_)
 all_goals (try simp only[NB]at *)<;>omega
def zal{a0 a1}(ha:wt a0≤1000000000)(hb:wt a1≤1000000000):Ok (Bx a0 a1) λr=>wt r≤a0.length+a1.length:=by
 unfold Bx;refine .g ?_ (.g ?_ (.s ?_))
 all_goals (try simp only[NB]at *)<;>omega
def sI{a0 a1}(ha:wt a0≤1000000000)(hb:wt a1≤1000000000):Ok (Be a0 a1) λr=>wt r≤a0.Cur.Key.length+160:=by
 unfold Be;refine .b (uJ ?_) λr1 WV=> .b (zal ?_ ?_) λr2 HW=> .s ?_
 all_goals (try simp only[NB]at *)<;>omega
def BR{a0 a1 a2}(ha:wt a0≤1000000000)(hb:wt a1≤1000000000)(hc:wt a2≤1000000000):Ok (Bq a0 a1 a2) λr=>wt r≤a0.length+a1.length+a2.length:=by
 unfold Bq;refine .g ?_ (.g ?_ (.g ?_ (.s ?_)))
 all_goals (try simp only[NB]at *)<;>omega
def zcf{a0 a1}(ha:wt a0≤1000000000):Ok (Co a0 a1) λr=>wt r≤wt a0:=by
 unfold Co
 refine .cp ?_ (.jt (λy2=> .j (λy5:Ak=>wt y5≤wt a0) (λy5 J3=> .s ?_)
  λk6 xW=> .c (λh1=>xW _ ?_)
  λh1=>xW _ ?_)
  λk3 OV=> .b (dH ?_) λr4 bW=> .c (λh2=>have i3:=bW h2; .c (λh4=> .c (λh5=> .c (λ_=>OV _)
  λ_=>OV _)
  λ_=>OV _)
  λ_=>OV _)
  λ_=>OV _)
 all_goals (try simp only[NB]at *)<;>omega
def xV{a0}:Ok (By a0) λr=>r.length≤6:=by
 unfold By
 refine .c (λh1=> .s ?_)
  λh1=> .b (lF ?_) λr1 WV=> .s ?_
 all_goals (try simp only[NB]at *)<;>omega
def zck{a0}(ha:wt a0≤1000000000):Ok (Cp a0) λr=>wt r.1≤wt a0∧wt r.2.1≤300:=by
 unfold Cp
 refine .jt (λy1=> .c (λh1=> .cp ?_ (.s ?_))
  λh1=> .b xV λr5 NW=> .b (EK ?_ ?_) λr6 dX=> .s ?_)
  λk2 KV=> .b (dH ?_) λr3 wW=> .c (λ_=>KV _)
  λ_=>KV _
 all_goals (try simp only[NB]at *)<;>(try simp(disch:=omega) only[nB,rB]at *)<;>omega
def zdD{a0}(ha:wt a0≤1000000000):Ok (Dg a0) λr=>wt r.1≤wt a0∧wt r.2.1≤300:=by
 unfold Dg
 refine .jt (λy1=> .c (λh1=> .cp ?_ (.s ?_))
  λh1=> .b xV λr5 NW=> .b (EK ?_ ?_) λr6 dX=> .s ?_)
  λk2 KV=> .b (dH ?_) λr3 wW=> .c (λ_=>KV _)
  λ_=>KV _
 all_goals (try simp only[NB]at *)<;>omega
def zi4{a0}(ha:wt a0≤1000000000):Ok (Ib a0) λr=>wt r.1≤wt a0+32:=by
 unfold Ib
 refine .cp ?_ (.jt (λy2=> .c (λh1=> .s ?_)
  λh1=> .b (DM ?_) λr5 NW=> .s ?_)
  λk3 OV=> .b (dH ?_) λr4 bW=> .c (λ_=>OV _)
  λh2=>have i3:=bW (nf h2); .c (λ_=>OV _)
  λh4=> .c (λ_=>OV _)
  λ_=>OV _)
 all_goals (try simp only[NB]at *)<;>omega
def zje{a0}(ha:wt a0≤1000000000):Ok (Iv a0) λr=>wt r.1≤wt a0+64:=by
 unfold Iv
 refine .cp ?_ (.jt (λy2=> .c (λh1=> .s ?_)
  λh1=> .b (DM ?_) λr5 NW=> .b (zad ?_) λr6 dX=> .s ?_)
  λk3 OV=> .b (dH ?_) λr4 bW=> .c (λ_=>OV _)
  λh2=>have i3:=bW (nf h2); .c (λ_=>OV _)
  λ_=>OV _)
 all_goals (try simp only[NB]at *)<;>(try simp(disch:=omega) only[nB,rB]at *)<;>omega
def zjm{a0 a1}(ha:a0.length≤1000000000)(hb:a1.length≤1000000000):Ok (Ig a0 a1) λr=>True:=by
 unfold Ig
 refine .c (λh1=> .s trivial)
  λh1=> .jt (λy1=> .s trivial)
  λk2 KV=> .l (λx3:Int×Int=>0≤x3.2∧x3.2≤(a0.length:Int)) (λx3:Int×Int=>((a0.length:Int) - x3.2).toNat) (λx3 j0 k4 mW=> .c (λh2=> .bi ?_ ?_ λe5 nZ oZ=> .bi ?_ ?_ λe6 m5 lZ=>mW _ ?_ ?_)
  λ_=>KV _) ?_ ?_
 all_goals (try simp only[NB]at *)<;>(try simp(disch:=omega) only[nB,rB]at *)<;>omega
def CV{a0 a1}(ha:a0.length≤1000000000)(hb:a1.length≤1000000000):Ok (Ca a0 a1) λr=>True:=by
 unfold Ca
 refine .jt (λy1=> .s trivial)
  λk2 KV=> .c (λh1=> .b (zjm ?_ ?_) λr3 _=>KV _)
  λ_=>KV _
 all_goals (try simp only[NB]at *)<;>omega
def zit{a0 a1 a2}(ha:wt a0≤1000000000)(hb:wt a2≤1000000000):Ok (Ir a0 a1 a2) λr=>r.1.length≤200:=by
 unfold Ir
 refine .b (uJ ?_) λr1 WV=> .jt (λy2=> .c (λh1=> .s ?_)
  λh1=> .b (IQ ?_) λr6 dX=> .b (zas ?_ ?_) λr7 aY=> .s ?_)
  λk3 OV=> .c (λ_=>OV _)
  λh2=> .c (λ_=>OV _)
  λh3=> .b RO λr4 bW=> .b (CV ?_ ?_) λr5 _=>OV _
 all_goals (try simp only[NB]at *)<;>omega
def HV{a0 a1 a2}(ha:wt a0≤1000000000)(hb:wt a2≤1000000000):Ok (Ce a0 a1 a2) λr=>wt r.1≤wt a0∧r.2.1.length≤200:=by
 unfold Ce
 refine .cp ?_ (.jt (λy2=> .c (λh1=> .s ?_)
  λh1=> .b zcC λr5 ⟨NW,w9⟩=> .c (λh2=> .s ?_)
  λh2=>have i3:=w9 (nf h2); .b (zit ?_ ?_) λr6 dX=> .c (λh4=> .s ?_)
  λh4=> .b (zis ?_) λr7 aY=> .s ?_)
  λk3 OV=> .c (λ_=>OV _)
  λh5=>have f6:=qU (nf h5); .b (uJ ?_) λr4 bW=> .c (λ_=>OV _)
  λ_=>OV _)
 all_goals (try simp only[NB]at *)<;>omega
def zce{a0 a1 a2}(ha:wt a0≤1000000000)(hb:wt a2≤1000000000):Ok (Di a0 a1 a2) λr=>wt r.1≤wt a0+64∧r.2.1.length≤200:=by
 unfold Di
 refine .cp ?_ (.jt (λy2=> .c (λh1=> .s ?_)
  λh1=> .b (tP ?_) λr5 NW=> .c (λh2=> .s ?_)
  λh2=> .c (λh3=> .b (HV ?_ ?_) λr6 dX=> .c (λh4=> .s ?_)
  λh4=> .jt (λy7=> .j (λy9:Ak=>wt y9≤wt a0+64) (λy9 F7=> .s ?_)
  λk10 kW=> .c (λh5=>kW _ ?_)
  λh5=>kW _ ?_)
  λk8 CX=> .c (λ_=>CX _)
  λ_=>CX _)
  λh3=> .jt (λy11=> .c (λh7=> .jt (λy13=> .c (λh8=> .s ?_)
  λh8=> .b (HV ?_ ?_) λr15 ZZ=> .c (λh9=> .s ?_)
  λh9=> .s ?_)
  λk14 yW=> .c (λ_=>yW _)
  λ_=>yW _)
  λh7=> .jt (λy16=> .c (λtW=> .b (zad ?_) λr18 N2=> .b (HV ?_ ?_) λr19 O2=> .c (λDW=> .s ?_)
  λDW=> .s ?_)
  λtW=> .s ?_)
  λk17 BW=> .c (λ_=>BW _)
  λ_=>BW _)
  λk12 OW=> .c (λ_=>OW _)
  λ_=>OW _)
  λk3 OV=> .b (dH ?_) λr4 bW=> .c (λ_=>OV _)
  λcY=>have i16:=bW (nf cY); .c (λ_=>OV _)
  λNY=> .c (λ_=>OV _)
  λ_=>OV _)
 all_goals (try simp only[NB]at *)<;>(try simp(disch:=omega) only[nB,rB]at *)<;>omega
def zcy{a0 a1}(ha:wt a0≤1000000000):Ok (Dj a0 a1) λr=>r.1.length≤wt a0:=by
 unfold Dj
 refine .b (dH ?_) λr1 WV=> .c (λh1=> .s ?_)
  λh1=>have i2:=WV (nf h1); .jt (λy2=> .c (λh3=> .g ?_ (.s ?_))
  λh3=> .c (λh4=> .g ?_ (.s ?_))
  λh4=> .jt (λy4=> .c (λh5=> .g ?_ (.s ?_))
  λh5=> .s ?_)
  λk5 SW=> .c (λ_=>SW _)
  λ_=>SW _)
  λk3 OV=> .c (λ_=>OV _)
  λ_=>OV _
 all_goals (try simp only[NB]at *)<;>(try simp(disch:=omega) only[nB,rB]at *)<;>omega
def zg0{a0 a1 a2}(ha:wt a0≤1000000000)(hb:wt a2≤1000000000):Ok (Iw a0 a1 a2) λr=>wt r.1≤wt a0+64:=by
 unfold Iw
 refine .cp ?_ (.jt (λy2=> .c (λh1=> .s ?_)
  λh1=> .c (λh2=> .b (zje ?_) λr7 aY=> .c (λh3=> .s ?_)
  λh3=> .s ?_)
  λh2=> .c (λh4=> .s ?_)
  λh4=> .s ?_)
  λk3 OV=> .b (dH ?_) λr4 bW=> .c (λ_=>OV _)
  λh5=>have i6:=bW (nf h5); .c (λ_=>OV _)
  λh7=> .c (λ_=>OV _)
  λh8=> .b xV λr5 NW=> .b (tP ?_) λr6 dX=>OV _)
 all_goals (try simp only[NB]at *)<;>(try simp(disch:=omega) only[nB,rB]at *)<;>omega
def zie{a0}(ha:wt a0≤1000000000):Ok (Jk a0) λr=>wt r≤400:=by
 unfold Jk
 refine .b (dH ?_) λr1 WV=> .c (λh1=> .s ?_)
  λh1=>have i2:=WV (nf h1); .j (λy2:(List (List UInt8))=>wt y2≤200) (λy2 AW=> .g ?_ (.g ?_ (.j (λy4:(List (List UInt8))=>wt y4≤400) (λy4 J2=> .s ?_)
  λk5 SW=> .c (λh3=> .g ?_ (.g ?_ (SW _ ?_)))
  λh3=>SW _ ?_)))
  λk3 OV=> .c (λh4=> .g ?_ (.g ?_ (OV _ ?_)))
  λh4=>OV _ ?_
 all_goals (try simp only[NB]at *)<;>omega
def zcj{a0 a1}(ha:wt a0≤1000000000):Ok (Cs a0 a1) λr=>wt r≤wt a0+1600:=by
 unfold Cs;refine have hw:=lC a0.Cands;
 .j (λy1:Bool=>y1=false→wt a0≤39∧a0.Cands.length≤3) (λy1 gW=> .c (λh1=> .cp ?_ (.s ?_))
  λh1=>have i2:=gW h1; .j (λy4:Aj=>wt y4≤1600) (λy4 J2=> .s ?_)
  λk5 SW=> .l (λx6:Int×Aj=>0≤x6.1∧x6.1≤(a0.Cands.length:Int)∧wt x6.2≤40 *x6.1) (λx6:Int×Aj=>((a0.Cands.length:Int) - x6.1).toNat) (λx6 hx6 k7 tX=> .c (λh3=> .bi ?_ ?_ λe8 he8 Y4=> .j (λy9:Aj=>wt y9≤40 *x6.1+40) (λy9 F7=>tX _ ?_ ?_)
  λk10 kW=> .c (λh4=> .bi ?_ ?_ λe11 z9 s5=> .m (fH ?_) (.g ?_ (kW _ ?_)))
  λh4=>kW _ ?_)
  λh3=>SW _ ?_) ?_ ?_)
  λk2 KV=> .c (λ_=>KV _ nofun)
  λh5=>have f6:=GS (nf h5);KV _ λq7=>?_
 all_goals (try simp only[NB]at *)<;>(try simp(disch:=omega) only[nB,rB]at *)<;>omega
def zcH{a0 a1 a2 a3}(ha:wt a0≤1000000000)(hb:wt a3≤1000000000):Ok (Dk a0 a1 a2 a3) λr=>wt r.1≤wt a0+1700:=by
 unfold Dk
 refine .j (λy1:Bool=>y1=false→a3.length=12) (λy1 gW=> .c (λh1=> .cp ?_ (.s ?_))
  λh1=>have i2:=gW h1; .b (zcj ?_) λr5 NW=>have hw:=lC r5.Cands; .jt (λy6=> .c (λh3=> .cp ?_ (.s ?_))
  λh3=> .g ?_ (.g ?_ (.s ?_)))
  λk7 tX=> .l (λx8:Int×Aj=>0≤x8.1∧x8.1≤(r5.Cands.length:Int)) (λx8:Int×Aj=>((r5.Cands.length:Int) - x8.1).toNat) (λx8 A9 k9 uX=> .c (λh4=> .h ?_ (.bg ?_ λe10 o0 CY=> .c (λh5=> .cp ?_ (.s ?_))
  λh5=>uX _ ?_ ?_))
  λ_=>tX _) ?_ ?_)
  λk2 KV=> .c (λ_=>KV _ nofun)
  λh6=>have f7:=GS (nf h6); .c (λ_=>KV _ nofun)
  λh8=> .c (λ_=>KV _ nofun)
  λh9=>have f10:=MI (nf h9); .c (λ_=>KV _ nofun)
  λtW=>KV _ λq12=>?_
 all_goals (try simp only[NB]at *)<;>(try simp(disch:=omega) only[nB,rB]at *)<;>omega
def ziq{a0 a1 a2 a3}(ha:wt a0≤1000000000)(hb:wt a3≤1000000000):Ok (Iu a0 a1 a2 a3) λr=>wt r.1≤wt a0+1600:=by
 unfold Iu;refine have hw:=lC a0.Cands;
 .b (zkO ?_) λr1 ⟨WV,M2⟩=> .j (λy2:Bool=>y2=false→wt a0≤39∧a0.Cands.length≤3) (λy2 AW=> .c (λh1=> .cp ?_ (.s ?_))
  λh1=>have i2:=AW h1; .j (λy6:Aj=>wt y6≤1600) (λy6 K3=> .s ?_)
  λk7 tX=> .l (λx8:Int×Aj=>0≤x8.1∧x8.1≤(a0.Cands.length:Int)∧wt x8.2≤40 *x8.1) (λx8:Int×Aj=>((a0.Cands.length:Int) - x8.1).toNat) (λx8 A9 k9 uX=> .c (λh3=> .bi ?_ ?_ λe10 o0 CY=> .j (λy12:Aj=>wt y12≤40 *x8.1+40) (λy12 b5=>uX _ ?_ ?_)
  λk13 FW=> .c (λh4=> .bi ?_ ?_ λe14 t5 V0=> .m (fH ?_) (.g ?_ (FW _ ?_)))
  λh4=>FW _ ?_)
  λh3=>tX _ ?_) ?_ ?_)
  λk3 OV=> .c (λ_=>OV _ nofun)
  λh5=>have i6:=M2 (nf h5); .c (λ_=>OV _ nofun)
  λh7=> .b (tP ?_) λr4 bW=> .c (λ_=>OV _ nofun)
  λh8=>OV _ λq9=>?_
 all_goals (try simp only[NB]at *)<;>(try simp(disch:=omega) only[nB,rB]at *)<;>omega
def zcV{a0 a1 a2}(ha:wt a0≤1000000000):Ok (Cu a0 a1 a2) λr=>wt r≤wt a0+1:=by
 unfold Cu;refine have hc:=zbK a0 a1;
 have hw:=lC a0;
 .g ?_ (.jt (λy1=> .c (λh1=> .s ?_)
  λh1=> .c (λh2=> .c (λh3=> .s ?_)
  λh3=> .g ?_ (.s ?_))
  λh2=> .h ?_ (.bg ?_ λe3 he3 B9=> .h ?_ (.bg ?_ λe4 z0 P2=> .h (have:=gC ([]++a0) ((gB a0 a1).toNat) (⟨e4.A,iA .i64 e3.Got a2,e4.Sent⟩:Ag);?_) (.bg ?_ λe6 m5 lZ=> .j (λy7:(List Ag)=>wt y7≤wt a0+1) (λy7 C9=> .s ?_)
  λk8 CX=> .c (λh4=> .h (have:=gC ([]++a0) ((gB a0 a1).toNat) (⟨e4.A,iA .i64 e3.Got a2,e4.Sent⟩:Ag);?_) (.bg ?_ λe9 L2 jZ=>CX _ (have:=gC (List.set ([]++a0) ((gB a0 a1).toNat) (⟨e4.A,iA .i64 e3.Got a2,e4.Sent⟩:Ag):List Ag) ((gB a0 a1).toNat) (⟨e9.A,1000000,e9.Sent⟩:Ag);have:=gC ([]++a0) ((gB a0 a1).toNat) (⟨e4.A,iA .i64 e3.Got a2,e4.Sent⟩:Ag);?_)))
  λh4=>CX _ (have:=gC ([]++a0) ((gB a0 a1).toNat) (⟨e4.A,iA .i64 e3.Got a2,e4.Sent⟩:Ag);?_)))))
  λk2 KV=> .c (λ_=>KV _)
  λh5=>have f6:=MR (nf h5); .c (λ_=>KV _)
  λ_=>KV _)
 all_goals (try simp only[NB]at *)<;>(try simp(disch:=omega) only[nB,rB]at *)<;>omega
def zcn{a0 a1}:Ok (Cy a0 a1) λr=>True:=by
 unfold Cy;refine have hc:=zbK a0 a1;
 have hw:=lC a0;
 .j (λy1:Bool=>y1=false→0≤gB a0 a1) (λy1 gW=> .c (λh1=> .s trivial)
  λh1=>have i2:=gW h1; .bi ?_ ?_ λe3 he3 B9=> .bi ?_ ?_ λe4 z0 P2=> .s trivial)
  λk2 KV=> .c (λ_=>KV _ nofun)
  λh3=>have f4:=MR (nf h3);KV _ λq5=>?_
 all_goals (try simp only[NB]at *)<;>(try simp(disch:=omega) only[nB,rB]at *)<;>omega
def zcM{a0 a1 a2}(ha:wt a0≤1000000000):Ok (Dl a0 a1 a2) λr=>wt r.1≤wt a0:=by
 unfold Dl;refine have hc:=zbK a0 a1;
 have hw:=lC a0;
 .g ?_ (.j (λy1:Bool=>y1=false→0≤gB a0 a1) (λy1 gW=> .c (λh1=> .s ?_)
  λh1=>have i2:=gW h1; .h ?_ (.bg ?_ λe4 z0 P2=> .h ?_ (.bg ?_ λe5 nZ oZ=> .s (have:=gC ([]++a0) ((gB a0 a1).toNat) (⟨e5.A,e5.Got,iA .i64 e4.Sent a2⟩:Ag);?_))))
  λk2 KV=> .c (λ_=>KV _ nofun)
  λh3=> .c (λ_=>KV _ nofun)
  λh4=>have f5:=MR (nf h4); .b zcn λr3 _=>KV _ λq6=>?_)
 all_goals (try simp only[NB]at *)<;>(try simp(disch:=omega) only[nB,rB]at *)<;>omega
def zcZ{a0 a1}(ha:wt a0≤1000000000):Ok (Cw a0 a1) λr=>True:=by
 unfold Cw;refine have hw:=lC a0.L;
 .jt (λy1=> .s trivial)
  λk2 KV=> .l (λx3:Int=>0≤x3∧x3≤(a0.L.length:Int)) (λx3:Int=>((a0.L.length:Int) - x3).toNat) (λx3 j0 k4 mW=> .c (λh1=> .jt (λy5=> .c (λh2=> .s trivial)
  λh2=>mW _ ?_ ?_)
  λk6 xW=> .bi ?_ ?_ λe7 n5 mZ=> .c (λh3=> .bi ?_ ?_ λe8 he8 Y4=>xW _)
  λ_=>xW _)
  λ_=>KV _) ?_ ?_
 all_goals (try simp only[NB]at *)<;>(try simp(disch:=omega) only[nB,rB]at *)<;>omega
def zcA{a0 a1 a2}(ha:wt a0≤1000000000):Ok (Cz a0 a1 a2) λr=>True:=by
 unfold Cz
 refine .jt (λy1=> .s trivial)
  λk2 KV=> .b (zcZ ?_) λr3 _=> .c (λ_=>KV _)
  λh1=> .b zcn λr4 _=>KV _
 all_goals (try simp only[NB]at *)<;>omega
def zhQ{a0 a1}(ha:wt a0≤1000000000):Ok (Ie a0 a1) λr=>r.length≤a0.length+12:=by
 unfold Ie
 refine .c (λh1=> .g ?_ (.s ?_))
  λh1=>have f2:=MI (nf h1); .b (lF ?_) λr1 WV=> .b (lF ?_) λr2 HW=> .s ?_
 all_goals (try simp only[NB]at *)<;>omega
def yV{a0 a1 a2 a3 a4}(ha:wt a2≤1000000000)(hb:wt a3≤1000000000):Ok (Bz a0 a1 a2 a3 a4) λr=>r.length≤60:=by
 unfold Bz
 refine .j (λy1:Bool=>y1=false→a2.length=12∧a3.length=12) (λy1 gW=> .c (λh1=> .s ?_)
  λh1=>have i2:=gW h1; .b (zhQ ?_) λr3 wW=> .g ?_ (.g ?_ (.g ?_ (.b (lF ?_) λr5 NW=> .s ?_))))
  λk2 KV=> .c (λ_=>KV _ nofun)
  λh3=>have f4:=MI (nf h3); .c (λ_=>KV _ nofun)
  λh5=> .c (λ_=>KV _ nofun)
  λh6=> .c (λ_=>KV _ nofun)
  λh7=>KV _ λq8=>?_
 all_goals (try simp only[NB]at *)<;>omega
def zdc{a0 a1 a2 a3 a4 a5}(ha:wt a3≤1000000000)(hb:wt a4≤1000000000):Ok (Da a0 a1 a2 a3 a4 a5) λr=>r.length≤16:=by
 unfold Da
 refine .b (yV ?_ ?_) λr1 WV=> .jt (λy2=> .c (λh1=> .s ?_)
  λh1=> .b RO λr4 bW=> .s ?_)
  λk3 OV=> .c (λ_=>OV _)
  λ_=>OV _
 all_goals (try simp only[NB]at *)<;>omega
def ziT{a0 a1}:Ok (If a0 a1) λr=>True:=by
 unfold If
 refine .jt (λy1=> .s trivial)
  λk2 KV=> .c (λh1=> .c (λ_=>KV _)
  λ_=>KV _)
  λ_=>KV _
def zix{a0 a1 a2 a3}(ha:wt a3≤1000000000):Ok (Ih a0 a1 a2 a3) λr=>r=0→a3.Kind=3∧1≤a3.Id∧a3.Id≤9:=by
 unfold Ih
 refine .j (λy1:Bool=>y1=false→a3.Kind=3∧1≤a3.Id∧a3.Id≤9) (λy1 gW=> .c (λh1=> .s ?_)
  λh1=>have i2:=gW h1; .b ziT λr3 _=> .c (λh3=> .s ?_)
  λh3=> .b (zdc ?_ ?_) λr4 bW=> .b (CV ?_ ?_) λr5 _=> .c (λh4=> .s ?_)
  λh4=> .s ?_)
  λk2 KV=> .c (λ_=>KV _ nofun)
  λh5=>have f6:=zeX (nf h5); .c (λ_=>KV _ nofun)
  λh7=> .c (λ_=>KV _ nofun)
  λh8=>have f9:=MI (nf h8); .c (λ_=>KV _ nofun)
  λzW=>have f11:=DI (nf zW);KV _ λq12=>?_
 all_goals (try simp only[NB]at *)<;>omega
def zcs{a0 a1}:Ok (Db a0 a1) λr=>r.length≤32:=by
 unfold Db;refine have hm:=QT a0 a1;
 .s ?_
 all_goals (try simp only[NB]at *)<;>omega
def wV{a0}:Ok (Cb a0) λr=>r.length≤32:=by
 unfold Cb
 refine .c (λh1=> .s ?_)
  λh1=>have f2:=xP (nf h1); .b zcs λr2 HW=> .b (DM ?_) λr3 wW=> .s ?_
 all_goals (try simp only[NB]at *)<;>omega
def vV{a0 a1 a2 a3 a4}(ha:wt a1≤1000000000)(hb:wt a2≤1000000000)(hc:wt a4≤1000000000):Ok (Cc a0 a1 a2 a3 a4) λr=>r.length≤60:=by
 unfold Cc
 refine .j (λy1:Bool=>y1=false→a1.length=12∧a2.length=12∧a4.length=16) (λy1 gW=> .c (λh1=> .s ?_)
  λh1=>have i2:=gW h1; .g ?_ (.g ?_ (.b (lF ?_) λr4 bW=> .g ?_ (.s ?_))))
  λk2 KV=> .c (λ_=>KV _ nofun)
  λh3=> .c (λ_=>KV _ nofun)
  λh4=> .c (λ_=>KV _ nofun)
  λh5=> .c (λ_=>KV _ nofun)
  λh6=>KV _ λq7=>?_
 all_goals (try simp only[NB]at *)<;>omega
def zcN{a0 a1 a2 a3 a4 a5}(ha:wt a2≤1000000000)(hb:wt a3≤1000000000)(hc:wt a5≤1000000000):Ok (Dc a0 a1 a2 a3 a4 a5) λr=>r.length≤16:=by
 unfold Dc
 refine .b wV λr1 WV=> .b (vV ?_ ?_ ?_) λr2 HW=> .jt (λy3=> .c (λh1=> .s ?_)
  λh1=> .b RO λr5 NW=> .s ?_)
  λk4 mW=> .c (λ_=>mW _)
  λ_=>mW _
 all_goals (try simp only[NB]at *)<;>omega
def zh2{a0 a1}(ha:wt a1≤1000000000):Ok (Ii a0 a1) λr=>True:=by
 unfold Ii
 refine .jt (λy1=> .s trivial)
  λk2 KV=> .c (λh1=>have f2:=DI h1; .c (λh3=> .b (zcN ?_ ?_ ?_) λr3 wW=> .b (CV ?_ ?_) λr4 _=>KV _)
  λ_=>KV _)
  λ_=>KV _
 all_goals (try simp only[NB]at *)<;>omega
def zhW{a0 a1 a2}(ha:wt a1≤1000000000)(hb:wt a2≤1000000000):Ok (Ij a0 a1 a2) λr=>r.length≤32:=by
 unfold Ij
 refine .j (λy1:Bool=>y1=false→a1.length=12∧a2.length=12) (λy1 gW=> .c (λh1=> .s ?_)
  λh1=>have i2:=gW h1; .g ?_ (.g ?_ (.b zcs λr3 wW=> .s ?_)))
  λk2 KV=> .c (λ_=>KV _ nofun)
  λh3=>have f4:=xP (nf h3); .c (λ_=>KV _ nofun)
  λh5=>KV _ λq6=>?_
 all_goals (try simp only[NB]at *)<;>omega
def zhp{a0}:Ok (Ik a0) λr=>r.length≤32:=by
 unfold Ik
 refine .c (λh1=> .s ?_)
  λh1=> .b (DM ?_) λr1 WV=> .s ?_
 all_goals (try simp only[NB]at *)<;>omega
def ziE{a0 a1}(ha:wt a0≤1000000000):Ok (Il a0 a1) λr=>r.length≤a0.length+32:=by
 unfold Il
 refine .c (λh1=> .s ?_)
  λh1=> .g ?_ (.j (λy1:(List UInt8)=>y1.length≤a0.length+32) (λy1 gW=> .s ?_)
  λk2 KV=> .l (λx3:(List UInt8)×Int=>0≤x3.2∧x3.2≤64∧x3.1.length≤a0.length+32) (λx3:(List UInt8)×Int=>(64 - x3.2).toNat) (λx3 j0 k4 mW=> .c (λh2=> .b (DM ?_) λr5 NW=>mW _ ?_ ?_)
  λh2=>KV _ ?_) ?_ ?_)
 all_goals (try simp only[NB]at *)<;>(try simp(disch:=omega) only[nB,rB]at *)<;>omega
def zci{a0 a1 a2 a3}(ha:wt a1≤1000000000)(hb:wt a2≤1000000000):Ok (Dd a0 a1 a2 a3) λr=>r.length≤64:=by
 unfold Dd
 refine .b (zhW ?_ ?_) λr1 WV=> .b zhp λr2 HW=> .c (λh1=> .s ?_)
  λh1=> .b (ziE ?_) λr3 wW=> .s ?_
 all_goals (try simp only[NB]at *)<;>omega
def zhA{a0 a1 a2}(ha:wt a2≤1000000000):Ok (Jb a0 a1 a2) λr=>wt r.1≤200:=by
 unfold Jb
 refine .j (λy1:Bool=>y1=false→wt a2≤112) (λy1 gW=> .c (λh1=> .s ?_)
  λh1=>have i2:=gW h1; .b (zcN ?_ ?_ ?_) λr3 wW=> .c (λh3=> .s ?_)
  λh3=> .cp ?_ (.s ?_))
  λk2 KV=> .c (λ_=>KV _ nofun)
  λh4=>have f5:=DI (nf h4);KV _ λq6=>?_
 all_goals (try simp only[NB]at *)<;>omega
end Go.D
namespace Go.D
def rQ{a0}:Ok (Bo a0) λr=>True:=by
 unfold Bo
 refine .c (λh1=> .s trivial)
  λh1=> .s trivial
def zgK{a0 a1}:Ok (Hu a0 a1) λr=>True:=by
 unfold Hu
 refine .jt (λy1=> .s trivial)
  λk2 KV=> .c (λh1=> .c (λh2=> .c (λ_=>KV _)
  λ_=>KV _)
  λ_=>KV _)
  λ_=>KV _
def zcd{a0 a1}:Ok (Cm a0 a1) λr=>True:=by
 unfold Cm
 refine .b zgK λr1 _=> .c (λh1=> .s trivial)
  λh1=> .c (λh2=> .s trivial)
  λh2=> .jt (λy2=> .s trivial)
  λk3 OV=> .c (λ_=>OV _)
  λ_=>OV _
def zcv{a0}(ha:wt a0≤1000000000):Ok (Cj a0) λr=>wt r≤a0.Cn.length:=by
 unfold Cj;refine .g ?_ (.s ?_)
 all_goals (try simp only[NB]at *)<;>omega
def zQ{a0}(ha:wt a0≤1000000000)(hb:1≤a0.Id∧a0.Id≤9∧1≤a0.Psk.length∧a0.Psk.length≤32∧0≤a0.At.Host∧a0.At.Host≤4294967295∧0≤a0.At.Port∧a0.At.Port≤65535):Ok (Bh a0) λr=>wt r≤wt a0∧r.Id=a0.Id:=by
 unfold Bh;refine .b (ziB ?_ ?_ ?_ ?_) λr1 WV=> .s ?_
 all_goals (try simp only[NB]at *)<;>omega
def zi8{a0 a1 a2}(ha:wt a0≤1000000000)(hb:wt a2≤1000000000):Ok (Hp a0 a1 a2) λr=>wt r.1≤wt a0+12∧r.1.Id=a0.Id∧r.2.1.length≤1∧wt r.2.1≤400∧wt r.2.2.1≤2000:=by
 unfold Hp
 refine .cp ?_ (.j (λy2:Bool=>y2=false→CF a0∧a2.length=12) (λy2 AW=> .c (λh1=> .s ?_)
  λh1=>have i2:=AW h1; .c (λh3=> .s ?_)
  λh3=> .g ?_ (.b rQ λr5 _=> .g ?_ (.b (zcv ?_) λr6 dX=> .s ?_)))
  λk3 OV=> .b (zJ ?_) λr4 bW=> .c (λ_=>OV _ nofun)
  λh4=>have i5:=bW (nf h4); .c (λ_=>OV _ nofun)
  λh6=>OV _ λq7=>?_)
 all_goals (try simp only[NB]at *)<;>omega
def zgN{a0 a1 a2}(ha:wt a0≤1000000000)(hb:wt a2≤1000000000):Ok (Hr a0 a1 a2) λr=>wt r.1≤wt a0∧r.1.Id=a0.Id∧r.2.1.length≤1∧wt r.2.1≤400∧wt r.2.2.1≤2000:=by
 unfold Hr
 refine .cp ?_ (.j (λy2:Bool=>y2=false→CF a0∧a2.length≤40) (λy2 AW=> .c (λh1=> .s ?_)
  λh1=>have i2:=AW h1; .c (λh3=> .s ?_)
  λh3=> .b (EK ?_ ?_) λr5 NW=> .c (λh4=> .s ?_)
  λh4=> .g ?_ (.g ?_ (.b (sI ?_ ?_) λr6 dX=> .s ?_)))
  λk3 OV=> .b (zJ ?_) λr4 bW=> .c (λ_=>OV _ nofun)
  λh5=>have i6:=bW (nf h5); .c (λ_=>OV _ nofun)
  λh7=>OV _ λq8=>?_)
 all_goals (try simp only[NB]at *)<;>omega
def zgE{a0 a1}(ha:wt a0≤1000000000):Ok (Ic a0 a1) λr=>wt r.1≤wt a0+32∧r.1.Id=a0.Id∧r.2.1.length≤1∧wt r.2.1≤400∧wt r.2.2.1≤2000:=by
 unfold Ic
 refine .cp ?_ (.j (λy2:Bool=>y2=false→CF a0) (λy2 AW=> .c (λh1=> .s ?_)
  λh1=>have i2:=AW h1; .jt (λy5=> .c (λh3=> .s ?_)
  λh3=> .b (zi4 ?_) λr7 aY=> .b (zck ?_) λr8 KZ=> .jt (λy9=> .c (λh4=> .s ?_)
  λh4=> .b rQ λr11 _=> .b (sI ?_ ?_) λr12 MY=> .s ?_)
  λk10 kW=> .c (λ_=>kW _)
  λ_=>kW _)
  λk6 xW=> .c (λ_=>xW _)
  λ_=>xW _)
  λk3 OV=> .b (zJ ?_) λr4 bW=> .c (λ_=>OV _ nofun)
  λh7=>have i8:=bW (nf h7);OV _ λq9=>?_)
 all_goals (try simp only[NB]at *)<;>omega
def zgL{a0 a1}(ha:wt a0≤1000000000):Ok (Hv a0 a1) λr=>wt r.1≤wt a0∧r.1.Id=a0.Id∧r.2.1.length≤2∧wt r.2.1≤900∧wt r.2.2≤2000:=by
 unfold Hv
 refine .cp ?_ (.j (λy2:Bool=>y2=false→CF a0) (λy2 AW=> .c (λh1=> .s ?_)
  λh1=>have i2:=AW h1; .c (λh3=> .b zcd λr5 _=> .c (λh4=> .b (zQ ?_ ?_) λr6 dX=> .g ?_ (.g ?_ (.s ?_)))
  λh4=> .jt (λy8=> .j (λy10:(List Ab)=>y10.length≤1∧wt y10≤400) (λy10 D9=> .jt (λy13=> .j (λy15:(List Ab)=>y15.length≤2∧wt y15≤900) (λy15 E9=> .s ?_)
  λk16 qZ=> .c (λh5=> .cp ?_ (.g ?_ (qZ _ ?_)))
  λh5=>qZ _ ?_)
  λk14 yW=> .c (λ_=>yW _)
  λ_=>yW _)
  λk11 rZ=> .c (λh7=> .b (zcv ?_) λr12 MY=> .g ?_ (rZ _ ?_))
  λh7=>rZ _ ?_)
  λk9 uX=> .c (λ_=>uX _)
  λ_=>uX _)
  λh3=> .c (λh9=> .b (zQ ?_ ?_) λr18 N2=> .g ?_ (.g ?_ (.s ?_)))
  λh9=> .b (zcf ?_) λr20 pZ=> .b zcd λr21 _=> .c (λzW=> .s ?_)
  λzW=> .j (λy22:Ad=>wt y22≤wt a0∧y22.Id=a0.Id) (λy22 F9=> .b (zck ?_) λr25 m0=> .j (λy26:(List Ab)×(List Af)×Ad=>y26.1.length≤1∧wt y26.1≤400∧wt y26.2.1≤2000∧wt y26.2.2≤wt a0∧y26.2.2.Id=a0.Id) (λy26 v5=> .s ?_)
  λk27 SX=> .c (λtW=> .g ?_ (.b (sI ?_ ?_) λr28 s9=> .g ?_ (SX _ ?_)))
  λtW=>SX _ ?_)
  λk23 sZ=> .c (λDW=> .b rQ λr24 _=>sZ _ ?_)
  λDW=>sZ _ ?_)
  λk3 OV=> .b (zJ ?_) λr4 bW=> .c (λ_=>OV _ nofun)
  λWW=>have i14:=bW (nf WW); .c (λ_=>OV _ nofun)
  λcY=>OV _ λq16=>?_)
 all_goals (try simp only[NB]at *)<;>(try simp(disch:=omega) only[nB,rB]at *)<;>omega
def zjd{a0 a1}(ha:wt a0≤1000000000):Ok (Ia a0 a1) λr=>wt r≤wt a0∧r.Id=a0.Id:=by
 unfold Ia
 refine .cp ?_ (.jt (λy2=> .j (λy5:Ad=>wt y5≤wt a0∧y5.Id=a0.Id) (λy5 J3=> .s ?_)
  λk6 xW=> .c (λh1=>xW _ ?_)
  λh1=>xW _ ?_)
  λk3 OV=> .b (zJ ?_) λr4 bW=> .c (λ_=>OV _)
  λ_=>OV _)
 all_goals (try simp only[NB]at *)<;>omega
def zi5{a0}(ha:wt a0≤1000000000):Ok (Ji a0) λr=>wt r.1≤wt a0∧r.1.Id=a0.Id∧wt r.2≤500:=by
 unfold Ji
 refine .b (zJ ?_) λr1 WV=> .c (λh1=> .cp ?_ (.s ?_))
  λh1=>have i2:=WV (nf h1); .c (λh3=> .b (zQ ?_ ?_) λr3 wW=> .g ?_ (.s ?_))
  λh3=> .b (zQ ?_ ?_) λr5 NW=> .s ?_
 all_goals (try simp only[NB]at *)<;>omega
def zgS{a0 a1 a2}(ha:wt a0≤1000000000)(hb:wt a2≤1000000000):Ok (Jc a0 a1 a2) λr=>wt r.1≤wt a0+2000∧r.1.Id=a0.Id∧r.2.1.length≤1∧wt r.2.1≤400∧wt r.2.2≤8000:=by
 unfold Jc
 refine .cp ?_ (.j (λy2:Bool=>y2=false→CF a0∧wt a2≤112) (λy2 AW=> .c (λh1=> .s ?_)
  λh1=>have i2:=AW h1; .jt (λy5=> .c (λh3=> .b (zhA ?_) λr8 KZ=> .b (zci ?_ ?_) λr9 Z4=> .b (zcr ?_ ?_) λr10 QX=> .b rQ λr11 _=> .g ?_ (.g ?_ (.g ?_ (.b wV λr13 Q2=> .b (vV ?_ ?_ ?_) λr14 A0=> .b (zal ?_ ?_) λr15 ZZ=> .g ?_ (.cp ?_ (.g ?_ (.s ?_)))))))
  λh3=> .jt (λy17=> .c (λh4=> .s ?_)
  λh4=> .b (zce ?_ ?_) λr19 O2=> .c (λh5=> .s ?_)
  λh5=> .b (zcy ?_) λr20 pZ=> .b (uJ ?_) λr21 G9=> .b (BR ?_ ?_ ?_) λr22 R2=> .g ?_ (.j (λy23:(List Af)×Ad=>wt y23.1≤2000∧wt y23.2≤wt a0+1000∧y23.2.Id=a0.Id) (λy23 S2=> .j (λy26:(List Af)×Ad=>wt y26.1≤3000∧wt y26.2≤wt a0+1000∧y26.2.Id=a0.Id) (λy26 v5=> .j (λy29:(List Af)=>wt y29≤4000) (λy29 z5=> .j (λy32:(List Ab)×(List Af)×Ad=>y32.1.length≤1∧wt y32.1≤400∧wt y32.2.1≤8000∧wt y32.2.2≤wt a0+2000∧y32.2.2.Id=a0.Id) (λy32 hy32=> .s ?_)
  λk33 tZ=> .c (λh6=> .b (EK ?_ ?_) λr34 A5=> .j (λy35:(List Ab)×(List Af)×Ad=>y35.1.length≤1∧wt y35.1≤400∧wt y35.2.1≤8000∧wt y35.2.2≤wt a0+2000∧y35.2.2.Id=a0.Id) (λy35 H9=>tZ _ ?_)
  λk36 nY=> .c (λh7=> .g ?_ (.b (sI ?_ ?_) λr37 T2=> .g ?_ (.g ?_ (.g ?_ (.g ?_ (nY _ ?_))))))
  λh7=>nY _ ?_)
  λh6=>tZ _ ?_)
  λk30 TX=> .c (λh8=> .g ?_ (.g ?_ (.g ?_ (TX _ ?_))))
  λh8=>TX _ ?_)
  λk27 SX=> .c (λh9=> .g ?_ (.g ?_ (.g ?_ (SX _ ?_))))
  λh9=>SX _ ?_)
  λk24 rX=> .c (λzW=> .g ?_ (.g ?_ (.g ?_ (.g ?_ (rX _ ?_)))))
  λzW=>rX _ ?_))
  λk18 B5=> .c (λ_=>B5 _)
  λ_=>B5 _)
  λk6 xW=> .c (λDW=> .c (λWW=> .b (tP ?_) λr7 aY=>xW _)
  λ_=>xW _)
  λ_=>xW _)
  λk3 OV=> .b (zJ ?_) λr4 bW=> .c (λ_=>OV _ nofun)
  λbY=>have i15:=bW (nf bY); .c (λ_=>OV _ nofun)
  λDY=>OV _ λq17=>have f18:=DI (nf q17);?_)
 all_goals (try simp only[NB]at *)<;>omega
end Go.D
namespace Go.D
def zc3{a0}(ha:wt a0≤1000000000):Ok (Cq a0) λr=>wt r≤wt a0:=by
 unfold Cq
 refine .b (IM ?_) λr1 WV=> .c (λh1=> .cp ?_ (.s ?_))
  λh1=>have i2:=WV (nf h1); .g ?_ (.g ?_ (.s ?_))
 all_goals (try simp only[NB]at *)<;>omega
def zcl{a0}:Ok (Df a0) λr=>wt r≤0:=by
 unfold Df;refine .s ?_
 all_goals (try simp only[NB]at *)<;>omega
def zh3{a0 a1 a2 a3}(ha:wt a3≤1000000000):Ok (In a0 a1 a2 a3) λr=>wt r≤400:=by
 unfold In
 refine .j (λy1:Bool=>y1=false→wt a3≤112) (λy1 gW=> .c (λh1=> .s ?_)
  λh1=>have i2:=gW h1; .g ?_ (.g ?_ (.b (zci ?_ ?_) λr3 wW=> .b (zcr ?_ ?_) λr4 bW=> .b zcl λr5 NW=> .s ?_)))
  λk2 KV=> .c (λ_=>KV _ nofun)
  λh3=>have f4:=xP (nf h3); .c (λ_=>KV _ nofun)
  λh5=> .c (λ_=>KV _ nofun)
  λh6=>have f7:=MI (nf h6); .c (λ_=>KV _ nofun)
  λh8=>have f9:=DI (nf h8);KV _ λq10=>?_
 all_goals (try simp only[NB]at *)<;>omega
def zhZ{a0 a1}(ha:wt a0≤1000000000)(hb:wt a1≤1000000000):Ok (Io a0 a1) λr=>wt r.1≤wt a0+wt a1+1∧(r.2=0→0<r.1.L.length)∧r.1.L.length≤a0.L.length+1:=by
 unfold Io
 refine .cp ?_ (.jt (λy2=> .c (λh1=> .s ?_)
  λh1=> .b (ZS ?_) λr6 dX=> .c (λh2=> .s ?_)
  λh2=> .jt (λy7=> .c (λh3=> .s ?_)
  λh3=> .cp ?_ (.g ?_ (.s ?_)))
  λk8 CX=> .b (zmG ?_) λr9 Z4=> .c (λ_=>CX _)
  λ_=>CX _)
  λk3 OV=> .b (zeG ?_) λr4 bW=> .c (λ_=>OV _)
  λh5=>have i6:=bW (nf h5); .b (IM ?_) λr5 NW=> .c (λ_=>OV _)
  λ_=>OV _)
 all_goals (try simp only[NB]at *)<;>omega
def zhO{a0}(ha:wt a0≤1000000000):Ok (Ip a0) λr=>wt r.1≤wt a0∧r.2.1.length≤1∧wt r.2.1≤400∧wt r.2.2≤600:=by
 unfold Ip
 refine .cp ?_ (.j (λy2:Bool=>y2=false→wt a0≤235) (λy2 AW=> .c (λh1=> .s ?_)
  λh1=>have i2:=AW h1; .b (zdD ?_) λr5 NW=> .c (λh3=> .s ?_)
  λh3=> .b (sI ?_ ?_) λr6 dX=> .s ?_)
  λk3 OV=> .b (IM ?_) λr4 bW=> .c (λ_=>OV _ nofun)
  λh4=>have i5:=bW (nf h4); .c (λ_=>OV _ nofun)
  λh6=>OV _ λq7=>?_)
 all_goals (try simp only[NB]at *)<;>omega
def zhv{a0 a1}(ha:wt a0≤1000000000)(hb:wt a1≤1000000000):Ok (Hs a0 a1) λr=>wt r.1≤wt a0∧r.2.1.length≤1∧wt r.2.1≤400∧wt r.2.2.1≤2000:=by
 unfold Hs
 refine .cp ?_ (.j (λy2:Bool=>y2=false→wt a0≤235∧a1.length≤40) (λy2 AW=> .c (λh1=> .s ?_)
  λh1=>have i2:=AW h1; .c (λh3=> .s ?_)
  λh3=> .b (EK ?_ ?_) λr5 NW=> .c (λh4=> .s ?_)
  λh4=> .g ?_ (.g ?_ (.b (sI ?_ ?_) λr6 dX=> .s ?_)))
  λk3 OV=> .b (IM ?_) λr4 bW=> .c (λ_=>OV _ nofun)
  λh5=>have i6:=bW (nf h5);OV _ λq7=>?_)
 all_goals (try simp only[NB]at *)<;>omega
def zhz{a0 a1}(ha:wt a0≤1000000000):Ok (Hw a0 a1) λr=>wt r≤wt a0+1600:=by
 unfold Hw
 refine .cp ?_ (.jt (λy2=> .c (λh1=> .s ?_)
  λh1=> .c (λh2=> .b (zc3 ?_) λr5 NW=> .s ?_)
  λh2=> .b (zcf ?_) λr6 dX=> .b (zcj ?_) λr7 aY=> .s ?_)
  λk3 OV=> .b (IM ?_) λr4 bW=> .c (λ_=>OV _)
  λh3=>have i4:=bW (nf h3); .c (λ_=>OV _)
  λ_=>OV _)
 all_goals (try simp only[NB]at *)<;>(try simp(disch:=omega) only[nB,rB]at *)<;>omega
def zhD{a0 a1 a2 a3 a4}(ha:wt a0≤1000000000)(hb:wt a3≤1000000000)(hc:wt a4≤1000000000):Ok (Ix a0 a1 a2 a3 a4) λr=>wt r.1≤wt a0+5000∧r.2.1.length≤2∧wt r.2.1≤1000∧wt r.2.2.1≤10000:=by
 unfold Ix
 refine .cp ?_ (.j (λy2:Bool=>y2=false→wt a0≤235) (λy2 AW=> .c (λh1=> .s ?_)
  λh1=>have i2:=AW h1; .b (zce ?_ ?_) λr5 NW=> .c (λh3=> .s ?_)
  λh3=> .b (zcy ?_) λr6 dX=> .b (uJ ?_) λr7 aY=> .b (BR ?_ ?_ ?_) λr8 KZ=> .g ?_ (.j (λy9:(List Au)×(List Af)×Al=>y9.1.length≤1∧wt y9.1≤400∧wt y9.2.1≤4000∧wt y9.2.2≤wt a0+3000) (λy9 F7=> .b (zcH ?_ ?_) λr30 I9=> .b (EK ?_ ?_) λr31 U2=> .jt (λy32=> .c (λh4=> .s ?_)
  λh4=> .g ?_ (.b (sI ?_ ?_) λr34 A5=> .g ?_ (.s ?_)))
  λk33 tZ=> .c (λ_=>tZ _)
  λ_=>tZ _)
  λk10 kW=> .c (λh6=> .g ?_ (.g ?_ (.g ?_ (kW _ ?_))))
  λh6=> .j (λy12:(List Au)×(List Af)×Al=>y12.1.length≤1∧wt y12.1≤400∧wt y12.2.1≤4000∧wt y12.2.2≤wt a0+3000) (λy12 b5=>kW _ ?_)
  λk13 FW=> .c (λh7=> .b (ziq ?_ ?_) λr14 A0=> .j (λy15:(List Af)×Al=>wt y15.1≤4000∧wt y15.2≤wt a0+3000) (λy15 E9=>FW _ ?_)
  λk16 qZ=> .c (λh8=> .g ?_ (.g ?_ (.g ?_ (qZ _ ?_))))
  λh8=>qZ _ ?_)
  λh7=> .j (λy18:(List Au)×(List Af)×Al=>y18.1.length≤1∧wt y18.1≤400∧wt y18.2.1≤4000∧wt y18.2.2≤wt a0+3000) (λy18 V2=>FW _ ?_)
  λk19 UW=> .c (λh9=> .b (zg0 ?_ ?_) λr20 pZ=> .j (λy21:(List Au)×(List Af)×Al=>y21.1.length≤1∧wt y21.1≤400∧wt y21.2.1≤4000∧wt y21.2.2≤wt a0+3000) (λy21 J9=>UW _ ?_)
  λk22 uZ=> .c (λzW=> .j (λy23:(List Af)=>wt y23≤2000) (λy23 S2=> .b (zdD ?_) λr26 W2=> .j (λy27:(List Au)×(List Af)×Al=>y27.1.length≤1∧wt y27.1≤400∧wt y27.2.1≤4000∧wt y27.2.2≤wt a0+3000) (λy27 K9=>uZ _ ?_)
  λk28 UX=> .c (λtW=> .g ?_ (.b (sI ?_ ?_) λr29 L9=> .g ?_ (UX _ ?_)))
  λtW=>UX _ ?_)
  λk24 rX=> .c (λDW=> .g ?_ (.g ?_ (.g ?_ (rX _ ?_))))
  λDW=>rX _ ?_)
  λzW=>uZ _ ?_)
  λh9=>UW _ ?_))
  λk3 OV=> .b (IM ?_) λr4 bW=> .c (λ_=>OV _ nofun)
  λWW=>have i14:=bW (nf WW); .c (λ_=>OV _ nofun)
  λcY=>OV _ λq16=>have f17:=MI (nf q16);?_)
 all_goals (try simp only[NB]at *)<;>omega
def zcF{a0}(ha:wt a0≤1000000000):Ok (Ct a0) λr=>wt r≤wt a0:=by
 unfold Ct;refine .g ?_ (.s ?_)
 all_goals (try simp only[NB]at *)<;>omega
def zhS{a0 a1}(ha:wt a0≤1000000000):Ok (Hx a0 a1) λr=>wt r≤wt a0+60000:=by
 unfold Hx;refine have hw:=lC a0.L;
 .j (λy1:Bool=>y1=false→wt a0≤2832∧a0.L.length≤12) (λy1 gW=> .c (λh1=> .cp ?_ (.s ?_))
  λh1=>have i2:=gW h1; .j (λy5:Am=>wt y5≤60000) (λy5 J3=> .s ?_)
  λk6 xW=> .l (λx7:Int×Am=>0≤x7.1∧x7.1≤(a0.L.length:Int)∧wt x7.2≤4500 *x7.1) (λx7:Int×Am=>((a0.L.length:Int) - x7.1).toNat) (λx7 hx7 k8 CX=> .c (λh3=> .bi ?_ ?_ λe9 L2 jZ=> .b (zhz ?_) λr10 QX=> .jt (λy11=> .j (λy13:Am=>wt y13≤4500 *x7.1+4500) (λy13 X2=>CX _ ?_ ?_)
  λk14 yW=> .c (λh4=> .g ?_ (yW _ ?_))
  λh4=>yW _ ?_)
  λk12 OW=> .c (λ_=>OW _)
  λ_=>OW _)
  λh3=>xW _ ?_) ?_ ?_)
  λk2 KV=> .b (zeG ?_) λr3 wW=> .c (λ_=>KV _ nofun)
  λh6=>have i7:=wW (nf h6);KV _ λq8=>?_
 all_goals (try simp only[NB]at *)<;>(try simp(disch:=omega) only[nB,rB]at *)<;>omega
def zgX{a0 a1 a2 a3}(ha:wt a0≤1000000000)(hb:wt a3≤1000000000):Ok (Ht a0 a1 a2 a3) λr=>wt r.1≤wt a0+4000∧r.2.1.length≤1∧wt r.2.1≤400∧wt r.2.2.1≤2000:=by
 unfold Ht;refine have hw:=lC a0.T.L;
 .cp ?_ (.j (λy2:Bool=>y2=false→SF a0) (λy2 AW=> .c (λh1=> .s ?_)
  λh1=>have i2:=AW h1; .c (λh3=> .s ?_)
  λh3=> .bi ?_ ?_ λe6 m5 lZ=> .b (zhv ?_ ?_) λr7 aY=> .j (λy8:Ac=>wt y8≤wt a0+4000) (λy8 o9=> .s ?_)
  λk9 uX=> .c (λh4=> .h ?_ (.bg ?_ λe10 o0 CY=>uX _ (have:=gC a0.T.L a2.toNat r7.1;?_)))
  λh4=>uX _ ?_)
  λk3 OV=> .b (AO ?_) λr4 bW=> .c (λ_=>OV _ nofun)
  λh5=>have i6:=bW (nf h5);OV _ λq7=>?_)
 all_goals (try simp only[NB]at *)<;>(try simp(disch:=omega) only[nB,rB]at *)<;>omega
def zgO{a0 a1}(ha:wt a0≤1000000000):Ok (Hy a0 a1) λr=>wt r.1≤wt a0+60000∧wt r.2≤50000:=by
 unfold Hy;refine have hw:=lC a0.T.L;
 .cp ?_ (.j (λy2:Bool=>y2=false→SF a0) (λy2 AW=> .c (λh1=> .s ?_)
  λh1=>have i2:=AW h1; .b (zhS ?_) λr5 NW=> .j (λy6:(List Af)=>wt y6≤50000) (λy6 K3=> .s ?_)
  λk7 tX=> .l (λx8:(List Af)×Int=>0≤x8.2∧x8.2≤(a0.T.L.length:Int)∧wt x8.1≤3400 *x8.2) (λx8:(List Af)×Int=>((a0.T.L.length:Int) - x8.2).toNat) (λx8 A9 k9 uX=> .c (λh3=> .bi ?_ ?_ λe10 o0 CY=> .b (ZS ?_) λr11 kZ=> .jt (λy12=> .j (λy16:(List Af)=>wt y16≤3400 *x8.2+3400) (λy16 B0=>uX _ ?_ ?_)
  λk17 BW=> .c (λh4=> .bi ?_ ?_ λe18 C5 W0=> .b (zcF ?_) λr19 O2=> .g ?_ (BW _ ?_))
  λh4=>BW _ ?_)
  λk13 FW=> .bi ?_ ?_ λe14 t5 V0=> .c (λh5=> .c (λ_=>FW _)
  λh6=> .h ?_ (.bg ?_ λe15 vZ wZ=>FW _))
  λ_=>FW _)
  λh3=>tX _ ?_) ?_ ?_)
  λk3 OV=> .b (AO ?_) λr4 bW=> .c (λ_=>OV _ nofun)
  λh7=>have i8:=bW (nf h7);OV _ λq9=>?_)
 all_goals (try simp only[NB]at *)<;>(try simp(disch:=omega) only[nB,rB]at *)<;>omega
def zii{a0 a1}(ha:wt a0≤1000000000)(hb:wt a1≤3000)(hc:a1.length≤3):Ok (Iz a0 a1) λr=>r.1.length≤3∧wt r.1≤9100∧wt r.2≤wt a0:=by
 unfold Iz
 refine .j (λy1:(List Au)×Ac=>y1.1.length≤3∧wt y1.1≤9100∧wt y1.2≤wt a0) (λy1 gW=> .s ?_)
  λk2 KV=> .l (λx3:(List Au)×Int×Ac=>0≤x3.2.1∧x3.2.1≤(a1.length:Int)∧(x3.1.length:Int)≤x3.2.1∧wt x3.1≤3001 *x3.2.1∧wt x3.2.2≤wt a0) (λx3:(List Au)×Int×Ac=>((a1.length:Int) - x3.2.1).toNat) (λx3 j0 k4 mW=> .c (λh1=> .j (λy5:(List Au)×Ac=>(y5.1.length:Int)≤x3.2.1+1∧wt y5.1≤3001 *x3.2.1+3001∧wt y5.2≤wt a0) (λy5 J3=>mW _ ?_ ?_)
  λk6 xW=> .bi ?_ ?_ λe7 n5 mZ=> .b (zcZ ?_) λr8 _=> .j (λy9:Ac=>wt y9≤wt a0) (λy9 F7=> .bi ?_ ?_ λe15 vZ wZ=> .g ?_ (xW _ ?_))
  λk10 kW=> .c (λh2=> .bi ?_ ?_ λe11 z9 s5=> .bi ?_ ?_ λe12 M9 D5=> .b (zib ?_) λr13 _=> .b (zcM ?_) λr14 A0=> .c (λh3=>xW _ ?_)
  λh3=>kW _ ?_)
  λh2=>kW _ ?_)
  λh1=>KV _ ?_) ?_ ?_
 all_goals (try simp only[NB]at *)<;>(try simp(disch:=omega) only[nB,rB]at *)<;>omega
def zjg{a0}(ha:wt a0≤1000000000):Ok (Jh a0) λr=>wt r.1≤wt a0+100∧wt r.2≤200:=by
 unfold Jh
 refine .cp ?_ (.j (λy2:Bool=>y2=false→SF a0) (λy2 AW=> .c (λh1=> .s ?_)
  λh1=>have i2:=AW h1; .b (eU ?_) λr5 NW=>have hj:=gT r5.2;have ht:=zdL a0.T.Cap;have hn:wt (KE r5.2)=wt r5.2:=(by simp only[KE,YI,vD,AA,List.length_nil];omega); .m (HQ ?_) (.g ?_ (.s ?_)))
  λk3 OV=> .b (AO ?_) λr4 bW=> .c (λ_=>OV _ nofun)
  λh3=>have i4:=bW (nf h3);OV _ λq5=>?_)
 all_goals (try simp only[NB]at *)<;>omega
def zgC{a0 a1}(ha:wt a0≤1000000000):Ok (Jj a0 a1) λr=>wt r.1≤wt a0+4000∧wt r.2.1≤4000:=by
 unfold Jj;refine have hw:=lC a0.T.L;
 .cp ?_ (.b (AO ?_) λr2 HW=> .c (λh1=> .s ?_)
  λh1=>have i2:=HW (nf h1); .j (λy3:Bool=>y3=false→0≤a1∧a1<(a0.T.L.length:Int)) (λy3 I3=> .c (λh3=> .s ?_)
  λh3=>have i4:=I3 h3; .bi ?_ ?_ λe7 n5 mZ=> .b (zc3 ?_) λr8 KZ=> .h ?_ (.bg ?_ λe9 L2 jZ=> .bi ?_ ?_ λe10 o0 CY=> .b (zcF ?_) λr11 kZ=> .s (have:=gC a0.T.L a1.toNat r8;?_)))
  λk4 mW=> .c (λ_=>mW _ nofun)
  λh5=> .bi ?_ ?_ λe6 m5 lZ=>mW _ λq6=>?_)
 all_goals (try simp only[NB]at *)<;>(try simp(disch:=omega) only[nB,rB]at *)<;>omega
def zgP{a0 a1 a2 a3}(ha:wt a0≤1000000000)(hb:wt a3≤900000000):Ok (Ja a0 a1 a2 a3) λr=>wt r.1≤wt a0+50000∧r.2.1.length≤3∧wt r.2.1≤9100∧wt r.2.2≤20000:=by
 unfold Ja
 refine .cp ?_ (.j (λy2:Bool=>y2=false→SF a0) (λy2 AW=> .c (λh1=> .s ?_)
  λh1=>have i2:=AW h1; .b (zcV ?_) λr5 NW=> .b (zch ?_) λr6 dX=> .c (λh3=> .s ?_)
  λh3=> .j (λy7:(List Au)×(List Af)×Ac×Ac=>y7.1.length≤3∧wt y7.1≤2000∧wt y7.2.1≤20000∧wt y7.2.2.2≤wt a0+50000) (λy7 C9=> .b (zii ?_ ?_ ?_) λr65 N9=> .s ?_)
  λk8 CX=> .c (λh4=> .jt (λy9=> .c (λh5=> .s ?_)
  λh5=> .b (eU ?_) λr12 MY=>have hn:wt (KE r12.2)=wt r12.2:=(by simp only[KE,YI,vD,AA,List.length_nil];omega); .g ?_ (.b (zdc ?_ ?_) λr13 Q2=> .m (HQ ?_) (.b (yV ?_ ?_) λr15 ZZ=> .b (zal ?_ ?_) λr16 O9=> .g ?_ (.g ?_ (CX _ ?_)))))
  λk10 kW=> .c (λ_=>kW _)
  λh6=> .b (zcA ?_) λr11 _=> .c (λ_=>kW _)
  λ_=>kW _)
  λh4=> .j (λy18:(List Au)×(List Af)×Ac×Ac=>y18.1.length≤3∧wt y18.1≤2000∧wt y18.2.1≤20000∧wt y18.2.2.2≤wt a0+50000) (λy18 V2=>CX _ ?_)
  λk19 UW=> .c (λh8=> .j (λy20:Bool=>y20=false→1≤r6.1.Id∧r6.1.Id≤(a0.Psks.length:Int)) (λy20 E5=> .c (λh9=> .s ?_)
  λh9=>have i10:=E5 h9; .b (ZS ?_) λr25 m0=> .j (λy26:(List Af)×Int×Ac×Ac=>wt y26.1≤8000∧wt y26.2.2.2≤wt a0+10000∧0≤y26.2.1∧y26.2.1<(y26.2.2.2.T.L.length:Int)) (λy26 v5=> .h ?_ (.bg ?_ λe38 P9 F5=> .jt (λy39=> .j (λy42:(List Au)×(List Af)×Ac=>y42.1.length≤3∧wt y42.1≤1000∧wt y42.2.1≤15000∧wt y42.2.2≤wt a0+40000) (λy42 G5=>UW _ ?_)
  λk43 VX=> .c (λtW=> .b (zhO ?_) λr44 Q9=> .h ?_ (.bg ?_ λe45 he45 he45w=> .g ?_ (.g ?_ (VX _ (have:=gC y26.2.2.2.T.L y26.2.1.toNat r44.1;?_)))))
  λtW=>VX _ ?_)
  λk40 HX=> .c (λDW=> .c (λWW=> .b (tP ?_) λr41 I5=>HX _)
  λ_=>HX _)
  λ_=>HX _))
  λk27 SX=> .c (λbY=> .bi ?_ ?_ λe28 he28 he28w=> .b (zh3 ?_) λr29 L9=> .b (zhZ ?_ ?_) λr30 I9=>have hl:=lC r30.1.L; .c (λcY=> .s ?_)
  λcY=> .b (yV ?_ ?_) λr31 U2=> .b (BR ?_ ?_ ?_) λr32 hr32=> .g ?_ (.bi ?_ ?_ λe33 he33 he33w=> .b wV λr34 A5=> .b (vV ?_ ?_ ?_) λr35 hr35=> .b (BR ?_ ?_ ?_) λr36 R9=> .g ?_ (.g ?_ (.g ?_ (.g ?_ (.g ?_ (SX _ ?_)))))))
  λbY=>SX _ ?_)
  λk21 IX=> .b (zix ?_) λr22 R2=> .c (λ_=>IX _ nofun)
  λDY=> .c (λ_=>IX _ nofun)
  λNY=> .bi ?_ ?_ λe23 he23 he23w=> .b (zh2 ?_) λr24 _=>IX _ λq18=>?_)
  λh8=> .j (λy46:(List Au)×(List Af)×Ac×Ac=>y46.1.length≤3∧wt y46.1≤2000∧wt y46.2.1≤20000∧wt y46.2.2.2≤wt a0+50000) (λy46 S9=>UW _ ?_)
  λk47 xZ=> .c (λDZ=> .b (ZS ?_) λr48 T9=> .j (λy49:Bool=>y49=false→0≤r48) (λy49 J5=> .c (λEZ=> .s ?_)
  λEZ=>have i21:=J5 EZ; .b (eU ?_) λr52 U9=> .b (zcA ?_) λr53 _=> .j (λy54:(List UInt8)=>y54.length≤32) (λy54 hy54=>have hn:wt (KE y54)=wt y54:=(by simp only[KE,YI,vD,AA,List.length_nil];omega); .bi ?_ ?_ λe56 V9 K5=> .b (zhD ?_ ?_ ?_) λr57 hr57=> .h ?_ (.bg ?_ λe58 W9 L5=> .g ?_ (.j (λy59:(List Af)×Ac=>wt y59.1≤200∧wt y59.2≤wt a0+40000) (λy59 hy59=> .g ?_ (.j (λy62:(List Af)=>wt y62≤20000) (λy62 hy62=>xZ _ ?_)
  λk63 M5=> .c (λMZ=> .g ?_ (.g ?_ (.g ?_ (M5 _ ?_))))
  λMZ=>M5 _ ?_))
  λk60 N5=> .c (λVY=> .m (HQ ?_) (.g ?_ (N5 _ (have:=gC a0.T.L r48.toNat r57.1;?_))))
  λVY=>N5 _ (have:=gC a0.T.L r48.toNat r57.1;?_))))
  λk55 O5=> .c (λNZ=>O5 _ ?_)
  λNZ=>O5 _ ?_)
  λk50 yZ=> .c (λ_=>yZ _ nofun)
  λd3=> .bi ?_ ?_ λe51 he51 he51w=>yZ _ λq26=>?_)
  λDZ=>xZ _ ?_)
  λk3 OV=> .b (AO ?_) λr4 bW=> .c (λ_=>OV _ nofun)
  λL3=>have i28:=bW (nf L3); .c (λ_=>OV _ nofun)
  λR6=>OV _ λq30=>have f31:=MI (nf q30);?_)
 all_goals (try simp only[NB]at *)<;>(try simp(disch:=omega) only[nB,rB]at *)<;>omega
end Go.D
namespace Go.D
def zca{α:Type}[Wt α](l:List α)(i:Nat):Nat:=match l[i]? with
 | some c=>wt c
 | none=>0
def QJ{α:Type}[Wt α]{l:List α}{i:Nat}{x:α}(h:l[i]?=some x):zca l i=wt x:=by unfold zca;rw[h]
def aP{α:Type}[Wt α]{x y:α}:∀{l:List α} {i:Nat},l[i]?=some y→wt (l.set i x)+wt y=wt l+wt x
 | [],_,h=>by simp at h
 | z :: l,0,h=>by
  rw[List.getElem?_cons_zero]at h;cases h;rw[List.set_cons_zero,VC,VC];omega
 | z :: l,i+1,h=>by
  rw[List.getElem?_cons_succ]at h;have:=aP (x:=x) h;rw[List.set_cons_succ,VC,VC];omega
def zkM{e:Ai}(h:WJ e=true):1≤e.Kind∧e.Kind≤17∧0≤e.I∧0≤e.J∧0≤e.N∧e.B.length≤200∧e.Ops.length≤16:=by
 simp only[WJ,Bool.and_eq_true,ED,decide_eq_true_eq]at h;omega
def ziM{c:Ah}(h:GA c):Ok (Gt c) λr=>GA r.2:=by
 unfold Gt;exact(zbj h (by simp)).bind λq hq=> .some' hq.2
def ziy{s a b:List UInt8}{m:Int}(hs:1≤s.length∧s.length≤32)(ha:1≤a.length∧a.length≤32)(hb:1≤b.length∧b.length≤32)(hm:1≤m∧m≤6):bD (SB [a,b] s m)=true:=by
 have e0:gA (s.length:Int) 1 32=true:=HC.2 ⟨by omega,by omega⟩
 have hd:zC ⟨s,0⟩=true:=by
  show(gA (s.length:Int) 1 32&&gA 0 0 10000)=true
  rw[e0];rfl
 have hr:VE ⟨s,0⟩=(⟨s,iA .i64 0 1⟩,aC s 0):=by
  rw[VE,hd];rfl
 have hl:(aC s 0).length=12:=by
  rw[aC,e0];show(List.take 12 _).length=12
  rw[List.length_take,RJ (by omega) (by rw[yT];omega)];rfl
 have hj:UE (jG (aC s 0))=true:=by
  rw[jG,show IB (aC s 0)=true by rw[IB,hl];rfl];show(((gK (aC s 0) [106,97,114]).length:Int)==32)=true
  rw[zj0 (by omega) (by decide)];rfl
 have ht:PE m=⟨m,[]⟩:=by rw[PE,HC.2 hm];rfl
 have hp:mC a=true∧mC b=true:=⟨HC.2 (by omega),HC.2 (by omega)⟩
 have hto:pF ⟨m,[]⟩=true:=by
  show(gA m 1 6&&true&&decide ((0:Int)≤m)&&true)=true
  rw[HC.2 hm,decide_eq_true (by omega)];rfl
 have h1:iA .i64 0 1=1:=rfl;show(gA 2 1 9&&UE (jG (VE ⟨s,0⟩).2)&&zC (VE ⟨s,0⟩).1&&pF (PE m)&&true&&!(!mC a||(!mC b||false))&&!((PE m).L.any λe=>decide (e.Id>2)))=true
 rw[hr,ht,hto,hp.1,hp.2];simp only;rw[hj,h1];show(true&&true&&(gA (s.length:Int) 1 32&&gA 1 0 10000)&&true&&true&&true&&true)=true
 rw[e0];rfl
def zjf{s a b:List UInt8}{m:Int}(h:s.length=8∧a.length=6∧b.length=9)(hm:1≤m∧m≤3):Ok (WS s a b m) λr=>wt r≤4000∧TW r:=by
 have hL:=sB;have hw:=zjw s a b m;rw[AA,AA,AA]at hw;refine PD (by rw[AA,AA,AA];omega) ⟨by omega,?_⟩;have hs:=ziy (s:=s) (a:=a) (b:=b) (m:=m) (by omega) (by omega) (by omega) (by omega);rw[mP,hs];obtain⟨_,ka,kb,_⟩:=zjG hs;show[FC 1 a (uB 1),FC 2 b (uB 2)].length=2∧(FC 1 a (uB 1)).Id=1∧(FC 2 b (uB 2)).Id=2
 rw[ka,kb];exact⟨rfl,rfl,rfl⟩
def zm5{b:List UInt8}{f n:Int}(h:b.length≤bA):Ok (nJ b f n) λr=>r.1.length≤b.length:=PD (by rw[AA];exact h) (by
 unfold cut;cases decide (f<0)||(decide (n<0)||(decide (f>(b.length:Int))||decide (n>(b.length:Int) - f)))
 ·rw[cond_false];simp only[List.length_take,List.length_drop];omega
 ·exact Nat.zero_le _)
def ziD(b:List UInt8)(f n:Int)(h:wt b≤bA)(hf:ZC .i64 f)(hn:ZC .i64 n):Jf b f n=some (cut b f n):=by
 have hl:b.length≤bA:=by rw[←AA];exact h
 have hL:=sB;have hf:=RM hf;have hn:=RM hn;simp only[Jf,aA,cut,List.nil_append]
 by_cases h2:n<0
 ·rw[decide_eq_true h2];cases decide (f<0)<;>rfl
 by_cases h1:f<0
 ·rw[decide_eq_false h2,decide_eq_true h1];rfl
 by_cases h3:n>(b.length:Int)
 ·have h4:(decide (f>(b.length:Int))||decide (n>(b.length:Int) - f))=true:=by simp;omega
  rw[decide_eq_false h2,decide_eq_false h1,decide_eq_true h3,h4];rfl
 have e:oA .i64 (b.length:Int) n=(b.length:Int) - n:=by rw[oA,yB (by omega) (by omega)]
 rw[e]
 by_cases h4:f>(b.length:Int) - n
 ·have h5:(decide (f>(b.length:Int))||decide (n>(b.length:Int) - f))=true:=by simp;omega
  rw[decide_eq_false h2,decide_eq_false h1,decide_eq_false h3,decide_eq_true h4,h5];rfl
 have e2:iA .i64 f n=f+n:=by rw[iA,yB (by omega) (by omega)]
 have e3:(decide (0≤f)&&decide (f≤f+n)&&decide (f+n≤(b.length:Int)))=true:=by simp;omega
 have h5:(decide (f>(b.length:Int))||decide (n>(b.length:Int) - f))=false:=by simp;omega
 rw[decide_eq_false h1,decide_eq_false h2,decide_eq_false h3,decide_eq_false h4,h5];simp only[cond_false,e2];rw[e3,show f+n - f=n by omega];have:((b.drop f.toNat).take n.toNat).length≤bA:=by rw[List.length_take,List.length_drop];omega
 rw[List.length_nil,Nat.zero_add,decide_eq_true this];rfl
def VM.ok{x}(hb:rA [.sl .byte, .v .int, .v .int] x){r}:nJ x.1 x.2.1 x.2.2=some r→Jf x.1 x.2.1 x.2.2=some r:=KA λh=>
 ziD x.1 x.2.1 x.2.2 h (NJ hb.2.1 0 (by decide) rfl) (NJ hb.2.2 0 (by decide) rfl)
end Go.D

/-
 The reference's machine comes to an end, and what it gives is small.
-/
import Derived.Test.YtfealdecpglcnaaGreatN8
set_option linter.all false
namespace Go.D
def zaU{a0 a1 a2 a3}(ha:wt a1≤1000000000):Ok (Cm a0 a1 a2 a3) λr=>r.length≤40∧(0<r.length→a1.length=12):=by
 unfold Cm
 refine .j (λy1:Bool=>y1=false→a1.length=12) (λy1 XV=> .c (λh1=> .s ?_)
  λh1=>have i2:=XV h1; .g ?_ (.b (RG ?_) λr3 sW=> .b (RG ?_) λr4 NV=> .s ?_))
  λk2 BV=> .c (λ_=>BV _ nofun)
  λh3=> .c (λ_=>BV _ nofun)
  λh4=> .c (λ_=>BV _ nofun)
  λh5=>BV _ λq6=>?_
 all_goals (try simp only[NB]at *)<;>omega
def zpv{a0 a1 a2}(ha:wt a1≤1000000000):Ok (Gv a0 a1 a2) λr=>r.length≤32∧(0≤a2∧a2≤6∧a1.length≤100∧a0.length≤1048576→r.length=32):=by
 try simp only[N]at ha
 have hL:=yB;unfold Gv;refine Ok.join (λy1:Bool=>(y1=true∧¬(0≤a2∧a2≤6∧a1.length≤100))∨(y1=false∧a1.length≤100)) (λy1 XV=>?_) (λk2 BV=>?_)
 ·rcases XV with⟨rfl,h⟩ | ⟨rfl,h⟩
  ·exact Ok.some' ⟨Nat.zero_le _,λk=>absurd ⟨k.1,k.2.1,k.2.2.1⟩ h⟩
  ·refine Ok.guard ?_ ?_
   ·simp only[N];omega
   refine Ok.bind (RG ?_) (λr3 sW=>?_)
   ·simp only[N];omega
   simp only[N]at sW;exact Ok.some' ⟨FL _ _,λk=>wI k.2.2.2 (by omega)⟩
 refine Ok.cond' (λh2=>?_) (λh2=>?_)
 ·simp only[B]at h2;exact BV _ (.inl ⟨rfl,λk=>h2 ⟨k.1,k.2.1⟩⟩)
 ·simp only[B]at h2;refine BV _ ?_
  by_cases h:(a1.length:Int)>100
  ·exact .inl ⟨decide_eq_true h,λk=>by omega⟩
  ·exact .inr ⟨decide_eq_false h,by omega⟩
def zeK{a0 a1 a2}(ha:wt a1≤1000000000):Ok (Er a0 a1 a2) λr=>r.length≤200∧(0≤a2∧a2≤200∧a1.length≤100∧a0.length≤1048576→(r.length:Int)=a2):=by
 have hL:=yB;unfold Er;refine Ok.join (λy1:Bool=>(y1=true∧¬(0≤a2∧a2≤200∧a1.length≤100∧a0.length≤1048576))∨(y1=false∧(0≤a2∧a2≤200∧a1.length≤100∧a0.length≤1048576))) (λy1 XV=>?_) (λk2 BV=>?_)
 ·rcases XV with⟨rfl,h⟩ | ⟨rfl,h⟩
  ·exact Ok.some' ⟨Nat.zero_le _,λk=>absurd k h⟩
  ·rw[cond_false];refine Ok.join (λy3:List UInt8=>a2≤(y3.length:Int)∧y3.length≤1000) (λy3 Y4=>?_) (λk4 bW=>?_)
   ·refine Ok.chk ?_ ?_
    ·simp only[B];omega
    refine Ok.guard ?_ ?_
    ·simp only[N];omega
    refine Ok.some' ?_;simp only[N];omega
   refine Ok.loop (λx5:(List UInt8)×Int=>0≤x5.2∧x5.2≤7∧(x5.1.length:Int)=32 *x5.2) (λx5=>(7 - x5.2).toNat) (λx5 hx5 k6 pW=>?_) ?_ ?_
   ·refine Ok.cond' (λh1=>?_) (λh1=>?_)
    ·simp only[B]at h1;refine Ok.bind (zpv ha) (λr7 IW=>?_);have h7:r7.length=32:=IW.2 (by omega);refine Ok.guard ?_ ?_
     ·simp only[N];omega
     have:=DA (a:=x5.2) (b:=1) (by omega) (by omega);refine pW _ ?_ ?_
     ·simp only[N];omega
     ·simp only[N];omega
    ·simp only[B]at h1;refine bW _ ?_;omega
   ·simp only[N];omega
   ·simp only[N];omega
 refine Ok.cond' (λh2=>?_) (λh2=>?_)
 ·simp only[B]at h2;exact BV _ (.inl ⟨rfl,λk=>h2 ⟨k.1,k.2.1⟩⟩)
 ·simp only[B]at h2;refine Ok.cond' (λh3=>?_) (λh3=>?_)
  ·simp only[B]at h3;exact BV _ (.inl ⟨rfl,λk=>by omega⟩)
  ·simp only[B]at h3;refine BV _ ?_
   by_cases h:(a0.length:Int)>1048576
   ·exact .inl ⟨decide_eq_true h,λk=>by omega⟩
   ·exact .inr ⟨decide_eq_false h,by omega⟩
def zfg{a0 a1 a2}(ha:wt a1≤1000000000)(hb:wt a2≤1000000000):Ok (Es a0 a1 a2) λr=>r.length≤200:=by
 unfold Es
 refine .j (λy1:Bool=>y1=false→a2.length≤200∧a1.length≤100∧a0.length≤1048576) (λy1 XV=> .c (λh1=> .s ?_)
  λh1=>have i2:=XV h1; .b (zeK ?_) λr3 sW=> .j (λy4:(List UInt8)=>y4.length≤200) (λy4 TZ=> .s ?_)
  λk5 BW=> .l (λx6:(List UInt8)×Int=>0≤x6.2∧x6.2≤(a2.length:Int)∧(x6.1.length:Int)=x6.2) (λx6:(List UInt8)×Int=>((a2.length:Int) - x6.2).toNat) (λx6 hx6 k7 CW=> .c (λh3=> .bi ?_ ?_ λe8 N3 N2=> .h ?_ (.bg ?_ λe9 qZ gY=> .g ?_ (CW _ ?_ ?_)))
  λh3=>BW _ ?_) ?_ ?_)
  λk2 BV=> .c (λ_=>BV _ nofun)
  λh4=> .c (λ_=>BV _ nofun)
  λh5=>BV _ λq6=>?_
 all_goals (try simp only[NB]at *)<;>(try simp(disch:=omega) only[DA,RA]at *)<;>omega
def BN{a0 a1}(ha:wt a1≤1000000000):Ok (Ce a0 a1) λr=>r.length≤160:=by
 unfold Ce
 refine .j (λy1:Bool=>y1=false→wt a1≤112) (λy1 XV=> .c (λh1=> .s ?_)
  λh1=>have i2:=XV h1; .b (zaU ?_) λr3 sW=> .g ?_ (.g ?_ (.g ?_ (.s ?_))))
  λk2 BV=> .c (λ_=>BV _ nofun)
  λh3=> .c (λ_=>BV _ nofun)
  λh4=>have f5:=LC (nf h4);BV _ λq6=>?_
 all_goals (try simp only[NB]at *)<;>omega
def RU{a0 a1}:Ok (Dd a0 a1) λr=>r.length≤16:=by
 unfold Dd;refine have hm:=FL a0 a1;
 .c (λh1=> .s ?_)
  λh1=> .h ?_ (.g ?_ (.s ?_))
 all_goals (try simp only[NB]at *)<;>omega
def ziW{a0 a1 a2 a3 a4 a5 a6}(ha:wt a0≤1000000000)(hb:wt a2≤1000000000)(hc:wt a6≤1000000000):Ok (Fl a0 a1 a2 a3 a4 a5 a6) λr=>(wt r.1≤300)∧(r.2=true→a2.length=12∧a0.length=32):=by
 unfold Fl
 refine .b (zaU ?_) λr1 LV=> .j (λy2:Bool=>y2=false→a2.length=12∧a0.length=32) (λy2 lW=> .c (λh1=> .s ⟨?_,nofun⟩)
  λh1=>have i2:=lW h1; .g ?_ (.b (zfg ?_ ?_) λr4 NV=> .j (λy5:Ab=>wt y5≤280) (λy5 d7=> .b (BN ?_) λr9 tX=> .b RU λr10 tW=> .s ⟨?_,λq3=>?_⟩)
  λk6 pW=> .l (λx7:Int×Ab=>0≤x7.1∧x7.1≤16∧x7.2.Tag.length=x7.1∧wt x7.2≤212+x7.1) (λx7:Int×Ab=>(16 - x7.1).toNat) (λx7 hx7 k8 eW=> .c (λh4=> .g ?_ (eW _ ?_ ?_))
  λh4=>pW _ ?_) ?_ ?_))
  λk3 CV=> .c (λ_=>CV _ nofun)
  λh5=> .c (λ_=>CV _ nofun)
  λh6=> .c (λ_=>CV _ nofun)
  λh7=>CV _ λq8=>?_
 all_goals (try simp only[NB]at *)<;>(try simp(disch:=omega) only[DA,RA]at *)<;>omega
def zqH{a0 a1 a2 a3 a4 a5 a6 a7}(ha:wt a0≤1000000000)(hb:wt a3≤1000000000)(hc:wt a7≤1000000000):Ok (Iz a0 a1 a2 a3 a4 a5 a6 a7) λr=>wt r≤1000:=by
 unfold Iz
 refine .b (ziW ?_ ?_ ?_) λr1 ⟨LV,Z4⟩=> .j (λy2:Bool=>y2=false→a3.length=12) (λy2 lW=> .c (λh1=> .s ?_)
  λh1=>have i2:=lW h1; .g ?_ (.b (RG ?_) λr4 NV=> .b (RG ?_) λr5 MV=> .b (BN ?_) λr6 AW=> .g ?_ (.s ?_)))
  λk3 CV=> .c (λ_=>CV _ nofun)
  λh3=>have i4:=Z4 (nf h3);CV _ λq5=>?_
 all_goals (try simp only[NB]at *)<;>omega
def zew{a0}(ha:wt a0≤1000000000):Ok (Bm a0) λr=>r.length≤200:=by
 unfold Bm
 refine .c (λh1=> .s ?_)
  λh1=>have f2:=LC (nf h1); .j (λy1:(List UInt8)=>y1.length≤200) (λy1 XV=> .s ?_)
  λk2 BV=> .c (λh3=> .g ?_ (.g ?_ (.j (λy4:(List UInt8)=>y4.length≤200) (λy4 TZ=>BV _ ?_)
  λk5 BW=> .l (λx6:(List UInt8)×Int=>0≤x6.2∧x6.2≤20∧x6.1.length≤140+x6.2) (λx6:(List UInt8)×Int=>(20 - x6.2).toNat) (λx6 hx6 k7 CW=> .c (λh4=> .g ?_ (CW _ ?_ ?_))
  λh4=>BW _ ?_) ?_ ?_)))
  λh3=> .j (λy8:(List UInt8)=>y8.length≤200) (λy8 hy8=>BV _ ?_)
  λk9 wX=> .c (λh5=> .g ?_ (.g ?_ (.b (RG ?_) λr11 NW=> .g ?_ (wX _ ?_))))
  λh5=> .j (λy12:(List UInt8)=>y12.length≤200) (λy12 wY=>wX _ ?_)
  λk13 TV=> .c (λh6=> .g ?_ (.g ?_ (.g ?_ (.b (RG ?_) λr15 iY=> .g ?_ (.g ?_ (TV _ ?_))))))
  λh6=> .g ?_ (.b (RG ?_) λr17 K0=> .b (RG ?_) λr18 xY=> .g ?_ (.g ?_ (TV _ ?_)))
 all_goals (try simp only[NB]at *)<;>(try simp(disch:=omega) only[DA,RA]at *)<;>omega
def zhR{a0 a1 a2}(ha:wt a2≤1000000000):Ok (Fn a0 a1 a2) λr=>wt r≤200:=by
 unfold Fn;refine .b (zew ?_) λr1 LV=> .s ?_
 all_goals (try simp only[NB]at *)<;>omega
def zeE{a0 a1}(ha:wt a0≤1000000000)(hb:wt a1≤1000000):Ok (Et a0 a1) λr=>wt r≤201 *a1.length:=by
 unfold Et;refine have hw:=QB a1;
 .j (λy1:(List Al)=>wt y1≤201 *a1.length) (λy1 XV=> .s ?_)
  λk2 BV=> .l (λx3:(List Al)×Int=>0≤x3.2∧x3.2≤(a1.length:Int)∧wt x3.1≤201 *x3.2) (λx3:(List Al)×Int=>((a1.length:Int) - x3.2).toNat) (λx3 aY k4 bW=> .c (λh1=> .bi ?_ ?_ λe6 jY kX=> .b (zhR ?_) λr7 IW=> .g ?_ (bW _ ?_ ?_))
  λh1=>BV _ ?_) ?_ ?_
 all_goals (try simp only[NB]at *)<;>(try simp(disch:=omega) only[DA,RA]at *)<;>omega
def zh5{a0}(ha:wt a0≤1000000):Ok (Fo a0) λr=>wt r≤201 *a0.length:=by
 unfold Fo;refine have hw:=QB a0;
 .j (λy1:(List Al)=>wt y1≤201 *a0.length) (λy1 XV=> .s ?_)
  λk2 BV=> .l (λx3:(List Al)×Int=>0≤x3.2∧x3.2≤(a0.length:Int)∧wt x3.1≤201 *x3.2) (λx3:(List Al)×Int=>((a0.length:Int) - x3.2).toNat) (λx3 aY k4 bW=> .c (λh1=> .bi ?_ ?_ λe6 jY kX=> .bi ?_ ?_ λe7 UZ yY=> .b (zhR ?_) λr8 RW=> .g ?_ (bW _ ?_ ?_))
  λh1=>BV _ ?_) ?_ ?_
 all_goals (try simp only[NB]at *)<;>(try simp(disch:=omega) only[DA,RA]at *)<;>omega
def zpN{a0}(ha:wt a0≤1000000000):Ok (Fa a0) λr=>True:=by
 unfold Fa;refine .b (zew ?_) λr1 LV=> .s trivial
 all_goals (try simp only[NB]at *)<;>omega
def zhS{a0}(ha:wt a0≤900000000):Ok (Ev a0) λr=>wt r.1≤400:=by
 unfold Ev
 refine .c (λh1=> .s ?_)
  λh1=> .bi ?_ ?_ λe1 pY m7=> .j (λy3:Ab×Ab=>wt y3.2≤a0.length+100) (λy3 Y4=> .b (zew ?_) λr28 n7=> .e ?_ (.e ?_ (.c (λh2=> .s ?_)
  λh2=>have:=congrArg List.length (eq_of_beq (nf h2)); .s ?_)))
  λk4 bW=> .c (λh3=> .c (λh4=> .s ?_)
  λh4=> .bi ?_ ?_ λe5 iX dX=> .h ?_ (.g ?_ (bW _ ?_)))
  λh3=> .j (λy8:Ab×Ab=>wt y8.2≤a0.length+100) (λy8 hy8=>bW _ ?_)
  λk9 wX=> .c (λh5=> .c (λh6=> .s ?_)
  λh6=> .h ?_ (.g ?_ (.h ?_ (.g ?_ (.b (zda ?_) λr12 TX=> .h ?_ (.g ?_ (wX _ ?_)))))))
  λh5=> .j (λy14:Ab×Ab=>wt y14.2≤a0.length+100) (λy14 hy14=>wX _ ?_)
  λk15 L0=> .c (λh7=> .c (λh8=> .s ?_)
  λh8=> .bi ?_ ?_ λe16 b5 O3=> .h ?_ (.g ?_ (.h ?_ (.g ?_ (.b (zda ?_) λr20 M0=> .h ?_ (.g ?_ (.h ?_ (.g ?_ (L0 _ ?_)))))))))
  λh7=> .c (λh9=> .s ?_)
  λh9=> .h ?_ (.g ?_ (.b (zda ?_) λr24 UX=> .b (zda ?_) λr25 O0=> .h ?_ (.g ?_ (.h ?_ (.g ?_ (L0 _ ?_))))))
 all_goals (try simp only[NB]at *)<;>(try simp(disch:=omega) only[DA,RA]at *)<;>omega
end Go.D
namespace Go.D
def zpp{a0}:Ok (Hq a0) λr=>True:=by
 unfold Hq
 refine .c (λh1=> .s trivial)
  λh1=> .s trivial
def zio{a0 a1}:Ok (By a0 a1) λr=>(True)∧(r=true→a0.Bits.length=32∧0≤a1∧a1≤281474976710655∧ -1≤a0.Top∧a0.Top≤281474976710655):=by
 unfold By
 refine .j (λy1:Bool=>y1=false→a0.Bits.length=32∧0≤a1∧a1≤281474976710655∧ -1≤a0.Top∧a0.Top≤281474976710655) (λy1 XV=> .c (λh1=> .s ⟨trivial,nofun⟩)
  λh1=>have i2:=XV h1; .jt (λy3=> .s ⟨trivial,λq3=>?_⟩)
  λk4 bW=> .c (λ_=>bW _)
  λh4=> .b zpp λr5 _=> .c (λh5=> .b (zw4 ?_) λr6 AW=>bW _)
  λ_=>bW _)
  λk2 BV=> .c (λ_=>BV _ nofun)
  λh6=>have f7:=zgd (nf h6);BV _ λq8=>?_
 all_goals (try simp only[NB]at *)<;>omega
def vT{n:Int}(h0:0≤n):xA .i64 n 1024=n % 1024:=NO h0
def sT{n:Int}(h0:0≤n)(h1:n<1024):NC .i64 n 32=n / 32:=by
 unfold NC;rw[Int.tdiv_eq_ediv_of_nonneg h0,FB (by omega) (by omega)]
def zqa{a0 a1}(ha:wt a0≤1000000000):Ok (Di a0 a1) λr=>wt r.1≤wt a0∧wt a0≤wt r.1:=by
 have hL:=yB;unfold Di;simp only[N]at ha;refine Ok.same (nA (p:=wt a0≤bA) ?_) ?_
 ·simp only[N];omega
 refine Ok.bind zio (λr2 jW=>?_);refine Ok.cond' (λh=>Ok.some' ?_) (λh=>?_)
 ·simp only[N];omega
 ·simp only[B]at h;have hm:=jW.2 h;have e1:=vT hm.2.1;have e2:=sT (n:=a1 % 1024) (by omega) (by omega);have e3:=NO (a:=a1 % 1024) (b:=32) (by omega);rw[e1,e2,e3];refine Ok.join (λy:Ap=>y.Bits.length=32) (λy hy=>?_) (λk hk=>?_)
  ·refine Ok.chk ?_ ?_
   ·simp only[B];omega
   refine Ok.bind (Ok.get ?_) (λe he=>?_)
   ·omega
   refine Ok.chkn ?_ ?_
   ·simp only[B];omega
   refine Ok.chk ?_ ?_
   ·simp only[B];omega
   refine Ok.bind (Ok.get ?_) (λe' gX=>?_)
   ·omega
   refine Ok.join (λz:Ap=>z.Bits.length=32) (λz hz=>?_) (λk' vW=>?_)
   ·refine Ok.some' ?_;simp only[N];omega
   ·refine Ok.cond' (λ_=>vW _ ?_) (λ_=>vW _ ?_)
    ·simp only[N];exact hy
    ·simp only[N];exact hy
  ·refine Ok.loop (λx:Int×Int×Ap=>0≤x.2.1∧x.2.1≤281474976710656∧0≤x.1∧x.1≤1024∧x.2.2.Bits.length=32) (λx=>(1025 - x.1).toNat) (λx hx k' vW=>?_) ?_ ?_
   ·have f1:=vT hx.1;have f2:=sT (n:=x.2.1 % 1024) (by omega) (by omega);have f3:=NO (a:=x.2.1 % 1024) (b:=32) (by omega);rw[f1,f2,f3];refine Ok.join (λy:Bool=>y=true→x.1<1024∧x.2.1≤a1) (λy hy=>?_) (λk2 BV=>?_)
    ·refine Ok.cond' (λh=>?_) (λ_=>hk _ hx.2.2.2.2);have hy:=hy h;refine Ok.chk ?_ ?_
     ·simp only[B];omega
     refine Ok.bind (Ok.get ?_) (λe he=>?_)
     ·omega
     refine Ok.chkn ?_ ?_
     ·simp only[B];omega
     refine Ok.chk ?_ ?_
     ·simp only[B];omega
     refine Ok.bind (Ok.get ?_) (λe' gX=>?_)
     ·omega
     have g1:=DA (a:=x.1) (b:=1) (by omega) (by omega);have g2:=DA (a:=x.2.1) (b:=1) (by omega) (by omega);refine vW _ ?_ ?_
     ·simp only[N];omega
     ·simp only;omega
    ·refine Ok.cond' (λh=>BV _ λq=>?_) (λ_=>BV _ λq=>nomatch q);simp only[B]at h q;omega
   ·have g:=DA (a:=a0.Top) (b:=1) (by omega) (by omega);simp only;omega
   ·simp only;omega
def zpZ:Ok (Hn) λr=>wt r≤32∧32≤wt r:=by
 unfold Hn
 refine .j (λy1:Ap=>wt y1≤32∧32≤wt y1) (λy1 XV=> .s ?_)
  λk2 BV=> .l (λx3:Int×Ap=>0≤x3.1∧x3.1≤32∧x3.2.Bits.length=x3.1) (λx3:Int×Ap=>(32 - x3.1).toNat) (λx3 aY k4 bW=> .c (λh1=> .g ?_ (bW _ ?_ ?_))
  λh1=>BV _ ?_) ?_ ?_
 all_goals (try simp only[NB]at *)<;>(try simp(disch:=omega) only[DA,RA]at *)<;>omega
def zeP{a0 a1}(ha:wt a1≤1000000000):Ok (Dg a0 a1) λr=>wt r≤64:=by
 unfold Dg
 refine .j (λy1:Bool=>y1=false→a1.length=32) (λy1 XV=> .c (λh1=> .s ?_)
  λh1=>have i2:=XV h1; .g ?_ (.b zpZ λr3 sW=> .s ?_))
  λk2 BV=> .c (λ_=>BV _ nofun)
  λh3=>BV _ λq4=>?_
 all_goals (try simp only[NB]at *)<;>omega
def zh6{a0 a1 a2}(ha:wt a1≤1000000000)(hb:wt a2≤1000000000):Ok (Fx a0 a1 a2) λr=>wt r≤76:=by
 unfold Fx
 refine .j (λy1:Bool=>y1=false→a1.length=12∧a2.length=32) (λy1 XV=> .c (λh1=> .s ?_)
  λh1=>have i2:=XV h1; .g ?_ (.b (zeP ?_) λr3 sW=> .s ?_))
  λk2 BV=> .c (λ_=>BV _ nofun)
  λh3=> .c (λ_=>BV _ nofun)
  λh4=>BV _ λq5=>?_
 all_goals (try simp only[NB]at *)<;>omega
def zp8{a0 a1 a2 a3 a4}(ha:wt a0≤1000000000)(hb:wt a2≤1000000000)(hc:wt a4≤1000000000):Ok (Gx a0 a1 a2 a3 a4) λr=>wt r.1≤wt a0∧wt r.2.1≤300:=by
 unfold Gx
 refine .cp ?_ (.jt (λy2=> .c (λh1=> .s ?_)
  λh1=> .jt (λy5=> .c (λh2=> .s ?_)
  λh2=> .c (λh3=> .s ?_)
  λh3=> .b (ziW ?_ ?_ ?_) λr7 ⟨IW,hr7i⟩=> .s ?_)
  λk6 pW=> .c (λ_=>pW _)
  λ_=>pW _)
  λk3 CV=> .c (λ_=>CV _)
  λh5=>have f6:=lT (nf h5); .b (zaU ?_) λr4 NV=> .c (λ_=>CV _)
  λh7=> .c (λ_=>CV _)
  λ_=>CV _)
 all_goals (try simp only[NB]at *)<;>(try simp(disch:=omega) only[DA,RA]at *)<;>omega
def DP{a0 a1 a2}(ha:wt a0≤1000000000)(hb:wt a2≤1000000000):Ok (Cp a0 a1 a2) λr=>wt r.1≤wt a0∧wt r.2.1≤300:=by
 unfold Cp
 refine .cp ?_ (.b (nK ?_) λr2 jW=> .c (λh1=> .s ?_)
  λh1=>have i2:=jW (nf h1); .b (zp8 ?_ ?_ ?_) λr3 sW=> .j (λy4:Aj=>wt y4≤wt a0) (λy4 TZ=> .s ?_)
  λk5 BW=> .c (λh3=>BW _ ?_)
  λh3=>BW _ ?_)
 all_goals (try simp only[NB]at *)<;>omega
def ze6{a0 a1}(ha:wt a0≤1000000000)(hb:wt a1≤1000000000):Ok (Eu a0 a1) λr=>wt r≤a0.length+a1.length:=by
 unfold Eu;refine .g ?_ (.g ?_ (.s ?_))
 all_goals (try simp only[NB]at *)<;>omega
def fM{a0 a1}(ha:wt a0≤1000000000)(hb:wt a1≤1000000000):Ok (Bu a0 a1) λr=>wt r≤a0.Cur.Key.length+160:=by
 unfold Bu;refine .b (BN ?_) λr1 LV=> .b (ze6 ?_ ?_) λr2 jW=> .s ?_
 all_goals (try simp only[NB]at *)<;>omega
def zbm{a0 a1 a2}(ha:wt a0≤1000000000)(hb:wt a1≤1000000000)(hc:wt a2≤1000000000):Ok (Dz a0 a1 a2) λr=>wt r≤a0.length+a1.length+a2.length:=by
 unfold Dz;refine .g ?_ (.g ?_ (.g ?_ (.s ?_)))
 all_goals (try simp only[NB]at *)<;>omega
def zhP{a0 a1}(ha:wt a0≤1000000000):Ok (Bv a0 a1) λr=>wt r≤wt a0:=by
 unfold Bv
 refine .cp ?_ (.jt (λy2=> .j (λy5:Aj=>wt y5≤wt a0) (λy5 d7=> .s ?_)
  λk6 pW=> .c (λh1=>pW _ ?_)
  λh1=>pW _ ?_)
  λk3 CV=> .b (nK ?_) λr4 NV=> .c (λh2=>have i3:=NV h2; .c (λh4=> .c (λh5=> .c (λ_=>CV _)
  λ_=>CV _)
  λ_=>CV _)
  λ_=>CV _)
  λ_=>CV _)
 all_goals (try simp only[NB]at *)<;>omega
def zeq{a0}:Ok (Bp a0) λr=>r.length≤6:=by
 unfold Bp
 refine .c (λh1=> .s ?_)
  λh1=> .b (RG ?_) λr1 LV=> .s ?_
 all_goals (try simp only[NB]at *)<;>omega
def zhX{a0}(ha:wt a0≤1000000000):Ok (Fq a0) λr=>wt r.1≤wt a0∧wt r.2.1≤300:=by
 unfold Fq
 refine .jt (λy1=> .c (λh1=> .cp ?_ (.s ?_))
  λh1=> .b zeq λr5 MV=> .b (DP ?_ ?_) λr6 AW=> .s ?_)
  λk2 BV=> .b (nK ?_) λr3 sW=> .c (λ_=>BV _)
  λ_=>BV _
 all_goals (try simp only[NB]at *)<;>(try simp(disch:=omega) only[DA,RA]at *)<;>omega
def zjD{a0}(ha:wt a0≤1000000000):Ok (Fy a0) λr=>wt r.1≤wt a0∧wt r.2.1≤300:=by
 unfold Fy
 refine .jt (λy1=> .c (λh1=> .cp ?_ (.s ?_))
  λh1=> .b zeq λr5 MV=> .b (DP ?_ ?_) λr6 AW=> .s ?_)
  λk2 BV=> .b (nK ?_) λr3 sW=> .c (λ_=>BV _)
  λ_=>BV _
 all_goals (try simp only[NB]at *)<;>omega
def zq1{a0}(ha:wt a0≤1000000000):Ok (Dx a0) λr=>wt r.1≤wt a0+32:=by
 unfold Dx
 refine .cp ?_ (.jt (λy2=> .c (λh1=> .s ?_)
  λh1=> .b (lS ?_) λr5 MV=> .s ?_)
  λk3 CV=> .b (nK ?_) λr4 NV=> .c (λ_=>CV _)
  λh2=>have i3:=NV (nf h2); .c (λ_=>CV _)
  λh4=> .c (λ_=>CV _)
  λ_=>CV _)
 all_goals (try simp only[NB]at *)<;>omega
def zrf{a0}(ha:wt a0≤1000000000):Ok (Hs a0) λr=>wt r.1≤wt a0+64:=by
 unfold Hs
 refine .cp ?_ (.jt (λy2=> .c (λh1=> .s ?_)
  λh1=> .b (lS ?_) λr5 MV=> .b (zeP ?_) λr6 AW=> .s ?_)
  λk3 CV=> .b (nK ?_) λr4 NV=> .c (λ_=>CV _)
  λh2=>have i3:=NV (nf h2); .c (λ_=>CV _)
  λ_=>CV _)
 all_goals (try simp only[NB]at *)<;>(try simp(disch:=omega) only[DA,RA]at *)<;>omega
def zrq{a0 a1}(ha:a0.length≤1000000000)(hb:a1.length≤1000000000):Ok (Bx a0 a1) λr=>True:=by
 unfold Bx
 refine .c (λh1=> .s trivial)
  λh1=> .jt (λy1=> .s trivial)
  λk2 BV=> .l (λx3:Int×Int=>0≤x3.2∧x3.2≤(a0.length:Int)) (λx3:Int×Int=>((a0.length:Int) - x3.2).toNat) (λx3 aY k4 bW=> .c (λh2=> .bi ?_ ?_ λe5 iX dX=> .bi ?_ ?_ λe6 jY kX=>bW _ ?_ ?_)
  λ_=>BV _) ?_ ?_
 all_goals (try simp only[NB]at *)<;>(try simp(disch:=omega) only[DA,RA]at *)<;>omega
def zeC{a0 a1}(ha:a0.length≤1000000000)(hb:a1.length≤1000000000):Ok (Bn a0 a1) λr=>True:=by
 unfold Bn
 refine .jt (λy1=> .s trivial)
  λk2 BV=> .c (λh1=> .b (zrq ?_ ?_) λr3 _=>BV _)
  λ_=>BV _
 all_goals (try simp only[NB]at *)<;>omega
def zqb{a0 a1 a2}(ha:wt a0≤1000000000)(hb:wt a2≤1000000000):Ok (Hr a0 a1 a2) λr=>r.1.length≤200:=by
 unfold Hr
 refine .b (BN ?_) λr1 LV=> .jt (λy2=> .c (λh1=> .s ?_)
  λh1=> .b (zaU ?_) λr6 AW=> .b (zfg ?_ ?_) λr7 IW=> .s ?_)
  λk3 CV=> .c (λ_=>CV _)
  λh2=> .c (λ_=>CV _)
  λh3=> .b RU λr4 NV=> .b (zeC ?_ ?_) λr5 _=>CV _
 all_goals (try simp only[NB]at *)<;>omega
def zeL{a0 a1 a2}(ha:wt a0≤1000000000)(hb:wt a2≤1000000000):Ok (Dj a0 a1 a2) λr=>wt r.1≤wt a0∧r.2.1.length≤200:=by
 unfold Dj
 refine .cp ?_ (.jt (λy2=> .c (λh1=> .s ?_)
  λh1=> .b zio λr5 ⟨MV,hr5i⟩=> .c (λh2=> .s ?_)
  λh2=>have i3:=hr5i (nf h2); .b (zqb ?_ ?_) λr6 AW=> .c (λh4=> .s ?_)
  λh4=> .b (zqa ?_) λr7 IW=> .s ?_)
  λk3 CV=> .c (λ_=>CV _)
  λh5=>have f6:=lT (nf h5); .b (BN ?_) λr4 NV=> .c (λ_=>CV _)
  λ_=>CV _)
 all_goals (try simp only[NB]at *)<;>omega
def zhO{a0 a1 a2}(ha:wt a0≤1000000000)(hb:wt a2≤1000000000):Ok (Ez a0 a1 a2) λr=>wt r.1≤wt a0+64∧r.2.1.length≤200:=by
 unfold Ez
 refine .cp ?_ (.jt (λy2=> .c (λh1=> .s ?_)
  λh1=> .b (rV ?_) λr5 MV=> .c (λh2=> .s ?_)
  λh2=> .c (λh3=> .b (zeL ?_ ?_) λr6 AW=> .c (λh4=> .s ?_)
  λh4=> .jt (λy7=> .j (λy9:Aj=>wt y9≤wt a0+64) (λy9 S1=> .s ?_)
  λk10 IV=> .c (λh5=>IV _ ?_)
  λh5=>IV _ ?_)
  λk8 eW=> .c (λ_=>eW _)
  λ_=>eW _)
  λh3=> .jt (λy11=> .c (λh7=> .jt (λy13=> .c (λh8=> .s ?_)
  λh8=> .b (zeL ?_ ?_) λr15 iY=> .c (λh9=> .s ?_)
  λh9=> .s ?_)
  λk14 GV=> .c (λ_=>GV _)
  λ_=>GV _)
  λh7=> .jt (λy16=> .c (λrW=> .b (zeP ?_) λr18 xY=> .b (zeL ?_ ?_) λr19 HZ=> .c (λFW=> .s ?_)
  λFW=> .s ?_)
  λrW=> .s ?_)
  λk17 OW=> .c (λ_=>OW _)
  λ_=>OW _)
  λk12 kW=> .c (λ_=>kW _)
  λ_=>kW _)
  λk3 CV=> .b (nK ?_) λr4 NV=> .c (λ_=>CV _)
  λlY=>have i16:=NV (nf lY); .c (λ_=>CV _)
  λIY=> .c (λ_=>CV _)
  λ_=>CV _)
 all_goals (try simp only[NB]at *)<;>(try simp(disch:=omega) only[DA,RA]at *)<;>omega
def zii{a0 a1}(ha:wt a0≤1000000000):Ok (Fz a0 a1) λr=>r.1.length≤wt a0:=by
 unfold Fz
 refine .b (nK ?_) λr1 LV=> .c (λh1=> .s ?_)
  λh1=>have i2:=LV (nf h1); .jt (λy2=> .c (λh3=> .g ?_ (.s ?_))
  λh3=> .c (λh4=> .g ?_ (.s ?_))
  λh4=> .jt (λy4=> .c (λh5=> .g ?_ (.s ?_))
  λh5=> .s ?_)
  λk5 BW=> .c (λ_=>BW _)
  λ_=>BW _)
  λk3 CV=> .c (λ_=>CV _)
  λ_=>CV _
 all_goals (try simp only[NB]at *)<;>(try simp(disch:=omega) only[DA,RA]at *)<;>omega
def zon{a0 a1 a2}(ha:wt a0≤1000000000)(hb:wt a2≤1000000000):Ok (Ht a0 a1 a2) λr=>wt r.1≤wt a0+64:=by
 unfold Ht
 refine .cp ?_ (.jt (λy2=> .c (λh1=> .s ?_)
  λh1=> .c (λh2=> .b (zrf ?_) λr7 IW=> .c (λh3=> .s ?_)
  λh3=> .s ?_)
  λh2=> .c (λh4=> .s ?_)
  λh4=> .s ?_)
  λk3 CV=> .b (nK ?_) λr4 NV=> .c (λ_=>CV _)
  λh5=>have i6:=NV (nf h5); .c (λ_=>CV _)
  λh7=> .c (λ_=>CV _)
  λh8=> .b zeq λr5 MV=> .b (rV ?_) λr6 AW=>CV _)
 all_goals (try simp only[NB]at *)<;>(try simp(disch:=omega) only[DA,RA]at *)<;>omega
def zpR{a0}(ha:wt a0≤1000000000):Ok (Ie a0) λr=>wt r≤400:=by
 unfold Ie
 refine .b (nK ?_) λr1 LV=> .c (λh1=> .s ?_)
  λh1=>have i2:=LV (nf h1); .j (λy2:(List (List UInt8))=>wt y2≤200) (λy2 lW=> .g ?_ (.g ?_ (.j (λy4:(List (List UInt8))=>wt y4≤400) (λy4 TZ=> .s ?_)
  λk5 BW=> .c (λh3=> .g ?_ (.g ?_ (BW _ ?_)))
  λh3=>BW _ ?_)))
  λk3 CV=> .c (λh4=> .g ?_ (.g ?_ (CV _ ?_)))
  λh4=>CV _ ?_
 all_goals (try simp only[NB]at *)<;>omega
def zhV{a0 a1}(ha:wt a0≤1000000000):Ok (Cf a0 a1) λr=>wt r≤wt a0+1600:=by
 unfold Cf;refine have hw:=QB a0.Cands;
 .j (λy1:Bool=>y1=false→wt a0≤39∧a0.Cands.length≤3) (λy1 XV=> .c (λh1=> .cp ?_ (.s ?_))
  λh1=>have i2:=XV h1; .j (λy4:Ai=>wt y4≤1600) (λy4 TZ=> .s ?_)
  λk5 BW=> .l (λx6:Int×Ai=>0≤x6.1∧x6.1≤(a0.Cands.length:Int)∧wt x6.2≤40 *x6.1) (λx6:Int×Ai=>((a0.Cands.length:Int) - x6.1).toNat) (λx6 hx6 k7 CW=> .c (λh3=> .bi ?_ ?_ λe8 N3 N2=> .j (λy9:Ai=>wt y9≤40 *x6.1+40) (λy9 S1=>CW _ ?_ ?_)
  λk10 IV=> .c (λh4=> .bi ?_ ?_ λe11 he11 o7=> .m (nA ?_) (.g ?_ (IV _ ?_)))
  λh4=>IV _ ?_)
  λh3=>BW _ ?_) ?_ ?_)
  λk2 BV=> .c (λ_=>BV _ nofun)
  λh5=>have f6:=oI (nf h5);BV _ λq7=>?_
 all_goals (try simp only[NB]at *)<;>(try simp(disch:=omega) only[DA,RA]at *)<;>omega
def zqi{a0 a1 a2 a3}(ha:wt a0≤1000000000)(hb:wt a3≤1000000000):Ok (Gb a0 a1 a2 a3) λr=>wt r.1≤wt a0+1700:=by
 unfold Gb
 refine .j (λy1:Bool=>y1=false→a3.length=12) (λy1 XV=> .c (λh1=> .cp ?_ (.s ?_))
  λh1=>have i2:=XV h1; .b (zhV ?_) λr5 MV=>have hw:=QB r5.Cands; .jt (λy6=> .c (λh3=> .cp ?_ (.s ?_))
  λh3=> .g ?_ (.g ?_ (.s ?_)))
  λk7 CW=> .l (λx8:Int×Ai=>0≤x8.1∧x8.1≤(r5.Cands.length:Int)) (λx8:Int×Ai=>((r5.Cands.length:Int) - x8.1).toNat) (λx8 s7 k9 wX=> .c (λh4=> .h ?_ (.bg ?_ λe10 XY bY=> .c (λh5=> .cp ?_ (.s ?_))
  λh5=>wX _ ?_ ?_))
  λ_=>CW _) ?_ ?_)
  λk2 BV=> .c (λ_=>BV _ nofun)
  λh6=>have f7:=oI (nf h6); .c (λ_=>BV _ nofun)
  λh8=> .c (λ_=>BV _ nofun)
  λh9=>have f10:=EF (nf h9); .c (λ_=>BV _ nofun)
  λrW=>BV _ λq12=>?_
 all_goals (try simp only[NB]at *)<;>(try simp(disch:=omega) only[DA,RA]at *)<;>omega
def zp9{a0 a1 a2 a3}(ha:wt a0≤1000000000)(hb:wt a3≤1000000000):Ok (Ga a0 a1 a2 a3) λr=>wt r.1≤wt a0+1600:=by
 unfold Ga;refine have hw:=QB a0.Cands;
 .b (ztq ?_) λr1 ⟨LV,Z4⟩=> .j (λy2:Bool=>y2=false→wt a0≤39∧a0.Cands.length≤3) (λy2 lW=> .c (λh1=> .cp ?_ (.s ?_))
  λh1=>have i2:=lW h1; .j (λy6:Ai=>wt y6≤1600) (λy6 rZ=> .s ?_)
  λk7 CW=> .l (λx8:Int×Ai=>0≤x8.1∧x8.1≤(a0.Cands.length:Int)∧wt x8.2≤40 *x8.1) (λx8:Int×Ai=>((a0.Cands.length:Int) - x8.1).toNat) (λx8 s7 k9 wX=> .c (λh3=> .bi ?_ ?_ λe10 XY bY=> .j (λy12:Ai=>wt y12≤40 *x8.1+40) (λy12 wY=>wX _ ?_ ?_)
  λk13 TV=> .c (λh4=> .bi ?_ ?_ λe14 P0 sZ=> .m (nA ?_) (.g ?_ (TV _ ?_)))
  λh4=>TV _ ?_)
  λh3=>CW _ ?_) ?_ ?_)
  λk3 CV=> .c (λ_=>CV _ nofun)
  λh5=>have i6:=Z4 (nf h5); .c (λ_=>CV _ nofun)
  λh7=> .b (rV ?_) λr4 NV=> .c (λ_=>CV _ nofun)
  λh8=>CV _ λq9=>?_
 all_goals (try simp only[NB]at *)<;>(try simp(disch:=omega) only[DA,RA]at *)<;>omega
def zq0{a0 a1 a2}(ha:wt a0≤1000000000):Ok (Hh a0 a1 a2) λr=>wt r≤wt a0+1:=by
 unfold Hh;refine have hc:=qT a0 a1;
 have hw:=QB a0;
 .g ?_ (.jt (λy1=> .c (λh1=> .s ?_)
  λh1=> .c (λh2=> .c (λh3=> .s ?_)
  λh3=> .g ?_ (.s ?_))
  λh2=> .h ?_ (.bg ?_ λe3 d5 O2=> .h ?_ (.bg ?_ λe4 YY zY=> .h (have:=AD ([]++a0) ((VA a0 a1).toNat) (⟨e4.A,fA .i64 e3.Got a2,e4.Sent⟩:Ak);?_) (.bg ?_ λe6 jY kX=> .j (λy7:(List Ak)=>wt y7≤wt a0+1) (λy7 MY=> .s ?_)
  λk8 eW=> .c (λh4=> .h (have:=AD ([]++a0) ((VA a0 a1).toNat) (⟨e4.A,fA .i64 e3.Got a2,e4.Sent⟩:Ak);?_) (.bg ?_ λe9 qZ gY=>eW _ (have:=AD (List.set ([]++a0) ((VA a0 a1).toNat) (⟨e4.A,fA .i64 e3.Got a2,e4.Sent⟩:Ak):List Ak) ((VA a0 a1).toNat) (⟨e9.A,1000000,e9.Sent⟩:Ak);have:=AD ([]++a0) ((VA a0 a1).toNat) (⟨e4.A,fA .i64 e3.Got a2,e4.Sent⟩:Ak);?_)))
  λh4=>eW _ (have:=AD ([]++a0) ((VA a0 a1).toNat) (⟨e4.A,fA .i64 e3.Got a2,e4.Sent⟩:Ak);?_)))))
  λk2 BV=> .c (λ_=>BV _)
  λh5=>have f6:=cJ (nf h5); .c (λ_=>BV _)
  λ_=>BV _)
 all_goals (try simp only[NB]at *)<;>(try simp(disch:=omega) only[DA,RA]at *)<;>omega
def zh2{a0 a1}:Ok (Bc a0 a1) λr=>True:=by
 unfold Bc;refine have hc:=qT a0 a1;
 have hw:=QB a0;
 .j (λy1:Bool=>y1=false→0≤VA a0 a1) (λy1 XV=> .c (λh1=> .s trivial)
  λh1=>have i2:=XV h1; .bi ?_ ?_ λe3 d5 O2=> .bi ?_ ?_ λe4 YY zY=> .s trivial)
  λk2 BV=> .c (λ_=>BV _ nofun)
  λh3=>have f4:=cJ (nf h3);BV _ λq5=>?_
 all_goals (try simp only[NB]at *)<;>(try simp(disch:=omega) only[DA,RA]at *)<;>omega
def zqG{a0 a1 a2}(ha:wt a0≤1000000000):Ok (Fb a0 a1 a2) λr=>wt r.1≤wt a0:=by
 unfold Fb;refine have hc:=qT a0 a1;
 have hw:=QB a0;
 .g ?_ (.j (λy1:Bool=>y1=false→0≤VA a0 a1) (λy1 XV=> .c (λh1=> .s ?_)
  λh1=>have i2:=XV h1; .h ?_ (.bg ?_ λe4 YY zY=> .h ?_ (.bg ?_ λe5 iX dX=> .s (have:=AD ([]++a0) ((VA a0 a1).toNat) (⟨e5.A,e5.Got,fA .i64 e4.Sent a2⟩:Ak);?_))))
  λk2 BV=> .c (λ_=>BV _ nofun)
  λh3=> .c (λ_=>BV _ nofun)
  λh4=>have f5:=cJ (nf h4); .b zh2 λr3 _=>BV _ λq6=>?_)
 all_goals (try simp only[NB]at *)<;>(try simp(disch:=omega) only[DA,RA]at *)<;>omega
def ziQ{a0 a1}(ha:wt a0≤1000000000):Ok (Dy a0 a1) λr=>True:=by
 unfold Dy;refine have hw:=QB a0.L;
 .jt (λy1=> .s trivial)
  λk2 BV=> .l (λx3:Int=>0≤x3∧x3≤(a0.L.length:Int)) (λx3:Int=>((a0.L.length:Int) - x3).toNat) (λx3 aY k4 bW=> .c (λh1=> .jt (λy5=> .c (λh2=> .s trivial)
  λh2=>bW _ ?_ ?_)
  λk6 pW=> .bi ?_ ?_ λe7 UZ yY=> .c (λh3=> .bi ?_ ?_ λe8 N3 N2=>pW _)
  λ_=>pW _)
  λ_=>BV _) ?_ ?_
 all_goals (try simp only[NB]at *)<;>(try simp(disch:=omega) only[DA,RA]at *)<;>omega
def zil{a0 a1 a2}(ha:wt a0≤1000000000):Ok (Ft a0 a1 a2) λr=>True:=by
 unfold Ft
 refine .jt (λy1=> .s trivial)
  λk2 BV=> .b (ziQ ?_) λr3 _=> .c (λ_=>BV _)
  λh1=> .b zh2 λr4 _=>BV _
 all_goals (try simp only[NB]at *)<;>omega
def zpm{a0 a1}(ha:wt a0≤1000000000):Ok (Hi a0 a1) λr=>r.length≤a0.length+12:=by
 unfold Hi
 refine .c (λh1=> .g ?_ (.s ?_))
  λh1=>have f2:=EF (nf h1); .b (RG ?_) λr1 LV=> .b (RG ?_) λr2 jW=> .s ?_
 all_goals (try simp only[NB]at *)<;>omega
def zeu{a0 a1 a2 a3 a4}(ha:wt a2≤1000000000)(hb:wt a3≤1000000000):Ok (Ew a0 a1 a2 a3 a4) λr=>r.length≤60:=by
 unfold Ew
 refine .j (λy1:Bool=>y1=false→a2.length=12∧a3.length=12) (λy1 XV=> .c (λh1=> .s ?_)
  λh1=>have i2:=XV h1; .b (zpm ?_) λr3 sW=> .g ?_ (.g ?_ (.g ?_ (.b (RG ?_) λr5 MV=> .s ?_))))
  λk2 BV=> .c (λ_=>BV _ nofun)
  λh3=>have f4:=EF (nf h3); .c (λ_=>BV _ nofun)
  λh5=> .c (λ_=>BV _ nofun)
  λh6=> .c (λ_=>BV _ nofun)
  λh7=>BV _ λq8=>?_
 all_goals (try simp only[NB]at *)<;>omega
def zjc{a0 a1 a2 a3 a4 a5}(ha:wt a3≤1000000000)(hb:wt a4≤1000000000):Ok (Fu a0 a1 a2 a3 a4 a5) λr=>r.length≤16:=by
 unfold Fu
 refine .b (zeu ?_ ?_) λr1 LV=> .jt (λy2=> .c (λh1=> .s ?_)
  λh1=> .b RU λr4 NV=> .s ?_)
  λk3 CV=> .c (λ_=>CV _)
  λ_=>CV _
 all_goals (try simp only[NB]at *)<;>omega
def zqN{a0 a1}:Ok (De a0 a1) λr=>True:=by
 unfold De
 refine .jt (λy1=> .s trivial)
  λk2 BV=> .c (λh1=> .c (λ_=>BV _)
  λ_=>BV _)
  λ_=>BV _
def zqh{a0 a1 a2 a3}(ha:wt a3≤1000000000):Ok (Hj a0 a1 a2 a3) λr=>r=0→a3.Kind=3∧1≤a3.Id∧a3.Id≤9:=by
 unfold Hj
 refine .j (λy1:Bool=>y1=false→a3.Kind=3∧1≤a3.Id∧a3.Id≤9) (λy1 XV=> .c (λh1=> .s ?_)
  λh1=>have i2:=XV h1; .b zqN λr3 _=> .c (λh3=> .s ?_)
  λh3=> .b (zjc ?_ ?_) λr4 NV=> .b (zeC ?_ ?_) λr5 _=> .c (λh4=> .s ?_)
  λh4=> .s ?_)
  λk2 BV=> .c (λ_=>BV _ nofun)
  λh5=>have f6:=zc3 (nf h5); .c (λ_=>BV _ nofun)
  λh7=> .c (λ_=>BV _ nofun)
  λh8=>have f9:=EF (nf h8); .c (λ_=>BV _ nofun)
  λgW=>have f11:=LC (nf gW);BV _ λq12=>?_
 all_goals (try simp only[NB]at *)<;>omega
def zh7{a0 a1}:Ok (Cg a0 a1) λr=>r.length≤32:=by
 unfold Cg;refine have hm:=FL a0 a1;
 .s ?_
 all_goals (try simp only[NB]at *)<;>omega
def zen{a0}:Ok (Bj a0) λr=>r.length≤32:=by
 unfold Bj
 refine .c (λh1=> .s ?_)
  λh1=>have f2:=HL (nf h1); .b zh7 λr2 jW=> .b (lS ?_) λr3 sW=> .s ?_
 all_goals (try simp only[NB]at *)<;>omega
def zel{a0 a1 a2 a3 a4}(ha:wt a1≤1000000000)(hb:wt a2≤1000000000)(hc:wt a4≤1000000000):Ok (Ey a0 a1 a2 a3 a4) λr=>r.length≤60:=by
 unfold Ey
 refine .j (λy1:Bool=>y1=false→a1.length=12∧a2.length=12∧a4.length=16) (λy1 XV=> .c (λh1=> .s ?_)
  λh1=>have i2:=XV h1; .g ?_ (.g ?_ (.b (RG ?_) λr4 NV=> .g ?_ (.s ?_))))
  λk2 BV=> .c (λ_=>BV _ nofun)
  λh3=> .c (λ_=>BV _ nofun)
  λh4=> .c (λ_=>BV _ nofun)
  λh5=> .c (λ_=>BV _ nofun)
  λh6=>BV _ λq7=>?_
 all_goals (try simp only[NB]at *)<;>omega
def ziC{a0 a1 a2 a3 a4 a5}(ha:wt a2≤1000000000)(hb:wt a3≤1000000000)(hc:wt a5≤1000000000):Ok (Fv a0 a1 a2 a3 a4 a5) λr=>r.length≤16:=by
 unfold Fv
 refine .b zen λr1 LV=> .b (zel ?_ ?_ ?_) λr2 jW=> .jt (λy3=> .c (λh1=> .s ?_)
  λh1=> .b RU λr5 MV=> .s ?_)
  λk4 bW=> .c (λ_=>bW _)
  λ_=>bW _
 all_goals (try simp only[NB]at *)<;>omega
def zpB{a0 a1}(ha:wt a1≤1000000000):Ok (Hk a0 a1) λr=>True:=by
 unfold Hk
 refine .jt (λy1=> .s trivial)
  λk2 BV=> .c (λh1=>have f2:=LC h1; .c (λh3=> .b (ziC ?_ ?_ ?_) λr3 sW=> .b (zeC ?_ ?_) λr4 _=>BV _)
  λ_=>BV _)
  λ_=>BV _
 all_goals (try simp only[NB]at *)<;>omega
def zpu{a0 a1 a2}(ha:wt a1≤1000000000)(hb:wt a2≤1000000000):Ok (Hl a0 a1 a2) λr=>r.length≤32:=by
 unfold Hl
 refine .j (λy1:Bool=>y1=false→a1.length=12∧a2.length=12) (λy1 XV=> .c (λh1=> .s ?_)
  λh1=>have i2:=XV h1; .g ?_ (.g ?_ (.b zh7 λr3 sW=> .s ?_)))
  λk2 BV=> .c (λ_=>BV _ nofun)
  λh3=>have f4:=HL (nf h3); .c (λ_=>BV _ nofun)
  λh5=>BV _ λq6=>?_
 all_goals (try simp only[NB]at *)<;>omega
def zoL{a0}:Ok (Df a0) λr=>r.length≤32:=by
 unfold Df
 refine .c (λh1=> .s ?_)
  λh1=> .b (lS ?_) λr1 LV=> .s ?_
 all_goals (try simp only[NB]at *)<;>omega
def zqu{a0 a1}(ha:wt a0≤1000000000):Ok (Hm a0 a1) λr=>r.length≤a0.length+32:=by
 unfold Hm
 refine .c (λh1=> .s ?_)
  λh1=> .g ?_ (.j (λy1:(List UInt8)=>y1.length≤a0.length+32) (λy1 XV=> .s ?_)
  λk2 BV=> .l (λx3:(List UInt8)×Int=>0≤x3.2∧x3.2≤64∧x3.1.length≤a0.length+32) (λx3:(List UInt8)×Int=>(64 - x3.2).toNat) (λx3 aY k4 bW=> .c (λh2=> .b (lS ?_) λr5 MV=>bW _ ?_ ?_)
  λh2=>BV _ ?_) ?_ ?_)
 all_goals (try simp only[NB]at *)<;>(try simp(disch:=omega) only[DA,RA]at *)<;>omega
def zhT{a0 a1 a2 a3}(ha:wt a1≤1000000000)(hb:wt a2≤1000000000):Ok (Fw a0 a1 a2 a3) λr=>r.length≤64:=by
 unfold Fw
 refine .b (zpu ?_ ?_) λr1 LV=> .b zoL λr2 jW=> .c (λh1=> .s ?_)
  λh1=> .b (zqu ?_) λr3 sW=> .s ?_
 all_goals (try simp only[NB]at *)<;>omega
def zo0{a0 a1 a2}(ha:wt a2≤1000000000):Ok (Hx a0 a1 a2) λr=>wt r.1≤200:=by
 unfold Hx
 refine .j (λy1:Bool=>y1=false→wt a2≤112) (λy1 XV=> .c (λh1=> .s ?_)
  λh1=>have i2:=XV h1; .b (ziC ?_ ?_ ?_) λr3 sW=> .c (λh3=> .s ?_)
  λh3=> .cp ?_ (.s ?_))
  λk2 BV=> .c (λ_=>BV _ nofun)
  λh4=>have f5:=LC (nf h4);BV _ λq6=>?_
 all_goals (try simp only[NB]at *)<;>omega
end Go.D
namespace Go.D
def zaJ{a0}:Ok (Bi a0) λr=>True:=by
 unfold Bi
 refine .c (λh1=> .s trivial)
  λh1=> .s trivial
def zn6{a0 a1}:Ok (Dv a0 a1) λr=>True:=by
 unfold Dv
 refine .jt (λy1=> .s trivial)
  λk2 BV=> .c (λh1=> .c (λh2=> .c (λ_=>BV _)
  λ_=>BV _)
  λ_=>BV _)
  λ_=>BV _
def zhL{a0 a1}:Ok (Fp a0 a1) λr=>True:=by
 unfold Fp
 refine .b zn6 λr1 _=> .c (λh1=> .s trivial)
  λh1=> .c (λh2=> .s trivial)
  λh2=> .jt (λy2=> .s trivial)
  λk3 CV=> .c (λ_=>CV _)
  λ_=>CV _
def zie{a0}(ha:wt a0≤1000000000):Ok (Fm a0) λr=>wt r≤a0.Cn.length:=by
 unfold Fm;refine .g ?_ (.s ?_)
 all_goals (try simp only[NB]at *)<;>omega
def zaP{a0}(ha:wt a0≤1000000000)(hb:1≤a0.Id∧a0.Id≤9∧1≤a0.Psk.length∧a0.Psk.length≤32∧0≤a0.At.Host∧a0.At.Host≤4294967295∧0≤a0.At.Port∧a0.At.Port≤65535):Ok (Dw a0) λr=>wt r≤wt a0∧r.Id=a0.Id:=by
 unfold Dw;refine .b (zqp ?_ ?_ ?_ ?_) λr1 LV=> .s ?_
 all_goals (try simp only[NB]at *)<;>omega
def zq8{a0 a1 a2}(ha:wt a0≤1000000000)(hb:wt a2≤1000000000):Ok (Gw a0 a1 a2) λr=>wt r.1≤wt a0+12∧r.1.Id=a0.Id∧r.2.1.length≤1∧wt r.2.1≤400∧wt r.2.2.1≤2000:=by
 unfold Gw
 refine .cp ?_ (.j (λy2:Bool=>y2=false→CF a0∧a2.length=12) (λy2 lW=> .c (λh1=> .s ?_)
  λh1=>have i2:=lW h1; .c (λh3=> .s ?_)
  λh3=> .g ?_ (.b zaJ λr5 _=> .g ?_ (.b (zie ?_) λr6 AW=> .s ?_)))
  λk3 CV=> .b (UN ?_) λr4 NV=> .c (λ_=>CV _ nofun)
  λh4=>have i5:=NV (nf h4); .c (λ_=>CV _ nofun)
  λh6=>CV _ λq7=>?_)
 all_goals (try simp only[NB]at *)<;>omega
def zoa{a0 a1 a2}(ha:wt a0≤1000000000)(hb:wt a2≤1000000000):Ok (Gy a0 a1 a2) λr=>wt r.1≤wt a0∧r.1.Id=a0.Id∧r.2.1.length≤1∧wt r.2.1≤400∧wt r.2.2.1≤2000:=by
 unfold Gy
 refine .cp ?_ (.j (λy2:Bool=>y2=false→CF a0∧a2.length≤40) (λy2 lW=> .c (λh1=> .s ?_)
  λh1=>have i2:=lW h1; .c (λh3=> .s ?_)
  λh3=> .b (DP ?_ ?_) λr5 MV=> .c (λh4=> .s ?_)
  λh4=> .g ?_ (.g ?_ (.b (fM ?_ ?_) λr6 AW=> .s ?_)))
  λk3 CV=> .b (UN ?_) λr4 NV=> .c (λ_=>CV _ nofun)
  λh5=>have i6:=NV (nf h5); .c (λ_=>CV _ nofun)
  λh7=>CV _ λq8=>?_)
 all_goals (try simp only[NB]at *)<;>omega
def znY{a0 a1}(ha:wt a0≤1000000000):Ok (Hg a0 a1) λr=>wt r.1≤wt a0+32∧r.1.Id=a0.Id∧r.2.1.length≤1∧wt r.2.1≤400∧wt r.2.2.1≤2000:=by
 unfold Hg
 refine .cp ?_ (.j (λy2:Bool=>y2=false→CF a0) (λy2 lW=> .c (λh1=> .s ?_)
  λh1=>have i2:=lW h1; .jt (λy5=> .c (λh3=> .s ?_)
  λh3=> .b (zq1 ?_) λr7 IW=> .b (zhX ?_) λr8 RW=> .jt (λy9=> .c (λh4=> .s ?_)
  λh4=> .b zaJ λr11 _=> .b (fM ?_ ?_) λr12 TX=> .s ?_)
  λk10 IV=> .c (λ_=>IV _)
  λ_=>IV _)
  λk6 pW=> .c (λ_=>pW _)
  λ_=>pW _)
  λk3 CV=> .b (UN ?_) λr4 NV=> .c (λ_=>CV _ nofun)
  λh7=>have i8:=NV (nf h7);CV _ λq9=>?_)
 all_goals (try simp only[NB]at *)<;>omega
def zn8{a0 a1}(ha:wt a0≤1000000000):Ok (Hb a0 a1) λr=>wt r.1≤wt a0∧r.1.Id=a0.Id∧r.2.1.length≤2∧wt r.2.1≤900∧wt r.2.2≤2000:=by
 unfold Hb
 refine .cp ?_ (.j (λy2:Bool=>y2=false→CF a0) (λy2 lW=> .c (λh1=> .s ?_)
  λh1=>have i2:=lW h1; .c (λh3=> .b zhL λr5 _=> .c (λh4=> .b (zaP ?_ ?_) λr6 AW=> .g ?_ (.g ?_ (.s ?_)))
  λh4=> .jt (λy8=> .j (λy10:(List Ab)=>y10.length≤1∧wt y10≤400) (λy10 VX=> .jt (λy13=> .j (λy15:(List Ab)=>y15.length≤2∧wt y15≤900) (λy15 Q0=> .s ?_)
  λk16 qW=> .c (λh5=> .cp ?_ (.g ?_ (qW _ ?_)))
  λh5=>qW _ ?_)
  λk14 GV=> .c (λ_=>GV _)
  λ_=>GV _)
  λk11 cW=> .c (λh7=> .b (zie ?_) λr12 TX=> .g ?_ (cW _ ?_))
  λh7=>cW _ ?_)
  λk9 wX=> .c (λ_=>wX _)
  λ_=>wX _)
  λh3=> .c (λh9=> .b (zaP ?_ ?_) λr18 xY=> .g ?_ (.g ?_ (.s ?_)))
  λh9=> .b (zhP ?_) λr20 M0=> .b zhL λr21 _=> .c (λgW=> .s ?_)
  λgW=> .j (λy22:Ae=>wt y22≤wt a0∧y22.Id=a0.Id) (λy22 t7=> .b (zhX ?_) λr25 O0=> .j (λy26:(List Ab)×(List Ad)×Ae=>y26.1.length≤1∧wt y26.1≤400∧wt y26.2.1≤2000∧wt y26.2.2≤wt a0∧y26.2.2.Id=a0.Id) (λy26 n5=> .s ?_)
  λk27 DW=> .c (λrW=> .g ?_ (.b (fM ?_ ?_) λr28 n7=> .g ?_ (DW _ ?_)))
  λrW=>DW _ ?_)
  λk23 lX=> .c (λFW=> .b zaJ λr24 _=>lX _ ?_)
  λFW=>lX _ ?_)
  λk3 CV=> .b (UN ?_) λr4 NV=> .c (λ_=>CV _ nofun)
  λXW=>have i14:=NV (nf XW); .c (λ_=>CV _ nofun)
  λlY=>CV _ λq16=>?_)
 all_goals (try simp only[NB]at *)<;>(try simp(disch:=omega) only[DA,RA]at *)<;>omega
def zre{a0 a1}(ha:wt a0≤1000000000):Ok (Bw a0 a1) λr=>wt r≤wt a0∧r.Id=a0.Id:=by
 unfold Bw
 refine .cp ?_ (.jt (λy2=> .j (λy5:Ae=>wt y5≤wt a0∧y5.Id=a0.Id) (λy5 d7=> .s ?_)
  λk6 pW=> .c (λh1=>pW _ ?_)
  λh1=>pW _ ?_)
  λk3 CV=> .b (UN ?_) λr4 NV=> .c (λ_=>CV _)
  λ_=>CV _)
 all_goals (try simp only[NB]at *)<;>omega
def zq2{a0}(ha:wt a0≤1000000000):Ok (Ib a0) λr=>wt r.1≤wt a0∧r.1.Id=a0.Id∧wt r.2≤500:=by
 unfold Ib
 refine .b (UN ?_) λr1 LV=> .c (λh1=> .cp ?_ (.s ?_))
  λh1=>have i2:=LV (nf h1); .c (λh3=> .b (zaP ?_ ?_) λr3 sW=> .g ?_ (.s ?_))
  λh3=> .b (zaP ?_ ?_) λr5 MV=> .s ?_
 all_goals (try simp only[NB]at *)<;>omega
def zog{a0 a1 a2}(ha:wt a0≤1000000000)(hb:wt a2≤1000000000):Ok (Hy a0 a1 a2) λr=>wt r.1≤wt a0+2000∧r.1.Id=a0.Id∧r.2.1.length≤1∧wt r.2.1≤400∧wt r.2.2≤8000:=by
 unfold Hy
 refine .cp ?_ (.j (λy2:Bool=>y2=false→CF a0∧wt a2≤112) (λy2 lW=> .c (λh1=> .s ?_)
  λh1=>have i2:=lW h1; .jt (λy5=> .c (λh3=> .b (zo0 ?_) λr8 RW=> .b (zhT ?_ ?_) λr9 tX=> .b (zh6 ?_ ?_) λr10 tW=> .b zaJ λr11 _=> .g ?_ (.g ?_ (.g ?_ (.b zen λr13 IZ=> .b (zel ?_ ?_ ?_) λr14 ZY=> .b (ze6 ?_ ?_) λr15 iY=> .g ?_ (.cp ?_ (.g ?_ (.s ?_)))))))
  λh3=> .jt (λy17=> .c (λh4=> .s ?_)
  λh4=> .b (zhO ?_ ?_) λr19 HZ=> .c (λh5=> .s ?_)
  λh5=> .b (zii ?_) λr20 M0=> .b (BN ?_) λr21 P2=> .b (zbm ?_ ?_ ?_) λr22 IX=> .g ?_ (.j (λy23:(List Ad)×Ae=>wt y23.1≤2000∧wt y23.2≤wt a0+1000∧y23.2.Id=a0.Id) (λy23 S0=> .j (λy26:(List Ad)×Ae=>wt y26.1≤3000∧wt y26.2≤wt a0+1000∧y26.2.Id=a0.Id) (λy26 n5=> .j (λy29:(List Ad)=>wt y29≤4000) (λy29 hy29=> .j (λy32:(List Ab)×(List Ad)×Ae=>y32.1.length≤1∧wt y32.1≤400∧wt y32.2.1≤8000∧wt y32.2.2≤wt a0+2000∧y32.2.2.Id=a0.Id) (λy32 v7=> .s ?_)
  λk33 AY=> .c (λh6=> .b (DP ?_ ?_) λr34 z7=> .j (λy35:(List Ab)×(List Ad)×Ae=>y35.1.length≤1∧wt y35.1≤400∧wt y35.2.1≤8000∧wt y35.2.2≤wt a0+2000∧y35.2.2.Id=a0.Id) (λy35 hy35=>AY _ ?_)
  λk36 aZ=> .c (λh7=> .g ?_ (.b (fM ?_ ?_) λr37 A7=> .g ?_ (.g ?_ (.g ?_ (.g ?_ (aZ _ ?_))))))
  λh7=>aZ _ ?_)
  λh6=>AY _ ?_)
  λk30 T0=> .c (λh8=> .g ?_ (.g ?_ (.g ?_ (T0 _ ?_))))
  λh8=>T0 _ ?_)
  λk27 DW=> .c (λh9=> .g ?_ (.g ?_ (.g ?_ (DW _ ?_))))
  λh9=>DW _ ?_)
  λk24 LW=> .c (λgW=> .g ?_ (.g ?_ (.g ?_ (.g ?_ (LW _ ?_)))))
  λgW=>LW _ ?_))
  λk18 eX=> .c (λ_=>eX _)
  λ_=>eX _)
  λk6 pW=> .c (λFW=> .c (λXW=> .b (rV ?_) λr7 IW=>pW _)
  λ_=>pW _)
  λ_=>pW _)
  λk3 CV=> .b (UN ?_) λr4 NV=> .c (λ_=>CV _ nofun)
  λXX=>have i15:=NV (nf XX); .c (λ_=>CV _ nofun)
  λqY=>CV _ λq17=>have f18:=LC (nf q17);?_)
 all_goals (try simp only[NB]at *)<;>omega
end Go.D
namespace Go.D
def ziV{a0}(ha:wt a0≤1000000000):Ok (Fr a0) λr=>wt r≤wt a0:=by
 unfold Fr
 refine .b (sS ?_) λr1 LV=> .c (λh1=> .cp ?_ (.s ?_))
  λh1=>have i2:=LV (nf h1); .g ?_ (.g ?_ (.s ?_))
 all_goals (try simp only[NB]at *)<;>omega
def zo8{a0}:Ok (Dh a0) λr=>wt r≤0:=by
 unfold Dh;refine .s ?_
 all_goals (try simp only[NB]at *)<;>omega
def zpC{a0 a1 a2 a3}(ha:wt a3≤1000000000):Ok (Ho a0 a1 a2 a3) λr=>wt r≤400:=by
 unfold Ho
 refine .j (λy1:Bool=>y1=false→wt a3≤112) (λy1 XV=> .c (λh1=> .s ?_)
  λh1=>have i2:=XV h1; .g ?_ (.g ?_ (.b (zhT ?_ ?_) λr3 sW=> .b (zh6 ?_ ?_) λr4 NV=> .b zo8 λr5 MV=> .s ?_)))
  λk2 BV=> .c (λ_=>BV _ nofun)
  λh3=>have f4:=HL (nf h3); .c (λ_=>BV _ nofun)
  λh5=> .c (λ_=>BV _ nofun)
  λh6=>have f7:=EF (nf h6); .c (λ_=>BV _ nofun)
  λh8=>have f9:=LC (nf h8);BV _ λq10=>?_
 all_goals (try simp only[NB]at *)<;>omega
def zpy{a0 a1}(ha:wt a0≤1000000000)(hb:wt a1≤1000000000):Ok (Bk a0 a1) λr=>wt r.1≤wt a0+wt a1+1∧(r.2=0→0<r.1.L.length)∧r.1.L.length≤a0.L.length+1:=by
 unfold Bk
 refine .cp ?_ (.jt (λy2=> .c (λh1=> .s ?_)
  λh1=> .b (zcl ?_) λr6 AW=> .c (λh2=> .s ?_)
  λh2=> .jt (λy7=> .c (λh3=> .s ?_)
  λh3=> .cp ?_ (.g ?_ (.s ?_)))
  λk8 eW=> .b (zv0 ?_) λr9 tX=> .c (λ_=>eW _)
  λ_=>eW _)
  λk3 CV=> .b (zkX ?_) λr4 NV=> .c (λ_=>CV _)
  λh5=>have i6:=NV (nf h5); .b (sS ?_) λr5 MV=> .c (λ_=>CV _)
  λ_=>CV _)
 all_goals (try simp only[NB]at *)<;>omega
def zpi{a0}(ha:wt a0≤1000000000):Ok (Hp a0) λr=>wt r.1≤wt a0∧r.2.1.length≤1∧wt r.2.1≤400∧wt r.2.2≤600:=by
 unfold Hp
 refine .cp ?_ (.j (λy2:Bool=>y2=false→wt a0≤235) (λy2 lW=> .c (λh1=> .s ?_)
  λh1=>have i2:=lW h1; .b (zjD ?_) λr5 MV=> .c (λh3=> .s ?_)
  λh3=> .b (fM ?_ ?_) λr6 AW=> .s ?_)
  λk3 CV=> .b (sS ?_) λr4 NV=> .c (λ_=>CV _ nofun)
  λh4=>have i5:=NV (nf h4); .c (λ_=>CV _ nofun)
  λh6=>CV _ λq7=>?_)
 all_goals (try simp only[NB]at *)<;>omega
def zoV{a0 a1}(ha:wt a0≤1000000000)(hb:wt a1≤1000000000):Ok (Gz a0 a1) λr=>wt r.1≤wt a0∧r.2.1.length≤1∧wt r.2.1≤400∧wt r.2.2.1≤2000:=by
 unfold Gz
 refine .cp ?_ (.j (λy2:Bool=>y2=false→wt a0≤235∧a1.length≤40) (λy2 lW=> .c (λh1=> .s ?_)
  λh1=>have i2:=lW h1; .c (λh3=> .s ?_)
  λh3=> .b (DP ?_ ?_) λr5 MV=> .c (λh4=> .s ?_)
  λh4=> .g ?_ (.g ?_ (.b (fM ?_ ?_) λr6 AW=> .s ?_)))
  λk3 CV=> .b (sS ?_) λr4 NV=> .c (λ_=>CV _ nofun)
  λh5=>have i6:=NV (nf h5);CV _ λq7=>?_)
 all_goals (try simp only[NB]at *)<;>omega
def zoZ{a0 a1}(ha:wt a0≤1000000000):Ok (Hc a0 a1) λr=>wt r≤wt a0+1600:=by
 unfold Hc
 refine .cp ?_ (.jt (λy2=> .c (λh1=> .s ?_)
  λh1=> .c (λh2=> .b (ziV ?_) λr5 MV=> .s ?_)
  λh2=> .b (zhP ?_) λr6 AW=> .b (zhV ?_) λr7 IW=> .s ?_)
  λk3 CV=> .b (sS ?_) λr4 NV=> .c (λ_=>CV _)
  λh3=>have i4:=NV (nf h3); .c (λ_=>CV _)
  λ_=>CV _)
 all_goals (try simp only[NB]at *)<;>(try simp(disch:=omega) only[DA,RA]at *)<;>omega
def zo2{a0 a1 a2 a3 a4}(ha:wt a0≤1000000000)(hb:wt a3≤1000000000)(hc:wt a4≤1000000000):Ok (Hu a0 a1 a2 a3 a4) λr=>wt r.1≤wt a0+5000∧r.2.1.length≤2∧wt r.2.1≤1000∧wt r.2.2.1≤10000:=by
 unfold Hu
 refine .cp ?_ (.j (λy2:Bool=>y2=false→wt a0≤235) (λy2 lW=> .c (λh1=> .s ?_)
  λh1=>have i2:=lW h1; .b (zhO ?_ ?_) λr5 MV=> .c (λh3=> .s ?_)
  λh3=> .b (zii ?_) λr6 AW=> .b (BN ?_) λr7 IW=> .b (zbm ?_ ?_ ?_) λr8 RW=> .g ?_ (.j (λy9:(List Aq)×(List Ad)×Ah=>y9.1.length≤1∧wt y9.1≤400∧wt y9.2.1≤4000∧wt y9.2.2≤wt a0+3000) (λy9 S1=> .b (zqi ?_ ?_) λr30 o5=> .b (DP ?_ ?_) λr31 B7=> .jt (λy32=> .c (λh4=> .s ?_)
  λh4=> .g ?_ (.b (fM ?_ ?_) λr34 z7=> .g ?_ (.s ?_)))
  λk33 AY=> .c (λ_=>AY _)
  λ_=>AY _)
  λk10 IV=> .c (λh6=> .g ?_ (.g ?_ (.g ?_ (IV _ ?_))))
  λh6=> .j (λy12:(List Aq)×(List Ad)×Ah=>y12.1.length≤1∧wt y12.1≤400∧wt y12.2.1≤4000∧wt y12.2.2≤wt a0+3000) (λy12 wY=>IV _ ?_)
  λk13 TV=> .c (λh7=> .b (zp9 ?_ ?_) λr14 ZY=> .j (λy15:(List Ad)×Ah=>wt y15.1≤4000∧wt y15.2≤wt a0+3000) (λy15 Q0=>TV _ ?_)
  λk16 qW=> .c (λh8=> .g ?_ (.g ?_ (.g ?_ (qW _ ?_))))
  λh8=>qW _ ?_)
  λh7=> .j (λy18:(List Aq)×(List Ad)×Ah=>y18.1.length≤1∧wt y18.1≤400∧wt y18.2.1≤4000∧wt y18.2.2≤wt a0+3000) (λy18 s5=>TV _ ?_)
  λk19 fX=> .c (λh9=> .b (zon ?_ ?_) λr20 M0=> .j (λy21:(List Aq)×(List Ad)×Ah=>y21.1.length≤1∧wt y21.1≤400∧wt y21.2.1≤4000∧wt y21.2.2≤wt a0+3000) (λy21 hy21=>fX _ ?_)
  λk22 JX=> .c (λgW=> .j (λy23:(List Ad)=>wt y23≤2000) (λy23 S0=> .b (zjD ?_) λr26 BY=> .j (λy27:(List Aq)×(List Ad)×Ah=>y27.1.length≤1∧wt y27.1≤400∧wt y27.2.1≤4000∧wt y27.2.2≤wt a0+3000) (λy27 hy27=>JX _ ?_)
  λk28 KX=> .c (λrW=> .g ?_ (.b (fM ?_ ?_) λr29 t5=> .g ?_ (KX _ ?_)))
  λrW=>KX _ ?_)
  λk24 LW=> .c (λFW=> .g ?_ (.g ?_ (.g ?_ (LW _ ?_))))
  λFW=>LW _ ?_)
  λgW=>JX _ ?_)
  λh9=>fX _ ?_))
  λk3 CV=> .b (sS ?_) λr4 NV=> .c (λ_=>CV _ nofun)
  λXW=>have i14:=NV (nf XW); .c (λ_=>CV _ nofun)
  λlY=>CV _ λq16=>have f17:=EF (nf q16);?_)
 all_goals (try simp only[NB]at *)<;>omega
def zit{a0}(ha:wt a0≤1000000000):Ok (Fs a0) λr=>wt r≤wt a0:=by
 unfold Fs;refine .g ?_ (.s ?_)
 all_goals (try simp only[NB]at *)<;>omega
def zpo{a0 a1}(ha:wt a0≤1000000000):Ok (Hd a0 a1) λr=>wt r≤wt a0+60000:=by
 unfold Hd;refine have hw:=QB a0.L;
 .j (λy1:Bool=>y1=false→wt a0≤2832∧a0.L.length≤12) (λy1 XV=> .c (λh1=> .cp ?_ (.s ?_))
  λh1=>have i2:=XV h1; .j (λy5:Ao=>wt y5≤60000) (λy5 d7=> .s ?_)
  λk6 pW=> .l (λx7:Int×Ao=>0≤x7.1∧x7.1≤(a0.L.length:Int)∧wt x7.2≤4500 *x7.1) (λx7:Int×Ao=>((a0.L.length:Int) - x7.1).toNat) (λx7 hx7 k8 eW=> .c (λh3=> .bi ?_ ?_ λe9 qZ gY=> .b (zoZ ?_) λr10 tW=> .jt (λy11=> .j (λy13:Ao=>wt y13≤4500 *x7.1+4500) (λy13 CY=>eW _ ?_ ?_)
  λk14 GV=> .c (λh4=> .g ?_ (GV _ ?_))
  λh4=>GV _ ?_)
  λk12 kW=> .c (λ_=>kW _)
  λ_=>kW _)
  λh3=>pW _ ?_) ?_ ?_)
  λk2 BV=> .b (zkX ?_) λr3 sW=> .c (λ_=>BV _ nofun)
  λh6=>have i7:=sW (nf h6);BV _ λq8=>?_
 all_goals (try simp only[NB]at *)<;>(try simp(disch:=omega) only[DA,RA]at *)<;>omega
def zol{a0 a1 a2 a3}(ha:wt a0≤1000000000)(hb:wt a3≤1000000000):Ok (Ha a0 a1 a2 a3) λr=>wt r.1≤wt a0+4000∧r.2.1.length≤1∧wt r.2.1≤400∧wt r.2.2.1≤2000:=by
 unfold Ha;refine have hw:=QB a0.T.L;
 .cp ?_ (.j (λy2:Bool=>y2=false→SF a0) (λy2 lW=> .c (λh1=> .s ?_)
  λh1=>have i2:=lW h1; .c (λh3=> .s ?_)
  λh3=> .bi ?_ ?_ λe6 jY kX=> .b (zoV ?_ ?_) λr7 IW=> .j (λy8:Ac=>wt y8≤wt a0+4000) (λy8 hy8=> .s ?_)
  λk9 wX=> .c (λh4=> .h ?_ (.bg ?_ λe10 XY bY=>wX _ (have:=AD a0.T.L a2.toNat r7.1;?_)))
  λh4=>wX _ ?_)
  λk3 CV=> .b (DU ?_) λr4 NV=> .c (λ_=>CV _ nofun)
  λh5=>have i6:=NV (nf h5);CV _ λq7=>?_)
 all_goals (try simp only[NB]at *)<;>(try simp(disch:=omega) only[DA,RA]at *)<;>omega
def zob{a0 a1}(ha:wt a0≤1000000000):Ok (He a0 a1) λr=>wt r.1≤wt a0+60000∧wt r.2≤50000:=by
 unfold He;refine have hw:=QB a0.T.L;
 .cp ?_ (.j (λy2:Bool=>y2=false→SF a0) (λy2 lW=> .c (λh1=> .s ?_)
  λh1=>have i2:=lW h1; .b (zpo ?_) λr5 MV=> .j (λy6:(List Ad)=>wt y6≤50000) (λy6 rZ=> .s ?_)
  λk7 CW=> .l (λx8:(List Ad)×Int=>0≤x8.2∧x8.2≤(a0.T.L.length:Int)∧wt x8.1≤3400 *x8.2) (λx8:(List Ad)×Int=>((a0.T.L.length:Int) - x8.2).toNat) (λx8 s7 k9 wX=> .c (λh3=> .bi ?_ ?_ λe10 XY bY=> .b (zcl ?_) λr11 NW=> .jt (λy12=> .j (λy16:(List Ad)=>wt y16≤3400 *x8.2+3400) (λy16 v5=>wX _ ?_ ?_)
  λk17 OW=> .c (λh4=> .bi ?_ ?_ λe18 he18 C7=> .b (zit ?_) λr19 HZ=> .g ?_ (OW _ ?_))
  λh4=>OW _ ?_)
  λk13 TV=> .bi ?_ ?_ λe14 P0 sZ=> .c (λh5=> .c (λ_=>TV _)
  λh6=> .h ?_ (.bg ?_ λe15 DY EY=>TV _))
  λ_=>TV _)
  λh3=>CW _ ?_) ?_ ?_)
  λk3 CV=> .b (DU ?_) λr4 NV=> .c (λ_=>CV _ nofun)
  λh7=>have i8:=NV (nf h7);CV _ λq9=>?_)
 all_goals (try simp only[NB]at *)<;>(try simp(disch:=omega) only[DA,RA]at *)<;>omega
def zpV{a0 a1}(ha:wt a0≤1000000000)(hb:wt a1≤3000)(hc:a1.length≤3):Ok (Hv a0 a1) λr=>r.1.length≤3∧wt r.1≤9100∧wt r.2≤wt a0:=by
 unfold Hv
 refine .j (λy1:(List Aq)×Ac=>y1.1.length≤3∧wt y1.1≤9100∧wt y1.2≤wt a0) (λy1 XV=> .s ?_)
  λk2 BV=> .l (λx3:(List Aq)×Int×Ac=>0≤x3.2.1∧x3.2.1≤(a1.length:Int)∧(x3.1.length:Int)≤x3.2.1∧wt x3.1≤3001 *x3.2.1∧wt x3.2.2≤wt a0) (λx3:(List Aq)×Int×Ac=>((a1.length:Int) - x3.2.1).toNat) (λx3 aY k4 bW=> .c (λh1=> .j (λy5:(List Aq)×Ac=>(y5.1.length:Int)≤x3.2.1+1∧wt y5.1≤3001 *x3.2.1+3001∧wt y5.2≤wt a0) (λy5 d7=>bW _ ?_ ?_)
  λk6 pW=> .bi ?_ ?_ λe7 UZ yY=> .b (ziQ ?_) λr8 _=> .j (λy9:Ac=>wt y9≤wt a0) (λy9 S1=> .bi ?_ ?_ λe15 DY EY=> .g ?_ (pW _ ?_))
  λk10 IV=> .c (λh2=> .bi ?_ ?_ λe11 he11 o7=> .bi ?_ ?_ λe12 he12 he12w=> .b (zpN ?_) λr13 _=> .b (zqG ?_) λr14 ZY=> .c (λh3=>pW _ ?_)
  λh3=>IV _ ?_)
  λh2=>IV _ ?_)
  λh1=>BV _ ?_) ?_ ?_
 all_goals (try simp only[NB]at *)<;>(try simp(disch:=omega) only[DA,RA]at *)<;>omega
def zri{a0}(ha:wt a0≤1000000000):Ok (Ia a0) λr=>wt r.1≤wt a0+100∧wt r.2≤200:=by
 unfold Ia
 refine .cp ?_ (.j (λy2:Bool=>y2=false→SF a0) (λy2 lW=> .c (λh1=> .s ?_)
  λh1=>have i2:=lW h1; .b (zdd ?_) λr5 MV=>have hj:=zcr r5.2;have ht:=zfx a0.T.Cap;have hn:wt (VE r5.2)=wt r5.2:=(by simp only[VE,KL,GE,FA,List.length_nil];omega); .m (zaT ?_) (.g ?_ (.s ?_)))
  λk3 CV=> .b (DU ?_) λr4 NV=> .c (λ_=>CV _ nofun)
  λh3=>have i4:=NV (nf h3);CV _ λq5=>?_)
 all_goals (try simp only[NB]at *)<;>omega
def znW{a0 a1}(ha:wt a0≤1000000000):Ok (Ic a0 a1) λr=>wt r.1≤wt a0+4000∧wt r.2.1≤4000:=by
 unfold Ic;refine have hw:=QB a0.T.L;
 .cp ?_ (.b (DU ?_) λr2 jW=> .c (λh1=> .s ?_)
  λh1=>have i2:=jW (nf h1); .j (λy3:Bool=>y3=false→0≤a1∧a1<(a0.T.L.length:Int)) (λy3 Y4=> .c (λh3=> .s ?_)
  λh3=>have i4:=Y4 h3; .bi ?_ ?_ λe7 UZ yY=> .b (ziV ?_) λr8 RW=> .h ?_ (.bg ?_ λe9 qZ gY=> .bi ?_ ?_ λe10 XY bY=> .b (zit ?_) λr11 NW=> .s (have:=AD a0.T.L a1.toNat r8;?_)))
  λk4 bW=> .c (λ_=>bW _ nofun)
  λh5=> .bi ?_ ?_ λe6 jY kX=>bW _ λq6=>?_)
 all_goals (try simp only[NB]at *)<;>(try simp(disch:=omega) only[DA,RA]at *)<;>omega
def zoc{a0 a1 a2 a3}(ha:wt a0≤1000000000)(hb:wt a3≤900000000):Ok (Hw a0 a1 a2 a3) λr=>wt r.1≤wt a0+50000∧r.2.1.length≤3∧wt r.2.1≤9100∧wt r.2.2≤20000:=by
 unfold Hw
 refine .cp ?_ (.j (λy2:Bool=>y2=false→SF a0) (λy2 lW=> .c (λh1=> .s ?_)
  λh1=>have i2:=lW h1; .b (zq0 ?_) λr5 MV=> .b (zhS ?_) λr6 AW=> .c (λh3=> .s ?_)
  λh3=> .j (λy7:(List Aq)×(List Ad)×Ac×Ac=>y7.1.length≤3∧wt y7.1≤2000∧wt y7.2.1≤20000∧wt y7.2.2.1≤wt a0+50000) (λy7 MY=> .b (zpV ?_ ?_ ?_) λr65 hr65=> .s ?_)
  λk8 eW=> .c (λh4=> .jt (λy9=> .c (λh5=> .s ?_)
  λh5=> .b (zdd ?_) λr12 TX=>have hn:wt (VE r12.2)=wt r12.2:=(by simp only[VE,KL,GE,FA,List.length_nil];omega); .g ?_ (.b (zjc ?_ ?_) λr13 IZ=> .m (zaT ?_) (.b (zeu ?_ ?_) λr15 iY=> .b (ze6 ?_ ?_) λr16 WX=> .g ?_ (.g ?_ (eW _ ?_)))))
  λk10 IV=> .c (λ_=>IV _)
  λh6=> .b (zil ?_) λr11 _=> .c (λ_=>IV _)
  λ_=>IV _)
  λh4=> .j (λy18:(List Aq)×(List Ad)×Ac×Ac=>y18.1.length≤3∧wt y18.1≤2000∧wt y18.2.1≤20000∧wt y18.2.2.2≤wt a0+50000) (λy18 s5=>eW _ ?_)
  λk19 fX=> .c (λh8=> .j (λy20:Bool=>y20=false→1≤r6.1.Id∧r6.1.Id≤(a0.Psks.length:Int)) (λy20 hy20=> .c (λh9=> .s ?_)
  λh9=>have i10:=hy20 h9; .b (zcl ?_) λr25 O0=> .j (λy26:(List Ad)×Int×Ac×Ac=>wt y26.1≤8000∧wt y26.2.2.2≤wt a0+10000∧0≤y26.2.1∧y26.2.1<(y26.2.2.2.T.L.length:Int)) (λy26 n5=> .h ?_ (.bg ?_ λe38 he38 he38w=> .jt (λy39=> .j (λy42:(List Aq)×(List Ad)×Ac=>y42.1.length≤3∧wt y42.1≤1000∧wt y42.2.1≤15000∧wt y42.2.2≤wt a0+40000) (λy42 Q2=>fX _ ?_)
  λk43 LX=> .c (λrW=> .b (zpi ?_) λr44 z5=> .h ?_ (.bg ?_ λe45 he45 he45w=> .g ?_ (.g ?_ (LX _ (have:=AD y26.2.2.2.T.L y26.2.1.toNat r44.1;?_)))))
  λrW=>LX _ ?_)
  λk40 JZ=> .c (λFW=> .c (λXW=> .b (rV ?_) λr41 R2=>JZ _)
  λ_=>JZ _)
  λ_=>JZ _))
  λk27 DW=> .c (λXX=> .bi ?_ ?_ λe28 he28 D7=> .b (zpC ?_) λr29 t5=> .b (zpy ?_ ?_) λr30 o5=>have hl:=QB r30.1.L; .c (λlY=> .s ?_)
  λlY=> .b (zeu ?_ ?_) λr31 B7=> .b (zbm ?_ ?_ ?_) λr32 hr32=> .g ?_ (.bi ?_ ?_ λe33 he33 he33w=> .b zen λr34 z7=> .b (zel ?_ ?_ ?_) λr35 E7=> .b (zbm ?_ ?_ ?_) λr36 hr36=> .g ?_ (.g ?_ (.g ?_ (.g ?_ (.g ?_ (DW _ ?_)))))))
  λXX=>DW _ ?_)
  λk21 mX=> .b (zqh ?_) λr22 IX=> .c (λ_=>mX _ nofun)
  λqY=> .c (λ_=>mX _ nofun)
  λIY=> .bi ?_ ?_ λe23 he23 F7=> .b (zpB ?_) λr24 _=>mX _ λq18=>?_)
  λh8=> .j (λy46:(List Aq)×(List Ad)×Ac×Ac=>y46.1.length≤3∧wt y46.1≤2000∧wt y46.2.1≤20000∧wt y46.2.2.2≤wt a0+50000) (λy46 hy46=>fX _ ?_)
  λk47 U0=> .c (λwZ=> .b (zcl ?_) λr48 hr48=> .j (λy49:Bool=>y49=false→0≤r48) (λy49 G7=> .c (λxZ=> .s ?_)
  λxZ=>have i21:=G7 xZ; .b (zdd ?_) λr52 hr52=> .b (zil ?_) λr53 _=> .j (λy54:(List UInt8)=>y54.length≤32) (λy54 hy54=>have hn:wt (VE y54)=wt y54:=(by simp only[VE,KL,GE,FA,List.length_nil];omega); .bi ?_ ?_ λe56 he56 H7=> .b (zo2 ?_ ?_ ?_) λr57 hr57=> .h ?_ (.bg ?_ λe58 he58 I7=> .g ?_ (.j (λy59:(List Ad)×Ac=>wt y59.1≤200∧wt y59.2≤wt a0+40000) (λy59 hy59=> .g ?_ (.j (λy62:(List Ad)=>wt y62≤20000) (λy62 hy62=>U0 _ ?_)
  λk63 J7=> .c (λyZ=> .g ?_ (.g ?_ (.g ?_ (J7 _ ?_))))
  λyZ=>J7 _ ?_))
  λk60 K7=> .c (λVZ=> .m (zaT ?_) (.g ?_ (K7 _ (have:=AD a0.T.L r48.toNat r57.1;?_))))
  λVZ=>K7 _ (have:=AD a0.T.L r48.toNat r57.1;?_))))
  λk55 L7=> .c (λWZ=>L7 _ ?_)
  λWZ=>L7 _ ?_)
  λk50 V0=> .c (λ_=>V0 _ nofun)
  λF5=> .bi ?_ ?_ λe51 he51 he51w=>V0 _ λq26=>?_)
  λwZ=>U0 _ ?_)
  λk3 CV=> .b (DU ?_) λr4 NV=> .c (λ_=>CV _ nofun)
  λT3=>have i28:=NV (nf T3); .c (λ_=>CV _ nofun)
  λO8=>CV _ λq30=>have f31:=EF (nf q30);?_)
 all_goals (try simp only[NB]at *)<;>(try simp(disch:=omega) only[DA,RA]at *)<;>omega
end Go.D
namespace Go.D
def zhv{α:Type}[Wt α](l:List α)(i:Nat):Nat:=match l[i]? with
 | some c=>wt c
 | none=>0
def BO{α:Type}[Wt α]{l:List α}{i:Nat}{x:α}(h:l[i]?=some x):zhv l i=wt x:=by unfold zhv;rw[h]
def aV{α:Type}[Wt α]{x y:α}:∀{l:List α} {i:Nat},l[i]?=some y→wt (l.set i x)+wt y=wt l+wt x
 | [],_,h=>by simp at h
 | z :: l,0,h=>by
  rw[List.getElem?_cons_zero]at h;cases h;rw[List.set_cons_zero,TD,TD];omega
 | z :: l,i+1,h=>by
  rw[List.getElem?_cons_succ]at h;have:=aV (x:=x) h;rw[List.set_cons_succ,TD,TD];omega
def sO{e:Am}(h:xG e=true):1≤e.Kind∧e.Kind≤17∧0≤e.I∧0≤e.J∧0≤e.N∧e.B.length≤200∧e.Ops.length≤16:=by
 simp only[xG,Bool.and_eq_true,YA,decide_eq_true_eq]at h;omega
def zwD{b:List UInt8}{f n:Int}(h:b.length≤bA):Ok (LJ b f n) λr=>r.1.length≤b.length:=XF (by rw[FA];exact h) (by
 unfold cut;cases decide (f<0)||(decide (n<0)||(decide (f>(b.length:Int))||decide (n>(b.length:Int) - f)))
 ·rw[cond_false];simp only[List.length_take,List.length_drop];omega
 ·exact Nat.zero_le _)
def zqt(b:List UInt8)(f n:Int)(h:wt b≤bA)(hf:uE .i64 f)(hn:uE .i64 n):Nf b f n=some (cut b f n):=by
 have hl:b.length≤bA:=by rw[←FA];exact h
 have hL:=yB;have hf:=KS hf;have hn:=KS hn;simp only[Nf,aA,cut,List.nil_append]
 by_cases h2:n<0
 ·rw[decide_eq_true h2];cases decide (f<0)<;>rfl
 by_cases h1:f<0
 ·rw[decide_eq_false h2,decide_eq_true h1];rfl
 by_cases h3:n>(b.length:Int)
 ·have h4:(decide (f>(b.length:Int))||decide (n>(b.length:Int) - f))=true:=by simp;omega
  rw[decide_eq_false h2,decide_eq_false h1,decide_eq_true h3,h4];rfl
 have e:oA .i64 (b.length:Int) n=(b.length:Int) - n:=by rw[oA,FB (by omega) (by omega)]
 rw[e]
 by_cases h4:f>(b.length:Int) - n
 ·have h5:(decide (f>(b.length:Int))||decide (n>(b.length:Int) - f))=true:=by simp;omega
  rw[decide_eq_false h2,decide_eq_false h1,decide_eq_false h3,decide_eq_true h4,h5];rfl
 have e2:fA .i64 f n=f+n:=by rw[fA,FB (by omega) (by omega)]
 have e3:(decide (0≤f)&&decide (f≤f+n)&&decide (f+n≤(b.length:Int)))=true:=by simp;omega
 have h5:(decide (f>(b.length:Int))||decide (n>(b.length:Int) - f))=false:=by simp;omega
 rw[decide_eq_false h1,decide_eq_false h2,decide_eq_false h3,decide_eq_false h4,h5];simp only[cond_false,e2];rw[e3,show f+n - f=n by omega];have:((b.drop f.toNat).take n.toNat).length≤bA:=by rw[List.length_take,List.length_drop];omega
 rw[List.length_nil,Nat.zero_add,decide_eq_true this];rfl
def OS.ok{x}(hb:vA [.sl .byte, .v .int, .v .int] x){r}:LJ x.1 x.2.1 x.2.2=some r→Nf x.1 x.2.1 x.2.2=some r:=QA λh=>
 zqt x.1 x.2.1 x.2.2 h (xO hb.2.1 0 (by decide) rfl) (xO hb.2.2 0 (by decide) rfl)
end Go.D

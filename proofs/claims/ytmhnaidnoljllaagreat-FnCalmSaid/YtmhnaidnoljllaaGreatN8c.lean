/-
 The reference's machine comes to an end, and what it gives is small.
-/
import Derived.Test.YtmhnaidnoljllaaGreatN8
set_option linter.all false
namespace Go.D
def zah{a0 a1 a2 a3}(ha:wt a1≤1000000000):Ok (Cc a0 a1 a2 a3) λr=>r.length≤40∧(0<r.length→a1.length=12):=by
 unfold Cc
 refine .j (λy1:Bool=>y1=false→a1.length=12) (λy1 ZV=> .c (λh1=> .s ?_)
  λh1=>have i2:=ZV h1; .g ?_ (.b (yG ?_) λr3 pW=> .b (yG ?_) λr4 SV=> .s ?_))
  λk2 IV=> .c (λ_=>IV _ nofun)
  λh3=> .c (λ_=>IV _ nofun)
  λh4=> .c (λ_=>IV _ nofun)
  λh5=>IV _ λq6=>?_
 all_goals (try simp only[NB]at *)<;>omega
def zoc{a0 a1 a2}(ha:wt a1≤1000000000):Ok (Gm a0 a1 a2) λr=>r.length≤32∧(0≤a2∧a2≤6∧a1.length≤100∧a0.length≤1048576→r.length=32):=by
 try simp only[N]at ha
 have hL:=mB;unfold Gm;refine Ok.join (λy1:Bool=>(y1=true∧¬(0≤a2∧a2≤6∧a1.length≤100))∨(y1=false∧a1.length≤100)) (λy1 ZV=>?_) (λk2 IV=>?_)
 ·rcases ZV with⟨rfl,h⟩ | ⟨rfl,h⟩
  ·exact Ok.some' ⟨Nat.zero_le _,λk=>absurd ⟨k.1,k.2.1,k.2.2.1⟩ h⟩
  ·refine Ok.guard ?_ ?_
   ·simp only[N];omega
   refine Ok.bind (yG ?_) (λr3 pW=>?_)
   ·simp only[N];omega
   simp only[N]at pW;exact Ok.some' ⟨XK _ _,λk=>aI k.2.2.2 (by omega)⟩
 refine Ok.cond' (λh2=>?_) (λh2=>?_)
 ·simp only[B]at h2;exact IV _ (.inl ⟨rfl,λk=>h2 ⟨k.1,k.2.1⟩⟩)
 ·simp only[B]at h2;refine IV _ ?_
  by_cases h:(a1.length:Int)>100
  ·exact .inl ⟨decide_eq_true h,λk=>by omega⟩
  ·exact .inr ⟨decide_eq_false h,by omega⟩
def zht{a0 a1 a2}(ha:wt a1≤1000000000):Ok (Ew a0 a1 a2) λr=>r.length≤200∧(0≤a2∧a2≤200∧a1.length≤100∧a0.length≤1048576→(r.length:Int)=a2):=by
 have hL:=mB;unfold Ew;refine Ok.join (λy1:Bool=>(y1=true∧¬(0≤a2∧a2≤200∧a1.length≤100∧a0.length≤1048576))∨(y1=false∧(0≤a2∧a2≤200∧a1.length≤100∧a0.length≤1048576))) (λy1 ZV=>?_) (λk2 IV=>?_)
 ·rcases ZV with⟨rfl,h⟩ | ⟨rfl,h⟩
  ·exact Ok.some' ⟨Nat.zero_le _,λk=>absurd k h⟩
  ·rw[cond_false];refine Ok.join (λy3:List UInt8=>a2≤(y3.length:Int)∧y3.length≤1000) (λy3 z6=>?_) (λk4 iW=>?_)
   ·refine Ok.chk ?_ ?_
    ·simp only[B];omega
    refine Ok.guard ?_ ?_
    ·simp only[N];omega
    refine Ok.some' ?_;simp only[N];omega
   refine Ok.loop (λx5:(List UInt8)×Int=>0≤x5.2∧x5.2≤7∧(x5.1.length:Int)=32 *x5.2) (λx5=>(7 - x5.2).toNat) (λx5 V4 k6 EW=>?_) ?_ ?_
   ·refine Ok.cond' (λh1=>?_) (λh1=>?_)
    ·simp only[B]at h1;refine Ok.bind (zoc ha) (λr7 FW=>?_);have h7:r7.length=32:=FW.2 (by omega);refine Ok.guard ?_ ?_
     ·simp only[N];omega
     have:=DA (a:=x5.2) (b:=1) (by omega) (by omega);refine EW _ ?_ ?_
     ·simp only[N];omega
     ·simp only[N];omega
    ·simp only[B]at h1;refine iW _ ?_;omega
   ·simp only[N];omega
   ·simp only[N];omega
 refine Ok.cond' (λh2=>?_) (λh2=>?_)
 ·simp only[B]at h2;exact IV _ (.inl ⟨rfl,λk=>h2 ⟨k.1,k.2.1⟩⟩)
 ·simp only[B]at h2;refine Ok.cond' (λh3=>?_) (λh3=>?_)
  ·simp only[B]at h3;exact IV _ (.inl ⟨rfl,λk=>by omega⟩)
  ·simp only[B]at h3;refine IV _ ?_
   by_cases h:(a0.length:Int)>1048576
   ·exact .inl ⟨decide_eq_true h,λk=>by omega⟩
   ·exact .inr ⟨decide_eq_false h,by omega⟩
def zeo{a0 a1 a2}(ha:wt a1≤1000000000)(hb:wt a2≤1000000000):Ok (Dy a0 a1 a2) λr=>r.length≤200:=by
 unfold Dy
 refine .j (λy1:Bool=>y1=false→a2.length≤200∧a1.length≤100∧a0.length≤1048576) (λy1 ZV=> .c (λh1=> .s ?_)
  λh1=>have i2:=ZV h1; .b (zht ?_) λr3 pW=> .j (λy4:(List UInt8)=>y4.length≤200) (λy4 mZ=> .s ?_)
  λk5 sW=> .l (λx6:(List UInt8)×Int=>0≤x6.2∧x6.2≤(a2.length:Int)∧(x6.1.length:Int)=x6.2) (λx6:(List UInt8)×Int=>((a2.length:Int) - x6.2).toNat) (λx6 hx6 k7 wW=> .c (λh3=> .bi ?_ ?_ λe8 W2 Q1=> .h ?_ (.bg ?_ λe9 nZ bY=> .g ?_ (wW _ ?_ ?_)))
  λh3=>sW _ ?_) ?_ ?_)
  λk2 IV=> .c (λ_=>IV _ nofun)
  λh4=> .c (λ_=>IV _ nofun)
  λh5=>IV _ λq6=>?_
 all_goals (try simp only[NB]at *)<;>(try simp(disch:=omega) only[DA,SA]at *)<;>omega
def UM{a0 a1}(ha:wt a1≤1000000000):Ok (Bv a0 a1) λr=>r.length≤160:=by
 unfold Bv
 refine .j (λy1:Bool=>y1=false→wt a1≤112) (λy1 ZV=> .c (λh1=> .s ?_)
  λh1=>have i2:=ZV h1; .b (zah ?_) λr3 pW=> .g ?_ (.g ?_ (.g ?_ (.s ?_))))
  λk2 IV=> .c (λ_=>IV _ nofun)
  λh3=> .c (λ_=>IV _ nofun)
  λh4=>have f5:=jD (nf h4);IV _ λq6=>?_
 all_goals (try simp only[NB]at *)<;>omega
def gU{a0 a1}:Ok (Cq a0 a1) λr=>r.length≤16:=by
 unfold Cq;refine have hm:=XK a0 a1;
 .c (λh1=> .s ?_)
  λh1=> .h ?_ (.g ?_ (.s ?_))
 all_goals (try simp only[NB]at *)<;>omega
def zh3{a0 a1 a2 a3 a4 a5 a6}(ha:wt a0≤1000000000)(hb:wt a2≤1000000000)(hc:wt a6≤1000000000):Ok (Ey a0 a1 a2 a3 a4 a5 a6) λr=>(wt r.1≤300)∧(r.2=true→a2.length=12∧a0.length=32):=by
 unfold Ey
 refine .b (zah ?_) λr1 QV=> .j (λy2:Bool=>y2=false→a2.length=12∧a0.length=32) (λy2 rW=> .c (λh1=> .s ⟨?_,nofun⟩)
  λh1=>have i2:=rW h1; .g ?_ (.b (zeo ?_ ?_) λr4 SV=> .j (λy5:Ab=>wt y5≤280) (λy5 A6=> .b (UM ?_) λr9 FX=> .b gU λr10 uW=> .s ⟨?_,λq3=>?_⟩)
  λk6 EW=> .l (λx7:Int×Ab=>0≤x7.1∧x7.1≤16∧x7.2.Tag.length=x7.1∧wt x7.2≤212+x7.1) (λx7:Int×Ab=>(16 - x7.1).toNat) (λx7 hx7 k8 qW=> .c (λh4=> .g ?_ (qW _ ?_ ?_))
  λh4=>EW _ ?_) ?_ ?_))
  λk3 JV=> .c (λ_=>JV _ nofun)
  λh5=> .c (λ_=>JV _ nofun)
  λh6=> .c (λ_=>JV _ nofun)
  λh7=>JV _ λq8=>?_
 all_goals (try simp only[NB]at *)<;>(try simp(disch:=omega) only[DA,SA]at *)<;>omega
def zpf{a0 a1 a2 a3 a4 a5 a6 a7}(ha:wt a0≤1000000000)(hb:wt a3≤1000000000)(hc:wt a7≤1000000000):Ok (Iz a0 a1 a2 a3 a4 a5 a6 a7) λr=>wt r≤1000:=by
 unfold Iz
 refine .b (zh3 ?_ ?_ ?_) λr1 ⟨QV,s4⟩=> .j (λy2:Bool=>y2=false→a3.length=12) (λy2 rW=> .c (λh1=> .s ?_)
  λh1=>have i2:=rW h1; .g ?_ (.b (yG ?_) λr4 SV=> .b (yG ?_) λr5 RV=> .b (UM ?_) λr6 vW=> .g ?_ (.s ?_)))
  λk3 JV=> .c (λ_=>JV _ nofun)
  λh3=>have i4:=s4 (nf h3);JV _ λq5=>?_
 all_goals (try simp only[NB]at *)<;>omega
def zdG{a0}(ha:wt a0≤1000000000):Ok (Bh a0) λr=>r.length≤200:=by
 unfold Bh
 refine .c (λh1=> .s ?_)
  λh1=>have f2:=jD (nf h1); .j (λy1:(List UInt8)=>y1.length≤200) (λy1 ZV=> .s ?_)
  λk2 IV=> .c (λh3=> .g ?_ (.g ?_ (.j (λy4:(List UInt8)=>y4.length≤200) (λy4 mZ=>IV _ ?_)
  λk5 sW=> .l (λx6:(List UInt8)×Int=>0≤x6.2∧x6.2≤20∧x6.1.length≤140+x6.2) (λx6:(List UInt8)×Int=>(20 - x6.2).toNat) (λx6 hx6 k7 wW=> .c (λh4=> .g ?_ (wW _ ?_ ?_))
  λh4=>sW _ ?_) ?_ ?_)))
  λh3=> .j (λy8:(List UInt8)=>y8.length≤200) (λy8 hy8=>IV _ ?_)
  λk9 KX=> .c (λh5=> .g ?_ (.g ?_ (.b (yG ?_) λr11 YW=> .g ?_ (KX _ ?_))))
  λh5=> .j (λy12:(List UInt8)=>y12.length≤200) (λy12 tY=>KX _ ?_)
  λk13 gW=> .c (λh6=> .g ?_ (.g ?_ (.g ?_ (.b (yG ?_) λr15 cY=> .g ?_ (.g ?_ (gW _ ?_))))))
  λh6=> .g ?_ (.b (yG ?_) λr17 A0=> .b (yG ?_) λr18 AZ=> .g ?_ (.g ?_ (gW _ ?_)))
 all_goals (try simp only[NB]at *)<;>(try simp(disch:=omega) only[DA,SA]at *)<;>omega
def zgV{a0 a1 a2}(ha:wt a2≤1000000000):Ok (Fa a0 a1 a2) λr=>wt r≤200:=by
 unfold Fa;refine .b (zdG ?_) λr1 QV=> .s ?_
 all_goals (try simp only[NB]at *)<;>omega
def zdO{a0 a1}(ha:wt a0≤1000000000)(hb:wt a1≤1000000):Ok (Dz a0 a1) λr=>wt r≤201 *a1.length:=by
 unfold Dz;refine have hw:=QB a1;
 .j (λy1:(List Ak)=>wt y1≤201 *a1.length) (λy1 ZV=> .s ?_)
  λk2 IV=> .l (λx3:(List Ak)×Int=>0≤x3.2∧x3.2≤(a1.length:Int)∧wt x3.1≤201 *x3.2) (λx3:(List Ak)×Int=>((a1.length:Int) - x3.2).toNat) (λx3 WX k4 iW=> .c (λh1=> .bi ?_ ?_ λe6 dY kX=> .b (zgV ?_) λr7 FW=> .g ?_ (iW _ ?_ ?_))
  λh1=>IV _ ?_) ?_ ?_
 all_goals (try simp only[NB]at *)<;>(try simp(disch:=omega) only[DA,SA]at *)<;>omega
def zhb{a0}(ha:wt a0≤1000000):Ok (Fb a0) λr=>wt r≤201 *a0.length:=by
 unfold Fb;refine have hw:=QB a0;
 .j (λy1:(List Ak)=>wt y1≤201 *a0.length) (λy1 ZV=> .s ?_)
  λk2 IV=> .l (λx3:(List Ak)×Int=>0≤x3.2∧x3.2≤(a0.length:Int)∧wt x3.1≤201 *x3.2) (λx3:(List Ak)×Int=>((a0.length:Int) - x3.2).toNat) (λx3 WX k4 iW=> .c (λh1=> .bi ?_ ?_ λe6 dY kX=> .bi ?_ ?_ λe7 MZ uY=> .b (zgV ?_) λr8 QW=> .g ?_ (iW _ ?_ ?_))
  λh1=>IV _ ?_) ?_ ?_
 all_goals (try simp only[NB]at *)<;>(try simp(disch:=omega) only[DA,SA]at *)<;>omega
def zot{a0}(ha:wt a0≤1000000000):Ok (Ef a0) λr=>True:=by
 unfold Ef;refine .b (zdG ?_) λr1 QV=> .s trivial
 all_goals (try simp only[NB]at *)<;>omega
def zgX{a0}(ha:wt a0≤900000000):Ok (Eb a0) λr=>wt r.1≤400:=by
 unfold Eb
 refine .c (λh1=> .s ?_)
  λh1=> .bi ?_ ?_ λe1 mY B6=> .j (λy3:Ab×Ab=>wt y3.2≤a0.length+100) (λy3 z6=> .b (zdG ?_) λr28 C6=> .e ?_ (.e ?_ (.c (λh2=> .s ?_)
  λh2=>have:=congrArg List.length (eq_of_beq (nf h2)); .s ?_)))
  λk4 iW=> .c (λh3=> .c (λh4=> .s ?_)
  λh4=> .bi ?_ ?_ λe5 gX ZW=> .h ?_ (.g ?_ (iW _ ?_)))
  λh3=> .j (λy8:Ab×Ab=>wt y8.2≤a0.length+100) (λy8 hy8=>iW _ ?_)
  λk9 KX=> .c (λh5=> .c (λh6=> .s ?_)
  λh6=> .h ?_ (.g ?_ (.h ?_ (.g ?_ (.b (zcs ?_) λr12 QX=> .h ?_ (.g ?_ (KX _ ?_)))))))
  λh5=> .j (λy14:Ab×Ab=>wt y14.2≤a0.length+100) (λy14 hy14=>KX _ ?_)
  λk15 B0=> .c (λh7=> .c (λh8=> .s ?_)
  λh8=> .bi ?_ ?_ λe16 t4 X2=> .h ?_ (.g ?_ (.h ?_ (.g ?_ (.b (zcs ?_) λr20 C0=> .h ?_ (.g ?_ (.h ?_ (.g ?_ (B0 _ ?_)))))))))
  λh7=> .c (λh9=> .s ?_)
  λh9=> .h ?_ (.g ?_ (.b (zcs ?_) λr24 RX=> .b (zcs ?_) λr25 D0=> .h ?_ (.g ?_ (.h ?_ (.g ?_ (B0 _ ?_))))))
 all_goals (try simp only[NB]at *)<;>(try simp(disch:=omega) only[DA,SA]at *)<;>omega
end Go.D
namespace Go.D
def zn6{a0}:Ok (Hi a0) λr=>True:=by
 unfold Hi
 refine .c (λh1=> .s trivial)
  λh1=> .s trivial
def zhw{a0 a1}:Ok (Br a0 a1) λr=>(True)∧(r=true→a0.Bits.length=32∧0≤a1∧a1≤281474976710655∧ -1≤a0.Top∧a0.Top≤281474976710655):=by
 unfold Br
 refine .j (λy1:Bool=>y1=false→a0.Bits.length=32∧0≤a1∧a1≤281474976710655∧ -1≤a0.Top∧a0.Top≤281474976710655) (λy1 ZV=> .c (λh1=> .s ⟨trivial,nofun⟩)
  λh1=>have i2:=ZV h1; .jt (λy3=> .s ⟨trivial,λq3=>?_⟩)
  λk4 iW=> .c (λ_=>iW _)
  λh4=> .b zn6 λr5 _=> .c (λh5=> .b (zu6 ?_) λr6 vW=>iW _)
  λ_=>iW _)
  λk2 IV=> .c (λ_=>IV _ nofun)
  λh6=>have f7:=zfi (nf h6);IV _ λq8=>?_
 all_goals (try simp only[NB]at *)<;>omega
def MS{n:Int}(h0:0≤n):zA .i64 n 1024=n % 1024:=pO h0
def JS{n:Int}(h0:0≤n)(h1:n<1024):sC .i64 n 32=n / 32:=by
 unfold sC;rw[Int.tdiv_eq_ediv_of_nonneg h0,IB (by omega) (by omega)]
def zoL{a0 a1}(ha:wt a0≤1000000000):Ok (Cw a0 a1) λr=>wt r.1≤wt a0∧wt a0≤wt r.1:=by
 have hL:=mB;unfold Cw;simp only[N]at ha;refine Ok.same (oA (p:=wt a0≤bA) ?_) ?_
 ·simp only[N];omega
 refine Ok.bind zhw (λr2 DW=>?_);refine Ok.cond' (λh=>Ok.some' ?_) (λh=>?_)
 ·simp only[N];omega
 ·simp only[B]at h;have hm:=DW.2 h;have e1:=MS hm.2.1;have e2:=JS (n:=a1 % 1024) (by omega) (by omega);have e3:=pO (a:=a1 % 1024) (b:=32) (by omega);rw[e1,e2,e3];refine Ok.join (λy:Ap=>y.Bits.length=32) (λy hy=>?_) (λk hk=>?_)
  ·refine Ok.chk ?_ ?_
   ·simp only[B];omega
   refine Ok.bind (Ok.get ?_) (λe he=>?_)
   ·omega
   refine Ok.chkn ?_ ?_
   ·simp only[B];omega
   refine Ok.chk ?_ ?_
   ·simp only[B];omega
   refine Ok.bind (Ok.get ?_) (λe' eX=>?_)
   ·omega
   refine Ok.join (λz:Ap=>z.Bits.length=32) (λz hz=>?_) (λk' NW=>?_)
   ·refine Ok.some' ?_;simp only[N];omega
   ·refine Ok.cond' (λ_=>NW _ ?_) (λ_=>NW _ ?_)
    ·simp only[N];exact hy
    ·simp only[N];exact hy
  ·refine Ok.loop (λx:Int×Int×Ap=>0≤x.2.1∧x.2.1≤281474976710656∧0≤x.1∧x.1≤1024∧x.2.2.Bits.length=32) (λx=>(1025 - x.1).toNat) (λx hx k' NW=>?_) ?_ ?_
   ·have f1:=MS hx.1;have f2:=JS (n:=x.2.1 % 1024) (by omega) (by omega);have f3:=pO (a:=x.2.1 % 1024) (b:=32) (by omega);rw[f1,f2,f3];refine Ok.join (λy:Bool=>y=true→x.1<1024∧x.2.1≤a1) (λy hy=>?_) (λk2 IV=>?_)
    ·refine Ok.cond' (λh=>?_) (λ_=>hk _ hx.2.2.2.2);have hy:=hy h;refine Ok.chk ?_ ?_
     ·simp only[B];omega
     refine Ok.bind (Ok.get ?_) (λe he=>?_)
     ·omega
     refine Ok.chkn ?_ ?_
     ·simp only[B];omega
     refine Ok.chk ?_ ?_
     ·simp only[B];omega
     refine Ok.bind (Ok.get ?_) (λe' eX=>?_)
     ·omega
     have g1:=DA (a:=x.1) (b:=1) (by omega) (by omega);have g2:=DA (a:=x.2.1) (b:=1) (by omega) (by omega);refine NW _ ?_ ?_
     ·simp only[N];omega
     ·simp only;omega
    ·refine Ok.cond' (λh=>IV _ λq=>?_) (λ_=>IV _ λq=>nomatch q);simp only[B]at h q;omega
   ·have g:=DA (a:=a0.Top) (b:=1) (by omega) (by omega);simp only;omega
   ·simp only;omega
def zoE:Ok (Hf) λr=>wt r≤32∧32≤wt r:=by
 unfold Hf
 refine .j (λy1:Ap=>wt y1≤32∧32≤wt y1) (λy1 ZV=> .s ?_)
  λk2 IV=> .l (λx3:Int×Ap=>0≤x3.1∧x3.1≤32∧x3.2.Bits.length=x3.1) (λx3:Int×Ap=>(32 - x3.1).toNat) (λx3 WX k4 iW=> .c (λh1=> .g ?_ (iW _ ?_ ?_))
  λh1=>IV _ ?_) ?_ ?_
 all_goals (try simp only[NB]at *)<;>(try simp(disch:=omega) only[DA,SA]at *)<;>omega
def zdZ{a0 a1}(ha:wt a1≤1000000000):Ok (Cu a0 a1) λr=>wt r≤64:=by
 unfold Cu
 refine .j (λy1:Bool=>y1=false→a1.length=32) (λy1 ZV=> .c (λh1=> .s ?_)
  λh1=>have i2:=ZV h1; .g ?_ (.b zoE λr3 pW=> .s ?_))
  λk2 IV=> .c (λ_=>IV _ nofun)
  λh3=>IV _ λq4=>?_
 all_goals (try simp only[NB]at *)<;>omega
def zhc{a0 a1 a2}(ha:wt a1≤1000000000)(hb:wt a2≤1000000000):Ok (Fk a0 a1 a2) λr=>wt r≤76:=by
 unfold Fk
 refine .j (λy1:Bool=>y1=false→a1.length=12∧a2.length=32) (λy1 ZV=> .c (λh1=> .s ?_)
  λh1=>have i2:=ZV h1; .g ?_ (.b (zdZ ?_) λr3 pW=> .s ?_))
  λk2 IV=> .c (λ_=>IV _ nofun)
  λh3=> .c (λ_=>IV _ nofun)
  λh4=>IV _ λq5=>?_
 all_goals (try simp only[NB]at *)<;>omega
def zoJ{a0 a1 a2 a3 a4}(ha:wt a0≤1000000000)(hb:wt a2≤1000000000)(hc:wt a4≤1000000000):Ok (Gp a0 a1 a2 a3 a4) λr=>wt r.1≤wt a0∧wt r.2.1≤300:=by
 unfold Gp
 refine .cp ?_ (.jt (λy2=> .c (λh1=> .s ?_)
  λh1=> .jt (λy5=> .c (λh2=> .s ?_)
  λh2=> .c (λh3=> .s ?_)
  λh3=> .b (zh3 ?_ ?_ ?_) λr7 ⟨FW,hr7i⟩=> .s ?_)
  λk6 EW=> .c (λ_=>EW _)
  λ_=>EW _)
  λk3 JV=> .c (λ_=>JV _)
  λh5=>have f6:=PU (nf h5); .b (zah ?_) λr4 SV=> .c (λ_=>JV _)
  λh7=> .c (λ_=>JV _)
  λ_=>JV _)
 all_goals (try simp only[NB]at *)<;>(try simp(disch:=omega) only[DA,SA]at *)<;>omega
def kP{a0 a1 a2}(ha:wt a0≤1000000000)(hb:wt a2≤1000000000):Ok (Ce a0 a1 a2) λr=>wt r.1≤wt a0∧wt r.2.1≤300:=by
 unfold Ce
 refine .cp ?_ (.b (TJ ?_) λr2 DW=> .c (λh1=> .s ?_)
  λh1=>have i2:=DW (nf h1); .b (zoJ ?_ ?_ ?_) λr3 pW=> .j (λy4:Am=>wt y4≤wt a0) (λy4 mZ=> .s ?_)
  λk5 sW=> .c (λh3=>sW _ ?_)
  λh3=>sW _ ?_)
 all_goals (try simp only[NB]at *)<;>omega
def zef{a0 a1}(ha:wt a0≤1000000000)(hb:wt a1≤1000000000):Ok (Ea a0 a1) λr=>wt r≤a0.length+a1.length:=by
 unfold Ea;refine .g ?_ (.g ?_ (.s ?_))
 all_goals (try simp only[NB]at *)<;>omega
def zL{a0 a1}(ha:wt a0≤1000000000)(hb:wt a1≤1000000000):Ok (Bo a0 a1) λr=>wt r≤a0.Cur.Key.length+160:=by
 unfold Bo;refine .b (UM ?_) λr1 QV=> .b (zef ?_ ?_) λr2 DW=> .s ?_
 all_goals (try simp only[NB]at *)<;>omega
def zaG{a0 a1 a2}(ha:wt a0≤1000000000)(hb:wt a1≤1000000000)(hc:wt a2≤1000000000):Ok (Dn a0 a1 a2) λr=>wt r≤a0.length+a1.length+a2.length:=by
 unfold Dn;refine .g ?_ (.g ?_ (.g ?_ (.s ?_)))
 all_goals (try simp only[NB]at *)<;>omega
def zgS{a0 a1}(ha:wt a0≤1000000000):Ok (Bw a0 a1) λr=>wt r≤wt a0:=by
 unfold Bw
 refine .cp ?_ (.jt (λy2=> .j (λy5:Am=>wt y5≤wt a0) (λy5 A6=> .s ?_)
  λk6 EW=> .c (λh1=>EW _ ?_)
  λh1=>EW _ ?_)
  λk3 JV=> .b (TJ ?_) λr4 SV=> .c (λh2=>have i3:=SV h2; .c (λh4=> .c (λh5=> .c (λ_=>JV _)
  λ_=>JV _)
  λ_=>JV _)
  λ_=>JV _)
  λ_=>JV _)
 all_goals (try simp only[NB]at *)<;>omega
def zdC{a0}:Ok (Bj a0) λr=>r.length≤6:=by
 unfold Bj
 refine .c (λh1=> .s ?_)
  λh1=> .b (yG ?_) λr1 QV=> .s ?_
 all_goals (try simp only[NB]at *)<;>omega
def zg3{a0}(ha:wt a0≤1000000000):Ok (Fd a0) λr=>wt r.1≤wt a0∧wt r.2.1≤300:=by
 unfold Fd
 refine .jt (λy1=> .c (λh1=> .cp ?_ (.s ?_))
  λh1=> .b zdC λr5 RV=> .b (kP ?_ ?_) λr6 vW=> .s ?_)
  λk2 IV=> .b (TJ ?_) λr3 pW=> .c (λ_=>IV _)
  λ_=>IV _
 all_goals (try simp only[NB]at *)<;>(try simp(disch:=omega) only[DA,SA]at *)<;>omega
def ziG{a0}(ha:wt a0≤1000000000):Ok (Fl a0) λr=>wt r.1≤wt a0∧wt r.2.1≤300:=by
 unfold Fl
 refine .jt (λy1=> .c (λh1=> .cp ?_ (.s ?_))
  λh1=> .b zdC λr5 RV=> .b (kP ?_ ?_) λr6 vW=> .s ?_)
  λk2 IV=> .b (TJ ?_) λr3 pW=> .c (λ_=>IV _)
  λ_=>IV _
 all_goals (try simp only[NB]at *)<;>omega
def zpz{a0}(ha:wt a0≤1000000000):Ok (Dl a0) λr=>wt r.1≤wt a0+32:=by
 unfold Dl
 refine .cp ?_ (.jt (λy2=> .c (λh1=> .s ?_)
  λh1=> .b (IR ?_) λr5 RV=> .s ?_)
  λk3 JV=> .b (TJ ?_) λr4 SV=> .c (λ_=>JV _)
  λh2=>have i3:=SV (nf h2); .c (λ_=>JV _)
  λh4=> .c (λ_=>JV _)
  λ_=>JV _)
 all_goals (try simp only[NB]at *)<;>omega
def zpN{a0}(ha:wt a0≤1000000000):Ok (Hk a0) λr=>wt r.1≤wt a0+64:=by
 unfold Hk
 refine .cp ?_ (.jt (λy2=> .c (λh1=> .s ?_)
  λh1=> .b (IR ?_) λr5 RV=> .b (zdZ ?_) λr6 vW=> .s ?_)
  λk3 JV=> .b (TJ ?_) λr4 SV=> .c (λ_=>JV _)
  λh2=>have i3:=SV (nf h2); .c (λ_=>JV _)
  λ_=>JV _)
 all_goals (try simp only[NB]at *)<;>(try simp(disch:=omega) only[DA,SA]at *)<;>omega
def zpW{a0 a1}(ha:a0.length≤1000000000)(hb:a1.length≤1000000000):Ok (Bq a0 a1) λr=>True:=by
 unfold Bq
 refine .c (λh1=> .s trivial)
  λh1=> .jt (λy1=> .s trivial)
  λk2 IV=> .l (λx3:Int×Int=>0≤x3.2∧x3.2≤(a0.length:Int)) (λx3:Int×Int=>((a0.length:Int) - x3.2).toNat) (λx3 WX k4 iW=> .c (λh2=> .bi ?_ ?_ λe5 gX ZW=> .bi ?_ ?_ λe6 dY kX=>iW _ ?_ ?_)
  λ_=>IV _) ?_ ?_
 all_goals (try simp only[NB]at *)<;>(try simp(disch:=omega) only[DA,SA]at *)<;>omega
def zdM{a0 a1}(ha:a0.length≤1000000000)(hb:a1.length≤1000000000):Ok (Bk a0 a1) λr=>True:=by
 unfold Bk
 refine .jt (λy1=> .s trivial)
  λk2 IV=> .c (λh1=> .b (zpW ?_ ?_) λr3 _=>IV _)
  λ_=>IV _
 all_goals (try simp only[NB]at *)<;>omega
def zoM{a0 a1 a2}(ha:wt a0≤1000000000)(hb:wt a2≤1000000000):Ok (Hj a0 a1 a2) λr=>r.1.length≤200:=by
 unfold Hj
 refine .b (UM ?_) λr1 QV=> .jt (λy2=> .c (λh1=> .s ?_)
  λh1=> .b (zah ?_) λr6 vW=> .b (zeo ?_ ?_) λr7 FW=> .s ?_)
  λk3 JV=> .c (λ_=>JV _)
  λh2=> .c (λ_=>JV _)
  λh3=> .b gU λr4 SV=> .b (zdM ?_ ?_) λr5 _=>JV _
 all_goals (try simp only[NB]at *)<;>omega
def zdU{a0 a1 a2}(ha:wt a0≤1000000000)(hb:wt a2≤1000000000):Ok (Cy a0 a1 a2) λr=>wt r.1≤wt a0∧r.2.1.length≤200:=by
 unfold Cy
 refine .cp ?_ (.jt (λy2=> .c (λh1=> .s ?_)
  λh1=> .b zhw λr5 ⟨RV,hr5i⟩=> .c (λh2=> .s ?_)
  λh2=>have i3:=hr5i (nf h2); .b (zoM ?_ ?_) λr6 vW=> .c (λh4=> .s ?_)
  λh4=> .b (zoL ?_) λr7 FW=> .s ?_)
  λk3 JV=> .c (λ_=>JV _)
  λh5=>have f6:=PU (nf h5); .b (UM ?_) λr4 SV=> .c (λ_=>JV _)
  λ_=>JV _)
 all_goals (try simp only[NB]at *)<;>omega
def zgR{a0 a1 a2}(ha:wt a0≤1000000000)(hb:wt a2≤1000000000):Ok (Ee a0 a1 a2) λr=>wt r.1≤wt a0+64∧r.2.1.length≤200:=by
 unfold Ee
 refine .cp ?_ (.jt (λy2=> .c (λh1=> .s ?_)
  λh1=> .b (EU ?_) λr5 RV=> .c (λh2=> .s ?_)
  λh2=> .c (λh3=> .b (zdU ?_ ?_) λr6 vW=> .c (λh4=> .s ?_)
  λh4=> .jt (λy7=> .j (λy9:Am=>wt y9≤wt a0+64) (λy9 z1=> .s ?_)
  λk10 bW=> .c (λh5=>bW _ ?_)
  λh5=>bW _ ?_)
  λk8 qW=> .c (λ_=>qW _)
  λ_=>qW _)
  λh3=> .jt (λy11=> .c (λh7=> .jt (λy13=> .c (λh8=> .s ?_)
  λh8=> .b (zdU ?_ ?_) λr15 cY=> .c (λh9=> .s ?_)
  λh9=> .s ?_)
  λk14 eW=> .c (λ_=>eW _)
  λ_=>eW _)
  λh7=> .jt (λy16=> .c (λGW=> .b (zdZ ?_) λr18 AZ=> .b (zdU ?_ ?_) λr19 BZ=> .c (λIW=> .s ?_)
  λIW=> .s ?_)
  λGW=> .s ?_)
  λk17 lX=> .c (λ_=>lX _)
  λ_=>lX _)
  λk12 BW=> .c (λ_=>BW _)
  λ_=>BW _)
  λk3 JV=> .b (TJ ?_) λr4 SV=> .c (λ_=>JV _)
  λiY=>have i16:=SV (nf iY); .c (λ_=>JV _)
  λYY=> .c (λ_=>JV _)
  λ_=>JV _)
 all_goals (try simp only[NB]at *)<;>(try simp(disch:=omega) only[DA,SA]at *)<;>omega
def zhq{a0 a1}(ha:wt a0≤1000000000):Ok (Fm a0 a1) λr=>r.1.length≤wt a0:=by
 unfold Fm
 refine .b (TJ ?_) λr1 QV=> .c (λh1=> .s ?_)
  λh1=>have i2:=QV (nf h1); .jt (λy2=> .c (λh3=> .g ?_ (.s ?_))
  λh3=> .c (λh4=> .g ?_ (.s ?_))
  λh4=> .jt (λy4=> .c (λh5=> .g ?_ (.s ?_))
  λh5=> .s ?_)
  λk5 sW=> .c (λ_=>sW _)
  λ_=>sW _)
  λk3 JV=> .c (λ_=>JV _)
  λ_=>JV _
 all_goals (try simp only[NB]at *)<;>(try simp(disch:=omega) only[DA,SA]at *)<;>omega
def znb{a0 a1 a2}(ha:wt a0≤1000000000)(hb:wt a2≤1000000000):Ok (Hl a0 a1 a2) λr=>wt r.1≤wt a0+64:=by
 unfold Hl
 refine .cp ?_ (.jt (λy2=> .c (λh1=> .s ?_)
  λh1=> .c (λh2=> .b (zpN ?_) λr7 FW=> .c (λh3=> .s ?_)
  λh3=> .s ?_)
  λh2=> .c (λh4=> .s ?_)
  λh4=> .s ?_)
  λk3 JV=> .b (TJ ?_) λr4 SV=> .c (λ_=>JV _)
  λh5=>have i6:=SV (nf h5); .c (λ_=>JV _)
  λh7=> .c (λ_=>JV _)
  λh8=> .b zdC λr5 RV=> .b (EU ?_) λr6 vW=>JV _)
 all_goals (try simp only[NB]at *)<;>(try simp(disch:=omega) only[DA,SA]at *)<;>omega
def zox{a0}(ha:wt a0≤1000000000):Ok (Hv a0) λr=>wt r≤400:=by
 unfold Hv
 refine .b (TJ ?_) λr1 QV=> .c (λh1=> .s ?_)
  λh1=>have i2:=QV (nf h1); .j (λy2:(List (List UInt8))=>wt y2≤200) (λy2 rW=> .g ?_ (.g ?_ (.j (λy4:(List (List UInt8))=>wt y4≤400) (λy4 mZ=> .s ?_)
  λk5 sW=> .c (λh3=> .g ?_ (.g ?_ (sW _ ?_)))
  λh3=>sW _ ?_)))
  λk3 JV=> .c (λh4=> .g ?_ (.g ?_ (JV _ ?_)))
  λh4=>JV _ ?_
 all_goals (try simp only[NB]at *)<;>omega
def zg1{a0 a1}(ha:wt a0≤1000000000):Ok (Bx a0 a1) λr=>wt r≤wt a0+1600:=by
 unfold Bx;refine have hw:=QB a0.Cands;
 .j (λy1:Bool=>y1=false→wt a0≤39∧a0.Cands.length≤3) (λy1 ZV=> .c (λh1=> .cp ?_ (.s ?_))
  λh1=>have i2:=ZV h1; .j (λy4:Ah=>wt y4≤1600) (λy4 mZ=> .s ?_)
  λk5 sW=> .l (λx6:Int×Ah=>0≤x6.1∧x6.1≤(a0.Cands.length:Int)∧wt x6.2≤40 *x6.1) (λx6:Int×Ah=>((a0.Cands.length:Int) - x6.1).toNat) (λx6 hx6 k7 wW=> .c (λh3=> .bi ?_ ?_ λe8 W2 Q1=> .j (λy9:Ah=>wt y9≤40 *x6.1+40) (λy9 z1=>wW _ ?_ ?_)
  λk10 bW=> .c (λh4=> .bi ?_ ?_ λe11 he11 D6=> .m (oA ?_) (.g ?_ (bW _ ?_)))
  λh4=>bW _ ?_)
  λh3=>sW _ ?_) ?_ ?_)
  λk2 IV=> .c (λ_=>IV _ nofun)
  λh5=>have f6:=VH (nf h5);IV _ λq7=>?_
 all_goals (try simp only[NB]at *)<;>(try simp(disch:=omega) only[DA,SA]at *)<;>omega
def zoT{a0 a1 a2 a3}(ha:wt a0≤1000000000)(hb:wt a3≤1000000000):Ok (Fo a0 a1 a2 a3) λr=>wt r.1≤wt a0+1700:=by
 unfold Fo
 refine .j (λy1:Bool=>y1=false→a3.length=12) (λy1 ZV=> .c (λh1=> .cp ?_ (.s ?_))
  λh1=>have i2:=ZV h1; .b (zg1 ?_) λr5 RV=>have hw:=QB r5.Cands; .jt (λy6=> .c (λh3=> .cp ?_ (.s ?_))
  λh3=> .g ?_ (.g ?_ (.s ?_)))
  λk7 wW=> .l (λx8:Int×Ah=>0≤x8.1∧x8.1≤(r5.Cands.length:Int)) (λx8:Int×Ah=>((r5.Cands.length:Int) - x8.1).toNat) (λx8 E6 k9 KX=> .c (λh4=> .h ?_ (.bg ?_ λe10 SY XX=> .c (λh5=> .cp ?_ (.s ?_))
  λh5=>KX _ ?_ ?_))
  λ_=>wW _) ?_ ?_)
  λk2 IV=> .c (λ_=>IV _ nofun)
  λh6=>have f7:=VH (nf h6); .c (λ_=>IV _ nofun)
  λh8=> .c (λ_=>IV _ nofun)
  λh9=>have f10:=rF (nf h9); .c (λ_=>IV _ nofun)
  λGW=>IV _ λq12=>?_
 all_goals (try simp only[NB]at *)<;>(try simp(disch:=omega) only[DA,SA]at *)<;>omega
def zoK{a0 a1 a2 a3}(ha:wt a0≤1000000000)(hb:wt a3≤1000000000):Ok (Fn a0 a1 a2 a3) λr=>wt r.1≤wt a0+1600:=by
 unfold Fn;refine have hw:=QB a0.Cands;
 .b (zrE ?_) λr1 ⟨QV,s4⟩=> .j (λy2:Bool=>y2=false→wt a0≤39∧a0.Cands.length≤3) (λy2 rW=> .c (λh1=> .cp ?_ (.s ?_))
  λh1=>have i2:=rW h1; .j (λy6:Ah=>wt y6≤1600) (λy6 oZ=> .s ?_)
  λk7 wW=> .l (λx8:Int×Ah=>0≤x8.1∧x8.1≤(a0.Cands.length:Int)∧wt x8.2≤40 *x8.1) (λx8:Int×Ah=>((a0.Cands.length:Int) - x8.1).toNat) (λx8 E6 k9 KX=> .c (λh3=> .bi ?_ ?_ λe10 SY XX=> .j (λy12:Ah=>wt y12≤40 *x8.1+40) (λy12 tY=>KX _ ?_ ?_)
  λk13 gW=> .c (λh4=> .bi ?_ ?_ λe14 E0 pZ=> .m (oA ?_) (.g ?_ (gW _ ?_)))
  λh4=>gW _ ?_)
  λh3=>wW _ ?_) ?_ ?_)
  λk3 JV=> .c (λ_=>JV _ nofun)
  λh5=>have i6:=s4 (nf h5); .c (λ_=>JV _ nofun)
  λh7=> .b (EU ?_) λr4 SV=> .c (λ_=>JV _ nofun)
  λh8=>JV _ λq9=>?_
 all_goals (try simp only[NB]at *)<;>(try simp(disch:=omega) only[DA,SA]at *)<;>omega
def zpy{a0 a1 a2}(ha:wt a0≤1000000000):Ok (Gz a0 a1 a2) λr=>wt r≤wt a0+1:=by
 unfold Gz;refine have hc:=IS a0 a1;
 have hw:=QB a0;
 .g ?_ (.jt (λy1=> .c (λh1=> .s ?_)
  λh1=> .c (λh2=> .c (λh3=> .s ?_)
  λh3=> .g ?_ (.s ?_))
  λh2=> .h ?_ (.bg ?_ λe3 v4 R1=> .h ?_ (.bg ?_ λe4 TY vY=> .h (have:=wD ([]++a0) ((fB a0 a1).toNat) (⟨e4.A,gA .i64 e3.Got a2,e4.Sent⟩:Al);?_) (.bg ?_ λe6 dY kX=> .j (λy7:(List Al)=>wt y7≤wt a0+1) (λy7 IY=> .s ?_)
  λk8 qW=> .c (λh4=> .h (have:=wD ([]++a0) ((fB a0 a1).toNat) (⟨e4.A,gA .i64 e3.Got a2,e4.Sent⟩:Al);?_) (.bg ?_ λe9 nZ bY=>qW _ (have:=wD (List.set ([]++a0) ((fB a0 a1).toNat) (⟨e4.A,gA .i64 e3.Got a2,e4.Sent⟩:Al):List Al) ((fB a0 a1).toNat) (⟨e9.A,1000000,e9.Sent⟩:Al);have:=wD ([]++a0) ((fB a0 a1).toNat) (⟨e4.A,gA .i64 e3.Got a2,e4.Sent⟩:Al);?_)))
  λh4=>qW _ (have:=wD ([]++a0) ((fB a0 a1).toNat) (⟨e4.A,gA .i64 e3.Got a2,e4.Sent⟩:Al);?_)))))
  λk2 IV=> .c (λ_=>IV _)
  λh5=>have f6:=BI (nf h5); .c (λ_=>IV _)
  λ_=>IV _)
 all_goals (try simp only[NB]at *)<;>(try simp(disch:=omega) only[DA,SA]at *)<;>omega
def zg8{a0 a1}:Ok (By a0 a1) λr=>True:=by
 unfold By;refine have hc:=IS a0 a1;
 have hw:=QB a0;
 .j (λy1:Bool=>y1=false→0≤fB a0 a1) (λy1 ZV=> .c (λh1=> .s trivial)
  λh1=>have i2:=ZV h1; .bi ?_ ?_ λe3 v4 R1=> .bi ?_ ?_ λe4 TY vY=> .s trivial)
  λk2 IV=> .c (λ_=>IV _ nofun)
  λh3=>have f4:=BI (nf h3);IV _ λq5=>?_
 all_goals (try simp only[NB]at *)<;>(try simp(disch:=omega) only[DA,SA]at *)<;>omega
def zpe{a0 a1 a2}(ha:wt a0≤1000000000):Ok (Eg a0 a1 a2) λr=>wt r.1≤wt a0:=by
 unfold Eg;refine have hc:=IS a0 a1;
 have hw:=QB a0;
 .g ?_ (.j (λy1:Bool=>y1=false→0≤fB a0 a1) (λy1 ZV=> .c (λh1=> .s ?_)
  λh1=>have i2:=ZV h1; .h ?_ (.bg ?_ λe4 TY vY=> .h ?_ (.bg ?_ λe5 gX ZW=> .s (have:=wD ([]++a0) ((fB a0 a1).toNat) (⟨e5.A,e5.Got,gA .i64 e4.Sent a2⟩:Al);?_))))
  λk2 IV=> .c (λ_=>IV _ nofun)
  λh3=> .c (λ_=>IV _ nofun)
  λh4=>have f5:=BI (nf h4); .b zg8 λr3 _=>IV _ λq6=>?_)
 all_goals (try simp only[NB]at *)<;>(try simp(disch:=omega) only[DA,SA]at *)<;>omega
def zhY{a0 a1}(ha:wt a0≤1000000000):Ok (Dm a0 a1) λr=>True:=by
 unfold Dm;refine have hw:=QB a0.L;
 .jt (λy1=> .s trivial)
  λk2 IV=> .l (λx3:Int=>0≤x3∧x3≤(a0.L.length:Int)) (λx3:Int=>((a0.L.length:Int) - x3).toNat) (λx3 WX k4 iW=> .c (λh1=> .jt (λy5=> .c (λh2=> .s trivial)
  λh2=>iW _ ?_ ?_)
  λk6 EW=> .bi ?_ ?_ λe7 MZ uY=> .c (λh3=> .bi ?_ ?_ λe8 W2 Q1=>EW _)
  λ_=>EW _)
  λ_=>IV _) ?_ ?_
 all_goals (try simp only[NB]at *)<;>(try simp(disch:=omega) only[DA,SA]at *)<;>omega
def zhs{a0 a1 a2}(ha:wt a0≤1000000000):Ok (Fg a0 a1 a2) λr=>True:=by
 unfold Fg
 refine .jt (λy1=> .s trivial)
  λk2 IV=> .b (zhY ?_) λr3 _=> .c (λ_=>IV _)
  λh1=> .b zg8 λr4 _=>IV _
 all_goals (try simp only[NB]at *)<;>omega
def zn4{a0 a1}(ha:wt a0≤1000000000):Ok (Ha a0 a1) λr=>r.length≤a0.length+12:=by
 unfold Ha
 refine .c (λh1=> .g ?_ (.s ?_))
  λh1=>have f2:=rF (nf h1); .b (yG ?_) λr1 QV=> .b (yG ?_) λr2 DW=> .s ?_
 all_goals (try simp only[NB]at *)<;>omega
def zdF{a0 a1 a2 a3 a4}(ha:wt a2≤1000000000)(hb:wt a3≤1000000000):Ok (Ec a0 a1 a2 a3 a4) λr=>r.length≤60:=by
 unfold Ec
 refine .j (λy1:Bool=>y1=false→a2.length=12∧a3.length=12) (λy1 ZV=> .c (λh1=> .s ?_)
  λh1=>have i2:=ZV h1; .b (zn4 ?_) λr3 pW=> .g ?_ (.g ?_ (.g ?_ (.b (yG ?_) λr5 RV=> .s ?_))))
  λk2 IV=> .c (λ_=>IV _ nofun)
  λh3=>have f4:=rF (nf h3); .c (λ_=>IV _ nofun)
  λh5=> .c (λ_=>IV _ nofun)
  λh6=> .c (λ_=>IV _ nofun)
  λh7=>IV _ λq8=>?_
 all_goals (try simp only[NB]at *)<;>omega
def zii{a0 a1 a2 a3 a4 a5}(ha:wt a3≤1000000000)(hb:wt a4≤1000000000):Ok (Fh a0 a1 a2 a3 a4 a5) λr=>r.length≤16:=by
 unfold Fh
 refine .b (zdF ?_ ?_) λr1 QV=> .jt (λy2=> .c (λh1=> .s ?_)
  λh1=> .b gU λr4 SV=> .s ?_)
  λk3 JV=> .c (λ_=>JV _)
  λ_=>JV _
 all_goals (try simp only[NB]at *)<;>omega
def zpl{a0 a1}:Ok (Cs a0 a1) λr=>True:=by
 unfold Cs
 refine .jt (λy1=> .s trivial)
  λk2 IV=> .c (λh1=> .c (λ_=>IV _)
  λ_=>IV _)
  λ_=>IV _
def zoS{a0 a1 a2 a3}(ha:wt a3≤1000000000):Ok (Hb a0 a1 a2 a3) λr=>r=0→a3.Kind=3∧1≤a3.Id∧a3.Id≤9:=by
 unfold Hb
 refine .j (λy1:Bool=>y1=false→a3.Kind=3∧1≤a3.Id∧a3.Id≤9) (λy1 ZV=> .c (λh1=> .s ?_)
  λh1=>have i2:=ZV h1; .b zpl λr3 _=> .c (λh3=> .s ?_)
  λh3=> .b (zii ?_ ?_) λr4 SV=> .b (zdM ?_ ?_) λr5 _=> .c (λh4=> .s ?_)
  λh4=> .s ?_)
  λk2 IV=> .c (λ_=>IV _ nofun)
  λh5=>have f6:=zcl (nf h5); .c (λ_=>IV _ nofun)
  λh7=> .c (λ_=>IV _ nofun)
  λh8=>have f9:=rF (nf h8); .c (λ_=>IV _ nofun)
  λmW=>have f11:=jD (nf mW);IV _ λq12=>?_
 all_goals (try simp only[NB]at *)<;>omega
def zhe{a0 a1}:Ok (Bz a0 a1) λr=>r.length≤32:=by
 unfold Bz;refine have hm:=XK a0 a1;
 .s ?_
 all_goals (try simp only[NB]at *)<;>omega
def zdz{a0}:Ok (Bg a0) λr=>r.length≤32:=by
 unfold Bg
 refine .c (λh1=> .s ?_)
  λh1=>have f2:=ZK (nf h1); .b zhe λr2 DW=> .b (IR ?_) λr3 pW=> .s ?_
 all_goals (try simp only[NB]at *)<;>omega
def zdx{a0 a1 a2 a3 a4}(ha:wt a1≤1000000000)(hb:wt a2≤1000000000)(hc:wt a4≤1000000000):Ok (Ed a0 a1 a2 a3 a4) λr=>r.length≤60:=by
 unfold Ed
 refine .j (λy1:Bool=>y1=false→a1.length=12∧a2.length=12∧a4.length=16) (λy1 ZV=> .c (λh1=> .s ?_)
  λh1=>have i2:=ZV h1; .g ?_ (.g ?_ (.b (yG ?_) λr4 SV=> .g ?_ (.s ?_))))
  λk2 IV=> .c (λ_=>IV _ nofun)
  λh3=> .c (λ_=>IV _ nofun)
  λh4=> .c (λ_=>IV _ nofun)
  λh5=> .c (λ_=>IV _ nofun)
  λh6=>IV _ λq7=>?_
 all_goals (try simp only[NB]at *)<;>omega
def zhJ{a0 a1 a2 a3 a4 a5}(ha:wt a2≤1000000000)(hb:wt a3≤1000000000)(hc:wt a5≤1000000000):Ok (Fi a0 a1 a2 a3 a4 a5) λr=>r.length≤16:=by
 unfold Fi
 refine .b zdz λr1 QV=> .b (zdx ?_ ?_ ?_) λr2 DW=> .jt (λy3=> .c (λh1=> .s ?_)
  λh1=> .b gU λr5 RV=> .s ?_)
  λk4 iW=> .c (λ_=>iW _)
  λ_=>iW _
 all_goals (try simp only[NB]at *)<;>omega
def zoh{a0 a1}(ha:wt a1≤1000000000):Ok (Hc a0 a1) λr=>True:=by
 unfold Hc
 refine .jt (λy1=> .s trivial)
  λk2 IV=> .c (λh1=>have f2:=jD h1; .c (λh3=> .b (zhJ ?_ ?_ ?_) λr3 pW=> .b (zdM ?_ ?_) λr4 _=>IV _)
  λ_=>IV _)
  λ_=>IV _
 all_goals (try simp only[NB]at *)<;>omega
def zob{a0 a1 a2}(ha:wt a1≤1000000000)(hb:wt a2≤1000000000):Ok (Hd a0 a1 a2) λr=>r.length≤32:=by
 unfold Hd
 refine .j (λy1:Bool=>y1=false→a1.length=12∧a2.length=12) (λy1 ZV=> .c (λh1=> .s ?_)
  λh1=>have i2:=ZV h1; .g ?_ (.g ?_ (.b zhe λr3 pW=> .s ?_)))
  λk2 IV=> .c (λ_=>IV _ nofun)
  λh3=>have f4:=ZK (nf h3); .c (λ_=>IV _ nofun)
  λh5=>IV _ λq6=>?_
 all_goals (try simp only[NB]at *)<;>omega
def znz{a0}:Ok (Ct a0) λr=>r.length≤32:=by
 unfold Ct
 refine .c (λh1=> .s ?_)
  λh1=> .b (IR ?_) λr1 QV=> .s ?_
 all_goals (try simp only[NB]at *)<;>omega
def zo3{a0 a1}(ha:wt a0≤1000000000):Ok (He a0 a1) λr=>r.length≤a0.length+32:=by
 unfold He
 refine .c (λh1=> .s ?_)
  λh1=> .g ?_ (.j (λy1:(List UInt8)=>y1.length≤a0.length+32) (λy1 ZV=> .s ?_)
  λk2 IV=> .l (λx3:(List UInt8)×Int=>0≤x3.2∧x3.2≤64∧x3.1.length≤a0.length+32) (λx3:(List UInt8)×Int=>(64 - x3.2).toNat) (λx3 WX k4 iW=> .c (λh2=> .b (IR ?_) λr5 RV=>iW _ ?_ ?_)
  λh2=>IV _ ?_) ?_ ?_)
 all_goals (try simp only[NB]at *)<;>(try simp(disch:=omega) only[DA,SA]at *)<;>omega
def zgY{a0 a1 a2 a3}(ha:wt a1≤1000000000)(hb:wt a2≤1000000000):Ok (Fj a0 a1 a2 a3) λr=>r.length≤64:=by
 unfold Fj
 refine .b (zob ?_ ?_) λr1 QV=> .b znz λr2 DW=> .c (λh1=> .s ?_)
  λh1=> .b (zo3 ?_) λr3 pW=> .s ?_
 all_goals (try simp only[NB]at *)<;>omega
def znN{a0 a1 a2}(ha:wt a2≤1000000000):Ok (Hp a0 a1 a2) λr=>wt r.1≤200:=by
 unfold Hp
 refine .j (λy1:Bool=>y1=false→wt a2≤112) (λy1 ZV=> .c (λh1=> .s ?_)
  λh1=>have i2:=ZV h1; .b (zhJ ?_ ?_ ?_) λr3 pW=> .c (λh3=> .s ?_)
  λh3=> .cp ?_ (.s ?_))
  λk2 IV=> .c (λ_=>IV _ nofun)
  λh4=>have f5:=jD (nf h4);IV _ λq6=>?_
 all_goals (try simp only[NB]at *)<;>omega
end Go.D
namespace Go.D
def DV{a0}:Ok (Bc a0) λr=>True:=by
 unfold Bc
 refine .c (λh1=> .s trivial)
  λh1=> .s trivial
def zmU{a0 a1}:Ok (Cf a0 a1) λr=>True:=by
 unfold Cf
 refine .jt (λy1=> .s trivial)
  λk2 IV=> .c (λh1=> .c (λh2=> .c (λ_=>IV _)
  λ_=>IV _)
  λ_=>IV _)
  λ_=>IV _
def zgO{a0 a1}:Ok (Fc a0 a1) λr=>True:=by
 unfold Fc
 refine .b zmU λr1 _=> .c (λh1=> .s trivial)
  λh1=> .c (λh2=> .s trivial)
  λh2=> .jt (λy2=> .s trivial)
  λk3 JV=> .c (λ_=>JV _)
  λ_=>JV _
def zhm{a0}(ha:wt a0≤1000000000):Ok (Ez a0) λr=>wt r≤a0.Cn.length:=by
 unfold Ez;refine .g ?_ (.s ?_)
 all_goals (try simp only[NB]at *)<;>omega
def zac{a0}(ha:wt a0≤1000000000)(hb:1≤a0.Id∧a0.Id≤9∧1≤a0.Psk.length∧a0.Psk.length≤32∧0≤a0.At.Host∧a0.At.Host≤4294967295∧0≤a0.At.Port∧a0.At.Port≤65535):Ok (Dk a0) λr=>wt r≤wt a0∧r.Id=a0.Id:=by
 unfold Dk;refine .b (zoY ?_ ?_ ?_ ?_) λr1 QV=> .s ?_
 all_goals (try simp only[NB]at *)<;>omega
def zpF{a0 a1 a2}(ha:wt a0≤1000000000)(hb:wt a2≤1000000000):Ok (Gn a0 a1 a2) λr=>wt r.1≤wt a0+12∧r.1.Id=a0.Id∧r.2.1.length≤1∧wt r.2.1≤400∧wt r.2.2.1≤2000:=by
 unfold Gn
 refine .cp ?_ (.j (λy2:Bool=>y2=false→CF a0∧a2.length=12) (λy2 rW=> .c (λh1=> .s ?_)
  λh1=>have i2:=rW h1; .c (λh3=> .s ?_)
  λh3=> .g ?_ (.b DV λr5 _=> .g ?_ (.b (zhm ?_) λr6 vW=> .s ?_)))
  λk3 JV=> .b (oN ?_) λr4 SV=> .c (λ_=>JV _ nofun)
  λh4=>have i5:=SV (nf h4); .c (λ_=>JV _ nofun)
  λh6=>JV _ λq7=>?_)
 all_goals (try simp only[NB]at *)<;>omega
def zmX{a0 a1 a2}(ha:wt a0≤1000000000)(hb:wt a2≤1000000000):Ok (Gq a0 a1 a2) λr=>wt r.1≤wt a0∧r.1.Id=a0.Id∧r.2.1.length≤1∧wt r.2.1≤400∧wt r.2.2.1≤2000:=by
 unfold Gq
 refine .cp ?_ (.j (λy2:Bool=>y2=false→CF a0∧a2.length≤40) (λy2 rW=> .c (λh1=> .s ?_)
  λh1=>have i2:=rW h1; .c (λh3=> .s ?_)
  λh3=> .b (kP ?_ ?_) λr5 RV=> .c (λh4=> .s ?_)
  λh4=> .g ?_ (.g ?_ (.b (zL ?_ ?_) λr6 vW=> .s ?_)))
  λk3 JV=> .b (oN ?_) λr4 SV=> .c (λ_=>JV _ nofun)
  λh5=>have i6:=SV (nf h5); .c (λ_=>JV _ nofun)
  λh7=>JV _ λq8=>?_)
 all_goals (try simp only[NB]at *)<;>omega
def zmK{a0 a1}(ha:wt a0≤1000000000):Ok (Gy a0 a1) λr=>wt r.1≤wt a0+32∧r.1.Id=a0.Id∧r.2.1.length≤1∧wt r.2.1≤400∧wt r.2.2.1≤2000:=by
 unfold Gy
 refine .cp ?_ (.j (λy2:Bool=>y2=false→CF a0) (λy2 rW=> .c (λh1=> .s ?_)
  λh1=>have i2:=rW h1; .jt (λy5=> .c (λh3=> .s ?_)
  λh3=> .b (zpz ?_) λr7 FW=> .b (zg3 ?_) λr8 QW=> .jt (λy9=> .c (λh4=> .s ?_)
  λh4=> .b DV λr11 _=> .b (zL ?_ ?_) λr12 QX=> .s ?_)
  λk10 bW=> .c (λ_=>bW _)
  λ_=>bW _)
  λk6 EW=> .c (λ_=>EW _)
  λ_=>EW _)
  λk3 JV=> .b (oN ?_) λr4 SV=> .c (λ_=>JV _ nofun)
  λh7=>have i8:=SV (nf h7);JV _ λq9=>?_)
 all_goals (try simp only[NB]at *)<;>omega
def zmV{a0 a1}(ha:wt a0≤1000000000):Ok (Gt a0 a1) λr=>wt r.1≤wt a0∧r.1.Id=a0.Id∧r.2.1.length≤2∧wt r.2.1≤900∧wt r.2.2≤2000:=by
 unfold Gt
 refine .cp ?_ (.j (λy2:Bool=>y2=false→CF a0) (λy2 rW=> .c (λh1=> .s ?_)
  λh1=>have i2:=rW h1; .c (λh3=> .b zgO λr5 _=> .c (λh4=> .b (zac ?_ ?_) λr6 vW=> .g ?_ (.g ?_ (.s ?_)))
  λh4=> .jt (λy8=> .j (λy10:(List Ab)=>y10.length≤1∧wt y10≤400) (λy10 SX=> .jt (λy13=> .j (λy15:(List Ab)=>y15.length≤2∧wt y15≤900) (λy15 F0=> .s ?_)
  λk16 aX=> .c (λh5=> .cp ?_ (.g ?_ (aX _ ?_)))
  λh5=>aX _ ?_)
  λk14 eW=> .c (λ_=>eW _)
  λ_=>eW _)
  λk11 fW=> .c (λh7=> .b (zhm ?_) λr12 QX=> .g ?_ (fW _ ?_))
  λh7=>fW _ ?_)
  λk9 KX=> .c (λ_=>KX _)
  λ_=>KX _)
  λh3=> .c (λh9=> .b (zac ?_ ?_) λr18 AZ=> .g ?_ (.g ?_ (.s ?_)))
  λh9=> .b (zgS ?_) λr20 C0=> .b zgO λr21 _=> .c (λmW=> .s ?_)
  λmW=> .j (λy22:Ae=>wt y22≤wt a0∧y22.Id=a0.Id) (λy22 F6=> .b (zg3 ?_) λr25 D0=> .j (λy26:(List Ab)×(List Ad)×Ae=>y26.1.length≤1∧wt y26.1≤400∧wt y26.2.1≤2000∧wt y26.2.2≤wt a0∧y26.2.2.Id=a0.Id) (λy26 z4=> .s ?_)
  λk27 GX=> .c (λGW=> .g ?_ (.b (zL ?_ ?_) λr28 C6=> .g ?_ (GX _ ?_)))
  λGW=>GX _ ?_)
  λk23 wY=> .c (λIW=> .b DV λr24 _=>wY _ ?_)
  λIW=>wY _ ?_)
  λk3 JV=> .b (oN ?_) λr4 SV=> .c (λ_=>JV _ nofun)
  λSW=>have i14:=SV (nf SW); .c (λ_=>JV _ nofun)
  λiY=>JV _ λq16=>?_)
 all_goals (try simp only[NB]at *)<;>(try simp(disch:=omega) only[DA,SA]at *)<;>omega
def zpM{a0 a1}(ha:wt a0≤1000000000):Ok (Bp a0 a1) λr=>wt r≤wt a0∧r.Id=a0.Id:=by
 unfold Bp
 refine .cp ?_ (.jt (λy2=> .j (λy5:Ae=>wt y5≤wt a0∧y5.Id=a0.Id) (λy5 A6=> .s ?_)
  λk6 EW=> .c (λh1=>EW _ ?_)
  λh1=>EW _ ?_)
  λk3 JV=> .b (oN ?_) λr4 SV=> .c (λ_=>JV _)
  λ_=>JV _)
 all_goals (try simp only[NB]at *)<;>omega
def zpA{a0}(ha:wt a0≤1000000000):Ok (Ht a0) λr=>wt r.1≤wt a0∧r.1.Id=a0.Id∧wt r.2≤500:=by
 unfold Ht
 refine .b (oN ?_) λr1 QV=> .c (λh1=> .cp ?_ (.s ?_))
  λh1=>have i2:=QV (nf h1); .c (λh3=> .b (zac ?_ ?_) λr3 pW=> .g ?_ (.s ?_))
  λh3=> .b (zac ?_ ?_) λr5 RV=> .s ?_
 all_goals (try simp only[NB]at *)<;>omega
def zm3{a0 a1 a2}(ha:wt a0≤1000000000)(hb:wt a2≤1000000000):Ok (Hq a0 a1 a2) λr=>wt r.1≤wt a0+2000∧r.1.Id=a0.Id∧r.2.1.length≤1∧wt r.2.1≤400∧wt r.2.2≤8000:=by
 unfold Hq
 refine .cp ?_ (.j (λy2:Bool=>y2=false→CF a0∧wt a2≤112) (λy2 rW=> .c (λh1=> .s ?_)
  λh1=>have i2:=rW h1; .jt (λy5=> .c (λh3=> .b (znN ?_) λr8 QW=> .b (zgY ?_ ?_) λr9 FX=> .b (zhc ?_ ?_) λr10 uW=> .b DV λr11 _=> .g ?_ (.g ?_ (.g ?_ (.b zdz λr13 CZ=> .b (zdx ?_ ?_ ?_) λr14 UY=> .b (zef ?_ ?_) λr15 cY=> .g ?_ (.cp ?_ (.g ?_ (.s ?_)))))))
  λh3=> .jt (λy17=> .c (λh4=> .s ?_)
  λh4=> .b (zgR ?_ ?_) λr19 BZ=> .c (λh5=> .s ?_)
  λh5=> .b (zhq ?_) λr20 C0=> .b (UM ?_) λr21 S1=> .b (zaG ?_ ?_ ?_) λr22 mX=> .g ?_ (.j (λy23:(List Ad)×Ae=>wt y23.1≤2000∧wt y23.2≤wt a0+1000∧y23.2.Id=a0.Id) (λy23 A4=> .j (λy26:(List Ad)×Ae=>wt y26.1≤3000∧wt y26.2≤wt a0+1000∧y26.2.Id=a0.Id) (λy26 z4=> .j (λy29:(List Ad)=>wt y29≤4000) (λy29 hy29=> .j (λy32:(List Ab)×(List Ad)×Ae=>y32.1.length≤1∧wt y32.1≤400∧wt y32.2.1≤8000∧wt y32.2.2≤wt a0+2000∧y32.2.2.Id=a0.Id) (λy32 G6=> .s ?_)
  λk33 xY=> .c (λh6=> .b (kP ?_ ?_) λr34 H6=> .j (λy35:(List Ab)×(List Ad)×Ae=>y35.1.length≤1∧wt y35.1≤400∧wt y35.2.1≤8000∧wt y35.2.2≤wt a0+2000∧y35.2.2.Id=a0.Id) (λy35 hy35=>xY _ ?_)
  λk36 VY=> .c (λh7=> .g ?_ (.b (zL ?_ ?_) λr37 I6=> .g ?_ (.g ?_ (.g ?_ (.g ?_ (VY _ ?_))))))
  λh7=>VY _ ?_)
  λh6=>xY _ ?_)
  λk30 G0=> .c (λh8=> .g ?_ (.g ?_ (.g ?_ (G0 _ ?_))))
  λh8=>G0 _ ?_)
  λk27 GX=> .c (λh9=> .g ?_ (.g ?_ (.g ?_ (GX _ ?_))))
  λh9=>GX _ ?_)
  λk24 bX=> .c (λmW=> .g ?_ (.g ?_ (.g ?_ (.g ?_ (bX _ ?_)))))
  λmW=>bX _ ?_))
  λk18 cX=> .c (λ_=>cX _)
  λ_=>cX _)
  λk6 EW=> .c (λIW=> .c (λSW=> .b (EU ?_) λr7 FW=>EW _)
  λ_=>EW _)
  λ_=>EW _)
  λk3 JV=> .b (oN ?_) λr4 SV=> .c (λ_=>JV _ nofun)
  λgY=>have i15:=SV (nf gY); .c (λ_=>JV _ nofun)
  λoY=>JV _ λq17=>have f18:=jD (nf q17);?_)
 all_goals (try simp only[NB]at *)<;>omega
end Go.D
namespace Go.D
def zh2{a0}(ha:wt a0≤1000000000):Ok (Fe a0) λr=>wt r≤wt a0:=by
 unfold Fe
 refine .b (OR ?_) λr1 QV=> .c (λh1=> .cp ?_ (.s ?_))
  λh1=>have i2:=QV (nf h1); .g ?_ (.g ?_ (.s ?_))
 all_goals (try simp only[NB]at *)<;>omega
def znS{a0}:Ok (Cv a0) λr=>wt r≤0:=by
 unfold Cv;refine .s ?_
 all_goals (try simp only[NB]at *)<;>omega
def zoi{a0 a1 a2 a3}(ha:wt a3≤1000000000):Ok (Hg a0 a1 a2 a3) λr=>wt r≤400:=by
 unfold Hg
 refine .j (λy1:Bool=>y1=false→wt a3≤112) (λy1 ZV=> .c (λh1=> .s ?_)
  λh1=>have i2:=ZV h1; .g ?_ (.g ?_ (.b (zgY ?_ ?_) λr3 pW=> .b (zhc ?_ ?_) λr4 SV=> .b znS λr5 RV=> .s ?_)))
  λk2 IV=> .c (λ_=>IV _ nofun)
  λh3=>have f4:=ZK (nf h3); .c (λ_=>IV _ nofun)
  λh5=> .c (λ_=>IV _ nofun)
  λh6=>have f7:=rF (nf h6); .c (λ_=>IV _ nofun)
  λh8=>have f9:=jD (nf h8);IV _ λq10=>?_
 all_goals (try simp only[NB]at *)<;>omega
def zof{a0 a1}(ha:wt a0≤1000000000)(hb:wt a1≤1000000000):Ok (Bl a0 a1) λr=>wt r.1≤wt a0+wt a1+1∧(r.2=0→0<r.1.L.length)∧r.1.L.length≤a0.L.length+1:=by
 unfold Bl
 refine .cp ?_ (.jt (λy2=> .c (λh1=> .s ?_)
  λh1=> .b (zbE ?_) λr6 vW=> .c (λh2=> .s ?_)
  λh2=> .jt (λy7=> .c (λh3=> .s ?_)
  λh3=> .cp ?_ (.g ?_ (.s ?_)))
  λk8 qW=> .b (zt3 ?_) λr9 FX=> .c (λ_=>qW _)
  λ_=>qW _)
  λk3 JV=> .b (zjL ?_) λr4 SV=> .c (λ_=>JV _)
  λh5=>have i6:=SV (nf h5); .b (OR ?_) λr5 RV=> .c (λ_=>JV _)
  λ_=>JV _)
 all_goals (try simp only[NB]at *)<;>omega
def zn0{a0}(ha:wt a0≤1000000000):Ok (Hh a0) λr=>wt r.1≤wt a0∧r.2.1.length≤1∧wt r.2.1≤400∧wt r.2.2≤600:=by
 unfold Hh
 refine .cp ?_ (.j (λy2:Bool=>y2=false→wt a0≤235) (λy2 rW=> .c (λh1=> .s ?_)
  λh1=>have i2:=rW h1; .b (ziG ?_) λr5 RV=> .c (λh3=> .s ?_)
  λh3=> .b (zL ?_ ?_) λr6 vW=> .s ?_)
  λk3 JV=> .b (OR ?_) λr4 SV=> .c (λ_=>JV _ nofun)
  λh4=>have i5:=SV (nf h4); .c (λ_=>JV _ nofun)
  λh6=>JV _ λq7=>?_)
 all_goals (try simp only[NB]at *)<;>omega
def znI{a0 a1}(ha:wt a0≤1000000000)(hb:wt a1≤1000000000):Ok (Gr a0 a1) λr=>wt r.1≤wt a0∧r.2.1.length≤1∧wt r.2.1≤400∧wt r.2.2.1≤2000:=by
 unfold Gr
 refine .cp ?_ (.j (λy2:Bool=>y2=false→wt a0≤235∧a1.length≤40) (λy2 rW=> .c (λh1=> .s ?_)
  λh1=>have i2:=rW h1; .c (λh3=> .s ?_)
  λh3=> .b (kP ?_ ?_) λr5 RV=> .c (λh4=> .s ?_)
  λh4=> .g ?_ (.g ?_ (.b (zL ?_ ?_) λr6 vW=> .s ?_)))
  λk3 JV=> .b (OR ?_) λr4 SV=> .c (λ_=>JV _ nofun)
  λh5=>have i6:=SV (nf h5);JV _ λq7=>?_)
 all_goals (try simp only[NB]at *)<;>omega
def znM{a0 a1}(ha:wt a0≤1000000000):Ok (Gu a0 a1) λr=>wt r≤wt a0+1600:=by
 unfold Gu
 refine .cp ?_ (.jt (λy2=> .c (λh1=> .s ?_)
  λh1=> .c (λh2=> .b (zh2 ?_) λr5 RV=> .s ?_)
  λh2=> .b (zgS ?_) λr6 vW=> .b (zg1 ?_) λr7 FW=> .s ?_)
  λk3 JV=> .b (OR ?_) λr4 SV=> .c (λ_=>JV _)
  λh3=>have i4:=SV (nf h3); .c (λ_=>JV _)
  λ_=>JV _)
 all_goals (try simp only[NB]at *)<;>(try simp(disch:=omega) only[DA,SA]at *)<;>omega
def znP{a0 a1 a2 a3 a4}(ha:wt a0≤1000000000)(hb:wt a3≤1000000000)(hc:wt a4≤1000000000):Ok (Hm a0 a1 a2 a3 a4) λr=>wt r.1≤wt a0+5000∧r.2.1.length≤2∧wt r.2.1≤1000∧wt r.2.2.1≤10000:=by
 unfold Hm
 refine .cp ?_ (.j (λy2:Bool=>y2=false→wt a0≤235) (λy2 rW=> .c (λh1=> .s ?_)
  λh1=>have i2:=rW h1; .b (zgR ?_ ?_) λr5 RV=> .c (λh3=> .s ?_)
  λh3=> .b (zhq ?_) λr6 vW=> .b (UM ?_) λr7 FW=> .b (zaG ?_ ?_ ?_) λr8 QW=> .g ?_ (.j (λy9:(List Aq)×(List Ad)×Ai=>y9.1.length≤1∧wt y9.1≤400∧wt y9.2.1≤4000∧wt y9.2.2≤wt a0+3000) (λy9 z1=> .b (zoT ?_ ?_) λr30 B4=> .b (kP ?_ ?_) λr31 J6=> .jt (λy32=> .c (λh4=> .s ?_)
  λh4=> .g ?_ (.b (zL ?_ ?_) λr34 H6=> .g ?_ (.s ?_)))
  λk33 xY=> .c (λ_=>xY _)
  λ_=>xY _)
  λk10 bW=> .c (λh6=> .g ?_ (.g ?_ (.g ?_ (bW _ ?_))))
  λh6=> .j (λy12:(List Aq)×(List Ad)×Ai=>y12.1.length≤1∧wt y12.1≤400∧wt y12.2.1≤4000∧wt y12.2.2≤wt a0+3000) (λy12 tY=>bW _ ?_)
  λk13 gW=> .c (λh7=> .b (zoK ?_ ?_) λr14 UY=> .j (λy15:(List Ad)×Ai=>wt y15.1≤4000∧wt y15.2≤wt a0+3000) (λy15 F0=>gW _ ?_)
  λk16 aX=> .c (λh8=> .g ?_ (.g ?_ (.g ?_ (aX _ ?_))))
  λh8=>aX _ ?_)
  λh7=> .j (λy18:(List Aq)×(List Ad)×Ai=>y18.1.length≤1∧wt y18.1≤400∧wt y18.2.1≤4000∧wt y18.2.2≤wt a0+3000) (λy18 C4=>gW _ ?_)
  λk19 pX=> .c (λh9=> .b (znb ?_ ?_) λr20 C0=> .j (λy21:(List Aq)×(List Ad)×Ai=>y21.1.length≤1∧wt y21.1≤400∧wt y21.2.1≤4000∧wt y21.2.2≤wt a0+3000) (λy21 hy21=>pX _ ?_)
  λk22 HX=> .c (λmW=> .j (λy23:(List Ad)=>wt y23≤2000) (λy23 A4=> .b (ziG ?_) λr26 yY=> .j (λy27:(List Aq)×(List Ad)×Ai=>y27.1.length≤1∧wt y27.1≤400∧wt y27.2.1≤4000∧wt y27.2.2≤wt a0+3000) (λy27 hy27=>HX _ ?_)
  λk28 zY=> .c (λGW=> .g ?_ (.b (zL ?_ ?_) λr29 D4=> .g ?_ (zY _ ?_)))
  λGW=>zY _ ?_)
  λk24 bX=> .c (λIW=> .g ?_ (.g ?_ (.g ?_ (bX _ ?_))))
  λIW=>bX _ ?_)
  λmW=>HX _ ?_)
  λh9=>pX _ ?_))
  λk3 JV=> .b (OR ?_) λr4 SV=> .c (λ_=>JV _ nofun)
  λSW=>have i14:=SV (nf SW); .c (λ_=>JV _ nofun)
  λiY=>JV _ λq16=>have f17:=rF (nf q16);?_)
 all_goals (try simp only[NB]at *)<;>omega
def zhB{a0}(ha:wt a0≤1000000000):Ok (Ff a0) λr=>wt r≤wt a0:=by
 unfold Ff;refine .g ?_ (.s ?_)
 all_goals (try simp only[NB]at *)<;>omega
def zn5{a0 a1}(ha:wt a0≤1000000000):Ok (Gv a0 a1) λr=>wt r≤wt a0+60000:=by
 unfold Gv;refine have hw:=QB a0.L;
 .j (λy1:Bool=>y1=false→wt a0≤2832∧a0.L.length≤12) (λy1 ZV=> .c (λh1=> .cp ?_ (.s ?_))
  λh1=>have i2:=ZV h1; .j (λy5:Ao=>wt y5≤60000) (λy5 A6=> .s ?_)
  λk6 EW=> .l (λx7:Int×Ao=>0≤x7.1∧x7.1≤(a0.L.length:Int)∧wt x7.2≤4500 *x7.1) (λx7:Int×Ao=>((a0.L.length:Int) - x7.1).toNat) (λx7 hx7 k8 qW=> .c (λh3=> .bi ?_ ?_ λe9 nZ bY=> .b (znM ?_) λr10 uW=> .jt (λy11=> .j (λy13:Ao=>wt y13≤4500 *x7.1+4500) (λy13 eY=>qW _ ?_ ?_)
  λk14 eW=> .c (λh4=> .g ?_ (eW _ ?_))
  λh4=>eW _ ?_)
  λk12 BW=> .c (λ_=>BW _)
  λ_=>BW _)
  λh3=>EW _ ?_) ?_ ?_)
  λk2 IV=> .b (zjL ?_) λr3 pW=> .c (λ_=>IV _ nofun)
  λh6=>have i7:=pW (nf h6);IV _ λq8=>?_
 all_goals (try simp only[NB]at *)<;>(try simp(disch:=omega) only[DA,SA]at *)<;>omega
def zm9{a0 a1 a2 a3}(ha:wt a0≤1000000000)(hb:wt a3≤1000000000):Ok (Gs a0 a1 a2 a3) λr=>wt r.1≤wt a0+4000∧r.2.1.length≤1∧wt r.2.1≤400∧wt r.2.2.1≤2000:=by
 unfold Gs;refine have hw:=QB a0.T.L;
 .cp ?_ (.j (λy2:Bool=>y2=false→SF a0) (λy2 rW=> .c (λh1=> .s ?_)
  λh1=>have i2:=rW h1; .c (λh3=> .s ?_)
  λh3=> .bi ?_ ?_ λe6 dY kX=> .b (znI ?_ ?_) λr7 FW=> .j (λy8:Ac=>wt y8≤wt a0+4000) (λy8 hy8=> .s ?_)
  λk9 KX=> .c (λh4=> .h ?_ (.bg ?_ λe10 SY XX=>KX _ (have:=wD a0.T.L a2.toNat r7.1;?_)))
  λh4=>KX _ ?_)
  λk3 JV=> .b (ST ?_) λr4 SV=> .c (λ_=>JV _ nofun)
  λh5=>have i6:=SV (nf h5);JV _ λq7=>?_)
 all_goals (try simp only[NB]at *)<;>(try simp(disch:=omega) only[DA,SA]at *)<;>omega
def zmY{a0 a1}(ha:wt a0≤1000000000):Ok (Gw a0 a1) λr=>wt r.1≤wt a0+60000∧wt r.2≤50000:=by
 unfold Gw;refine have hw:=QB a0.T.L;
 .cp ?_ (.j (λy2:Bool=>y2=false→SF a0) (λy2 rW=> .c (λh1=> .s ?_)
  λh1=>have i2:=rW h1; .b (zn5 ?_) λr5 RV=> .j (λy6:(List Ad)=>wt y6≤50000) (λy6 oZ=> .s ?_)
  λk7 wW=> .l (λx8:(List Ad)×Int=>0≤x8.2∧x8.2≤(a0.T.L.length:Int)∧wt x8.1≤3400 *x8.2) (λx8:(List Ad)×Int=>((a0.T.L.length:Int) - x8.2).toNat) (λx8 E6 k9 KX=> .c (λh3=> .bi ?_ ?_ λe10 SY XX=> .b (zbE ?_) λr11 YW=> .jt (λy12=> .j (λy16:(List Ad)=>wt y16≤3400 *x8.2+3400) (λy16 E4=>KX _ ?_ ?_)
  λk17 lX=> .c (λh4=> .bi ?_ ?_ λe18 he18 K6=> .b (zhB ?_) λr19 BZ=> .g ?_ (lX _ ?_))
  λh4=>lX _ ?_)
  λk13 gW=> .bi ?_ ?_ λe14 E0 pZ=> .c (λh5=> .c (λ_=>gW _)
  λh6=> .h ?_ (.bg ?_ λe15 AY BY=>gW _))
  λ_=>gW _)
  λh3=>wW _ ?_) ?_ ?_)
  λk3 JV=> .b (ST ?_) λr4 SV=> .c (λ_=>JV _ nofun)
  λh7=>have i8:=SV (nf h7);JV _ λq9=>?_)
 all_goals (try simp only[NB]at *)<;>(try simp(disch:=omega) only[DA,SA]at *)<;>omega
def zoA{a0 a1}(ha:wt a0≤1000000000)(hb:wt a1≤3000)(hc:a1.length≤3):Ok (Hn a0 a1) λr=>r.1.length≤3∧wt r.1≤9100∧wt r.2≤wt a0:=by
 unfold Hn
 refine .j (λy1:(List Aq)×Ac=>y1.1.length≤3∧wt y1.1≤9100∧wt y1.2≤wt a0) (λy1 ZV=> .s ?_)
  λk2 IV=> .l (λx3:(List Aq)×Int×Ac=>0≤x3.2.1∧x3.2.1≤(a1.length:Int)∧(x3.1.length:Int)≤x3.2.1∧wt x3.1≤3001 *x3.2.1∧wt x3.2.2≤wt a0) (λx3:(List Aq)×Int×Ac=>((a1.length:Int) - x3.2.1).toNat) (λx3 WX k4 iW=> .c (λh1=> .j (λy5:(List Aq)×Ac=>(y5.1.length:Int)≤x3.2.1+1∧wt y5.1≤3001 *x3.2.1+3001∧wt y5.2≤wt a0) (λy5 A6=>iW _ ?_ ?_)
  λk6 EW=> .bi ?_ ?_ λe7 MZ uY=> .b (zhY ?_) λr8 _=> .j (λy9:Ac=>wt y9≤wt a0) (λy9 z1=> .bi ?_ ?_ λe15 AY BY=> .g ?_ (EW _ ?_))
  λk10 bW=> .c (λh2=> .bi ?_ ?_ λe11 he11 D6=> .bi ?_ ?_ λe12 he12 he12w=> .b (zot ?_) λr13 _=> .b (zpe ?_) λr14 UY=> .c (λh3=>EW _ ?_)
  λh3=>bW _ ?_)
  λh2=>bW _ ?_)
  λh1=>IV _ ?_) ?_ ?_
 all_goals (try simp only[NB]at *)<;>(try simp(disch:=omega) only[DA,SA]at *)<;>omega
def zpO{a0}(ha:wt a0≤1000000000):Ok (Hs a0) λr=>wt r.1≤wt a0+100∧wt r.2≤200:=by
 unfold Hs
 refine .cp ?_ (.j (λy2:Bool=>y2=false→SF a0) (λy2 rW=> .c (λh1=> .s ?_)
  λh1=>have i2:=rW h1; .b (zcv ?_) λr5 RV=>have hj:=uU r5.2;have ht:=zeE a0.T.Cap;have hn:wt (xE r5.2)=wt r5.2:=(by simp only[xE,dK,zE,FA,List.length_nil];omega); .m (zag ?_) (.g ?_ (.s ?_)))
  λk3 JV=> .b (ST ?_) λr4 SV=> .c (λ_=>JV _ nofun)
  λh3=>have i4:=SV (nf h3);JV _ λq5=>?_)
 all_goals (try simp only[NB]at *)<;>omega
def zmI{a0 a1}(ha:wt a0≤1000000000):Ok (Hu a0 a1) λr=>wt r.1≤wt a0+4000∧wt r.2.1≤4000:=by
 unfold Hu;refine have hw:=QB a0.T.L;
 .cp ?_ (.b (ST ?_) λr2 DW=> .c (λh1=> .s ?_)
  λh1=>have i2:=DW (nf h1); .j (λy3:Bool=>y3=false→0≤a1∧a1<(a0.T.L.length:Int)) (λy3 z6=> .c (λh3=> .s ?_)
  λh3=>have i4:=z6 h3; .bi ?_ ?_ λe7 MZ uY=> .b (zh2 ?_) λr8 QW=> .h ?_ (.bg ?_ λe9 nZ bY=> .bi ?_ ?_ λe10 SY XX=> .b (zhB ?_) λr11 YW=> .s (have:=wD a0.T.L a1.toNat r8;?_)))
  λk4 iW=> .c (λ_=>iW _ nofun)
  λh5=> .bi ?_ ?_ λe6 dY kX=>iW _ λq6=>?_)
 all_goals (try simp only[NB]at *)<;>(try simp(disch:=omega) only[DA,SA]at *)<;>omega
def zmZ{a0 a1 a2 a3}(ha:wt a0≤1000000000)(hb:wt a3≤900000000):Ok (Ho a0 a1 a2 a3) λr=>wt r.1≤wt a0+50000∧r.2.1.length≤3∧wt r.2.1≤9100∧wt r.2.2≤20000:=by
 unfold Ho
 refine .cp ?_ (.j (λy2:Bool=>y2=false→SF a0) (λy2 rW=> .c (λh1=> .s ?_)
  λh1=>have i2:=rW h1; .b (zpy ?_) λr5 RV=> .b (zgX ?_) λr6 vW=> .c (λh3=> .s ?_)
  λh3=> .j (λy7:(List Aq)×(List Ad)×Ac×Ac=>y7.1.length≤3∧wt y7.1≤2000∧wt y7.2.1≤20000∧wt y7.2.2.1≤wt a0+50000) (λy7 IY=> .b (zoA ?_ ?_ ?_) λr65 hr65=> .s ?_)
  λk8 qW=> .c (λh4=> .jt (λy9=> .c (λh5=> .s ?_)
  λh5=> .b (zcv ?_) λr12 QX=>have hn:wt (xE r12.2)=wt r12.2:=(by simp only[xE,dK,zE,FA,List.length_nil];omega); .g ?_ (.b (zii ?_ ?_) λr13 CZ=> .m (zag ?_) (.b (zdF ?_ ?_) λr15 cY=> .b (zef ?_ ?_) λr16 TX=> .g ?_ (.g ?_ (qW _ ?_)))))
  λk10 bW=> .c (λ_=>bW _)
  λh6=> .b (zhs ?_) λr11 _=> .c (λ_=>bW _)
  λ_=>bW _)
  λh4=> .j (λy18:(List Aq)×(List Ad)×Ac×Ac=>y18.1.length≤3∧wt y18.1≤2000∧wt y18.2.1≤20000∧wt y18.2.2.2≤wt a0+50000) (λy18 C4=>qW _ ?_)
  λk19 pX=> .c (λh8=> .j (λy20:Bool=>y20=false→1≤r6.1.Id∧r6.1.Id≤(a0.Psks.length:Int)) (λy20 hy20=> .c (λh9=> .s ?_)
  λh9=>have i10:=hy20 h9; .b (zbE ?_) λr25 D0=> .j (λy26:(List Ad)×Int×Ac×Ac=>wt y26.1≤8000∧wt y26.2.2.2≤wt a0+10000∧0≤y26.2.1∧y26.2.1<(y26.2.2.2.T.L.length:Int)) (λy26 z4=> .h ?_ (.bg ?_ λe38 he38 he38w=> .jt (λy39=> .j (λy42:(List Aq)×(List Ad)×Ac=>y42.1.length≤3∧wt y42.1≤1000∧wt y42.2.1≤15000∧wt y42.2.2≤wt a0+40000) (λy42 T1=>pX _ ?_)
  λk43 IX=> .c (λGW=> .b (zn0 ?_) λr44 F4=> .h ?_ (.bg ?_ λe45 he45 he45w=> .g ?_ (.g ?_ (IX _ (have:=wD y26.2.2.2.T.L y26.2.1.toNat r44.1;?_)))))
  λGW=>IX _ ?_)
  λk40 DZ=> .c (λIW=> .c (λSW=> .b (EU ?_) λr41 U1=>DZ _)
  λ_=>DZ _)
  λ_=>DZ _))
  λk27 GX=> .c (λgY=> .bi ?_ ?_ λe28 he28 L6=> .b (zoi ?_) λr29 D4=> .b (zof ?_ ?_) λr30 B4=>have hl:=QB r30.1.L; .c (λiY=> .s ?_)
  λiY=> .b (zdF ?_ ?_) λr31 J6=> .b (zaG ?_ ?_ ?_) λr32 hr32=> .g ?_ (.bi ?_ ?_ λe33 he33 he33w=> .b zdz λr34 H6=> .b (zdx ?_ ?_ ?_) λr35 M6=> .b (zaG ?_ ?_ ?_) λr36 hr36=> .g ?_ (.g ?_ (.g ?_ (.g ?_ (.g ?_ (GX _ ?_)))))))
  λgY=>GX _ ?_)
  λk21 CY=> .b (zoS ?_) λr22 mX=> .c (λ_=>CY _ nofun)
  λoY=> .c (λ_=>CY _ nofun)
  λYY=> .bi ?_ ?_ λe23 he23 N6=> .b (zoh ?_) λr24 _=>CY _ λq18=>?_)
  λh8=> .j (λy46:(List Aq)×(List Ad)×Ac×Ac=>y46.1.length≤3∧wt y46.1≤2000∧wt y46.2.1≤20000∧wt y46.2.2.2≤wt a0+50000) (λy46 hy46=>pX _ ?_)
  λk47 H0=> .c (λqZ=> .b (zbE ?_) λr48 hr48=> .j (λy49:Bool=>y49=false→0≤r48) (λy49 O6=> .c (λrZ=> .s ?_)
  λrZ=>have i21:=O6 rZ; .b (zcv ?_) λr52 hr52=> .b (zhs ?_) λr53 _=> .j (λy54:(List UInt8)=>y54.length≤32) (λy54 hy54=>have hn:wt (xE y54)=wt y54:=(by simp only[xE,dK,zE,FA,List.length_nil];omega); .bi ?_ ?_ λe56 he56 P6=> .b (znP ?_ ?_ ?_) λr57 hr57=> .h ?_ (.bg ?_ λe58 he58 Q6=> .g ?_ (.j (λy59:(List Ad)×Ac=>wt y59.1≤200∧wt y59.2≤wt a0+40000) (λy59 hy59=> .g ?_ (.j (λy62:(List Ad)=>wt y62≤20000) (λy62 hy62=>H0 _ ?_)
  λk63 R6=> .c (λB1=> .g ?_ (.g ?_ (.g ?_ (R6 _ ?_))))
  λB1=>R6 _ ?_))
  λk60 S6=> .c (λOZ=> .m (zag ?_) (.g ?_ (S6 _ (have:=wD a0.T.L r48.toNat r57.1;?_))))
  λOZ=>S6 _ (have:=wD a0.T.L r48.toNat r57.1;?_))))
  λk55 T6=> .c (λC1=>T6 _ ?_)
  λC1=>T6 _ ?_)
  λk50 I0=> .c (λ_=>I0 _ nofun)
  λL4=> .bi ?_ ?_ λe51 he51 he51w=>I0 _ λq26=>?_)
  λqZ=>H0 _ ?_)
  λk3 JV=> .b (ST ?_) λr4 SV=> .c (λ_=>JV _ nofun)
  λX4=>have i28:=SV (nf X4); .c (λ_=>JV _ nofun)
  λV7=>JV _ λq30=>have f31:=rF (nf q30);?_)
 all_goals (try simp only[NB]at *)<;>(try simp(disch:=omega) only[DA,SA]at *)<;>omega
end Go.D
namespace Go.D
def zgB{α:Type}[Wt α](l:List α)(i:Nat):Nat:=match l[i]? with
 | some c=>wt c
 | none=>0
def eO{α:Type}[Wt α]{l:List α}{i:Nat}{x:α}(h:l[i]?=some x):zgB l i=wt x:=by unfold zgB;rw[h]
def mU{α:Type}[Wt α]{x y:α}:∀{l:List α} {i:Nat},l[i]?=some y→wt (l.set i x)+wt y=wt l+wt x
 | [],_,h=>by simp at h
 | z :: l,0,h=>by
  rw[List.getElem?_cons_zero]at h;cases h;rw[List.set_cons_zero,VC,VC];omega
 | z :: l,i+1,h=>by
  rw[List.getElem?_cons_succ]at h;have:=mU (x:=x) h;rw[List.set_cons_succ,VC,VC];omega
def fM{e:Aj}(h:PF e=true):1≤e.Kind∧e.Kind≤17∧0≤e.I∧0≤e.J∧0≤e.N∧e.B.length≤200∧e.Ops.length≤16:=by
 simp only[PF,Bool.and_eq_true,uB,decide_eq_true_eq]at h;omega
def zuF{b:List UInt8}{f n:Int}(h:b.length≤bA):Ok (mJ b f n) λr=>r.1.length≤b.length:=LF (by rw[FA];exact h) (by
 unfold cut;cases decide (f<0)||(decide (n<0)||(decide (f>(b.length:Int))||decide (n>(b.length:Int) - f)))
 ·rw[cond_false];simp only[List.length_take,List.length_drop];omega
 ·exact Nat.zero_le _)
def zo2(b:List UInt8)(f n:Int)(h:wt b≤bA)(hf:oE .i64 f)(hn:oE .i64 n):Mx b f n=some (cut b f n):=by
 have hl:b.length≤bA:=by rw[←FA];exact h
 have hL:=mB;have hf:=eS hf;have hn:=eS hn;simp only[Mx,aA,cut,List.nil_append]
 by_cases h2:n<0
 ·rw[decide_eq_true h2];cases decide (f<0)<;>rfl
 by_cases h1:f<0
 ·rw[decide_eq_false h2,decide_eq_true h1];rfl
 by_cases h3:n>(b.length:Int)
 ·have h4:(decide (f>(b.length:Int))||decide (n>(b.length:Int) - f))=true:=by simp;omega
  rw[decide_eq_false h2,decide_eq_false h1,decide_eq_true h3,h4];rfl
 have e:qA .i64 (b.length:Int) n=(b.length:Int) - n:=by rw[qA,IB (by omega) (by omega)]
 rw[e]
 by_cases h4:f>(b.length:Int) - n
 ·have h5:(decide (f>(b.length:Int))||decide (n>(b.length:Int) - f))=true:=by simp;omega
  rw[decide_eq_false h2,decide_eq_false h1,decide_eq_false h3,decide_eq_true h4,h5];rfl
 have e2:gA .i64 f n=f+n:=by rw[gA,IB (by omega) (by omega)]
 have e3:(decide (0≤f)&&decide (f≤f+n)&&decide (f+n≤(b.length:Int)))=true:=by simp;omega
 have h5:(decide (f>(b.length:Int))||decide (n>(b.length:Int) - f))=false:=by simp;omega
 rw[decide_eq_false h1,decide_eq_false h2,decide_eq_false h3,decide_eq_false h4,h5];simp only[cond_false,e2];rw[e3,show f+n - f=n by omega];have:((b.drop f.toNat).take n.toNat).length≤bA:=by rw[List.length_take,List.length_drop];omega
 rw[List.length_nil,Nat.zero_add,decide_eq_true this];rfl
def jS.ok{x}(hb:xA [.sl .byte, .v .int, .v .int] x){r}:mJ x.1 x.2.1 x.2.2=some r→Mx x.1 x.2.1 x.2.2=some r:=OA λh=>
 zo2 x.1 x.2.1 x.2.2 h (ZN hb.2.1 0 (by decide) rfl) (ZN hb.2.2 0 (by decide) rfl)
end Go.D

/-
 The reference's machine comes to an end, and what it gives is small.
-/
import Derived.Test.YthmhafeaiaigoaaGreatN8
set_option linter.all false
namespace Go.D
def za1{a0 a1 a2 a3}(ha:wt a1≤1000000000):Ok (Cb a0 a1 a2 a3) λr=>r.length≤40∧(0<r.length→a1.length=12):=by
 unfold Cb
 refine .j (λy1:Bool=>y1=false→a1.length=12) (λy1 mW=> .c (λh1=> .s ?_)
  λh1=>have i2:=mW h1; .g ?_ (.b (HG ?_) λr3 tW=> .b (HG ?_) λr4 VV=> .s ?_))
  λk2 JV=> .c (λ_=>JV _ nofun)
  λh3=> .c (λ_=>JV _ nofun)
  λh4=> .c (λ_=>JV _ nofun)
  λh5=>JV _ λq6=>?_
 all_goals (try simp only[NB]at *)<;>omega
def zqo{a0 a1 a2}(ha:wt a1≤1000000000):Ok (Gp a0 a1 a2) λr=>r.length≤32∧(0≤a2∧a2≤6∧a1.length≤100∧a0.length≤1048576→r.length=32):=by
 try simp only[N]at ha
 have hL:=GB;unfold Gp;refine Ok.join (λy1:Bool=>(y1=true∧¬(0≤a2∧a2≤6∧a1.length≤100))∨(y1=false∧a1.length≤100)) (λy1 mW=>?_) (λk2 JV=>?_)
 ·rcases mW with⟨rfl,h⟩ | ⟨rfl,h⟩
  ·exact Ok.some' ⟨Nat.zero_le _,λk=>absurd ⟨k.1,k.2.1,k.2.2.1⟩ h⟩
  ·refine Ok.guard ?_ ?_
   ·simp only[N];omega
   refine Ok.bind (HG ?_) (λr3 tW=>?_)
   ·simp only[N];omega
   simp only[N]at tW;exact Ok.some' ⟨qL _ _,λk=>EH k.2.2.2 (by omega)⟩
 refine Ok.cond' (λh2=>?_) (λh2=>?_)
 ·simp only[B]at h2;exact JV _ (.inl ⟨rfl,λk=>h2 ⟨k.1,k.2.1⟩⟩)
 ·simp only[B]at h2;refine JV _ ?_
  by_cases h:(a1.length:Int)>100
  ·exact .inl ⟨decide_eq_true h,λk=>by omega⟩
  ·exact .inr ⟨decide_eq_false h,by omega⟩
def ziV{a0 a1 a2}(ha:wt a1≤1000000000):Ok (Fb a0 a1 a2) λr=>r.length≤200∧(0≤a2∧a2≤200∧a1.length≤100∧a0.length≤1048576→(r.length:Int)=a2):=by
 have hL:=GB;unfold Fb;refine Ok.join (λy1:Bool=>(y1=true∧¬(0≤a2∧a2≤200∧a1.length≤100∧a0.length≤1048576))∨(y1=false∧(0≤a2∧a2≤200∧a1.length≤100∧a0.length≤1048576))) (λy1 mW=>?_) (λk2 JV=>?_)
 ·rcases mW with⟨rfl,h⟩ | ⟨rfl,h⟩
  ·exact Ok.some' ⟨Nat.zero_le _,λk=>absurd k h⟩
  ·rw[cond_false];refine Ok.join (λy3:List UInt8=>a2≤(y3.length:Int)∧y3.length≤1000) (λy3 OY=>?_) (λk4 TV=>?_)
   ·refine Ok.chk ?_ ?_
    ·simp only[B];omega
    refine Ok.guard ?_ ?_
    ·simp only[N];omega
    refine Ok.some' ?_;simp only[N];omega
   refine Ok.loop (λx5:(List UInt8)×Int=>0≤x5.2∧x5.2≤7∧(x5.1.length:Int)=32 *x5.2) (λx5=>(7 - x5.2).toNat) (λx5 hx5 k6 OW=>?_) ?_ ?_
   ·refine Ok.cond' (λh1=>?_) (λh1=>?_)
    ·simp only[B]at h1;refine Ok.bind (zqo ha) (λr7 IW=>?_);have h7:r7.length=32:=IW.2 (by omega);refine Ok.guard ?_ ?_
     ·simp only[N];omega
     have:=DA (a:=x5.2) (b:=1) (by omega) (by omega);refine OW _ ?_ ?_
     ·simp only[N];omega
     ·simp only[N];omega
    ·simp only[B]at h1;refine TV _ ?_;omega
   ·simp only[N];omega
   ·simp only[N];omega
 refine Ok.cond' (λh2=>?_) (λh2=>?_)
 ·simp only[B]at h2;exact JV _ (.inl ⟨rfl,λk=>h2 ⟨k.1,k.2.1⟩⟩)
 ·simp only[B]at h2;refine Ok.cond' (λh3=>?_) (λh3=>?_)
  ·simp only[B]at h3;exact JV _ (.inl ⟨rfl,λk=>by omega⟩)
  ·simp only[B]at h3;refine JV _ ?_
   by_cases h:(a0.length:Int)>1048576
   ·exact .inl ⟨decide_eq_true h,λk=>by omega⟩
   ·exact .inr ⟨decide_eq_false h,by omega⟩
def zfK{a0 a1 a2}(ha:wt a1≤1000000000)(hb:wt a2≤1000000000):Ok (Ea a0 a1 a2) λr=>r.length≤200:=by
 unfold Ea
 refine .j (λy1:Bool=>y1=false→a2.length≤200∧a1.length≤100∧a0.length≤1048576) (λy1 mW=> .c (λh1=> .s ?_)
  λh1=>have i2:=mW h1; .b (ziV ?_) λr3 tW=> .j (λy4:(List UInt8)=>y4.length≤200) (λy4 BY=> .s ?_)
  λk5 gW=> .l (λx6:(List UInt8)×Int=>0≤x6.2∧x6.2≤(a2.length:Int)∧(x6.1.length:Int)=x6.2) (λx6:(List UInt8)×Int=>((a2.length:Int) - x6.2).toNat) (λx6 b7 k7 UV=> .c (λh3=> .bi ?_ ?_ λe8 R3 Q2=> .h ?_ (.bg ?_ λe9 MZ CY=> .g ?_ (UV _ ?_ ?_)))
  λh3=>gW _ ?_) ?_ ?_)
  λk2 JV=> .c (λ_=>JV _ nofun)
  λh4=> .c (λ_=>JV _ nofun)
  λh5=>JV _ λq6=>?_
 all_goals (try simp only[NB]at *)<;>(try simp(disch:=omega) only[DA,JA]at *)<;>omega
def lN{a0 a1}(ha:wt a1≤1000000000):Ok (Bt a0 a1) λr=>r.length≤160:=by
 unfold Bt
 refine .j (λy1:Bool=>y1=false→wt a1≤112) (λy1 mW=> .c (λh1=> .s ?_)
  λh1=>have i2:=mW h1; .b (za1 ?_) λr3 tW=> .g ?_ (.g ?_ (.g ?_ (.s ?_))))
  λk2 JV=> .c (λ_=>JV _ nofun)
  λh3=> .c (λ_=>JV _ nofun)
  λh4=>have f5:=sD (nf h4);JV _ λq6=>?_
 all_goals (try simp only[NB]at *)<;>omega
def bV{a0 a1}:Ok (Cp a0 a1) λr=>r.length≤16:=by
 unfold Cp;refine have hm:=qL a0 a1;
 .c (λh1=> .s ?_)
  λh1=> .h ?_ (.g ?_ (.s ?_))
 all_goals (try simp only[NB]at *)<;>omega
def zft{a0 a1 a2 a3 a4 a5 a6}(ha:wt a0≤1000000000)(hb:wt a2≤1000000000)(hc:wt a6≤1000000000):Ok (Eb a0 a1 a2 a3 a4 a5 a6) λr=>(wt r.1≤300)∧(r.2=true→a2.length=12∧a0.length=32):=by
 unfold Eb
 refine .b (za1 ?_) λr1 OV=> .j (λy2:Bool=>y2=false→a2.length=12∧a0.length=32) (λy2 xW=> .c (λh1=> .s ⟨?_,nofun⟩)
  λh1=>have i2:=xW h1; .g ?_ (.b (zfK ?_ ?_) λr4 VV=> .j (λy5:Aa=>wt y5≤280) (λy5 d7=> .b (lN ?_) λr9 SW=> .b bV λr10 pW=> .s ⟨?_,λq3=>?_⟩)
  λk6 OW=> .l (λx7:Int×Aa=>0≤x7.1∧x7.1≤16∧x7.2.Tag.length=x7.1∧wt x7.2≤212+x7.1) (λx7:Int×Aa=>(16 - x7.1).toNat) (λx7 hx7 k8 sW=> .c (λh4=> .g ?_ (sW _ ?_ ?_))
  λh4=>OW _ ?_) ?_ ?_))
  λk3 KV=> .c (λ_=>KV _ nofun)
  λh5=> .c (λ_=>KV _ nofun)
  λh6=> .c (λ_=>KV _ nofun)
  λh7=>KV _ λq8=>?_
 all_goals (try simp only[NB]at *)<;>(try simp(disch:=omega) only[DA,JA]at *)<;>omega
def zrA{a0 a1 a2 a3 a4 a5 a6 a7}(ha:wt a0≤1000000000)(hb:wt a3≤1000000000)(hc:wt a7≤1000000000):Ok (Ja a0 a1 a2 a3 a4 a5 a6 a7) λr=>wt r≤1000:=by
 unfold Ja
 refine .b (zft ?_ ?_ ?_) λr1 ⟨OV,V4⟩=> .j (λy2:Bool=>y2=false→a3.length=12) (λy2 xW=> .c (λh1=> .s ?_)
  λh1=>have i2:=xW h1; .g ?_ (.b (HG ?_) λr4 VV=> .b (HG ?_) λr5 RV=> .b (lN ?_) λr6 vW=> .g ?_ (.s ?_)))
  λk3 KV=> .c (λ_=>KV _ nofun)
  λh3=>have i4:=V4 (nf h3);KV _ λq5=>?_
 all_goals (try simp only[NB]at *)<;>omega
def zeY{a0}(ha:wt a0≤1000000000):Ok (Bj a0) λr=>r.length≤200:=by
 unfold Bj
 refine .c (λh1=> .s ?_)
  λh1=>have f2:=sD (nf h1); .j (λy1:(List UInt8)=>y1.length≤200) (λy1 mW=> .s ?_)
  λk2 JV=> .c (λh3=> .g ?_ (.g ?_ (.j (λy4:(List UInt8)=>y4.length≤200) (λy4 BY=>JV _ ?_)
  λk5 gW=> .l (λx6:(List UInt8)×Int=>0≤x6.2∧x6.2≤20∧x6.1.length≤140+x6.2) (λx6:(List UInt8)×Int=>(20 - x6.2).toNat) (λx6 b7 k7 UV=> .c (λh4=> .g ?_ (UV _ ?_ ?_))
  λh4=>gW _ ?_) ?_ ?_)))
  λh3=> .j (λy8:(List UInt8)=>y8.length≤200) (λy8 O5=>JV _ ?_)
  λk9 bX=> .c (λh5=> .g ?_ (.g ?_ (.b (HG ?_) λr11 zW=> .g ?_ (bX _ ?_))))
  λh5=> .j (λy12:(List UInt8)=>y12.length≤200) (λy12 nY=>bX _ ?_)
  λk13 iW=> .c (λh6=> .g ?_ (.g ?_ (.g ?_ (.b (HG ?_) λr15 PW=> .g ?_ (.g ?_ (iW _ ?_))))))
  λh6=> .g ?_ (.b (HG ?_) λr17 YX=> .b (HG ?_) λr18 ZX=> .g ?_ (.g ?_ (iW _ ?_)))
 all_goals (try simp only[NB]at *)<;>(try simp(disch:=omega) only[DA,JA]at *)<;>omega
def zeZ{a0 a1 a2}(ha:wt a2≤1000000000):Ok (Ec a0 a1 a2) λr=>wt r≤200:=by
 unfold Ec;refine .b (zeY ?_) λr1 OV=> .s ?_
 all_goals (try simp only[NB]at *)<;>omega
def ze0{a0 a1}(ha:wt a0≤1000000000)(hb:wt a1≤1000000):Ok (Ed a0 a1) λr=>wt r≤201 *a1.length:=by
 unfold Ed;refine have hw:=FB a1;
 .j (λy1:(List Ap)=>wt y1≤201 *a1.length) (λy1 mW=> .s ?_)
  λk2 JV=> .l (λx3:(List Ap)×Int=>0≤x3.2∧x3.2≤(a1.length:Int)∧wt x3.1≤201 *x3.2) (λx3:(List Ap)×Int=>((a1.length:Int) - x3.2).toNat) (λx3 DY k4 TV=> .c (λh1=> .bi ?_ ?_ λe6 wY tX=> .b (zeZ ?_) λr7 IW=> .g ?_ (TV _ ?_ ?_))
  λh1=>JV _ ?_) ?_ ?_
 all_goals (try simp only[NB]at *)<;>(try simp(disch:=omega) only[DA,JA]at *)<;>omega
def ziN{a0}(ha:wt a0≤1000000):Ok (Fe a0) λr=>wt r≤201 *a0.length:=by
 unfold Fe;refine have hw:=FB a0;
 .j (λy1:(List Ap)=>wt y1≤201 *a0.length) (λy1 mW=> .s ?_)
  λk2 JV=> .l (λx3:(List Ap)×Int=>0≤x3.2∧x3.2≤(a0.length:Int)∧wt x3.1≤201 *x3.2) (λx3:(List Ap)×Int=>((a0.length:Int) - x3.2).toNat) (λx3 DY k4 TV=> .c (λh1=> .bi ?_ ?_ λe6 wY tX=> .bi ?_ ?_ λe7 YZ EY=> .b (zeZ ?_) λr8 BW=> .g ?_ (TV _ ?_ ?_))
  λh1=>JV _ ?_) ?_ ?_
 all_goals (try simp only[NB]at *)<;>(try simp(disch:=omega) only[DA,JA]at *)<;>omega
def zqZ{a0}(ha:wt a0≤1000000000):Ok (Em a0) λr=>True:=by
 unfold Em;refine .b (zeY ?_) λr1 OV=> .s trivial
 all_goals (try simp only[NB]at *)<;>omega
def zii{a0}(ha:wt a0≤900000000):Ok (Ef a0) λr=>wt r.1≤400:=by
 unfold Ef
 refine .c (λh1=> .s ?_)
  λh1=> .bi ?_ ?_ λe1 NY m7=> .j (λy3:Aa×Aa=>wt y3.2≤a0.length+100) (λy3 OY=> .b (zeY ?_) λr28 R2=> .e ?_ (.e ?_ (.c (λh2=> .s ?_)
  λh2=>have:=congrArg List.length (eq_of_beq (nf h2)); .s ?_)))
  λk4 TV=> .c (λh3=> .c (λh4=> .s ?_)
  λh4=> .bi ?_ ?_ λe5 CX uX=> .h ?_ (.g ?_ (TV _ ?_)))
  λh3=> .j (λy8:Aa×Aa=>wt y8.2≤a0.length+100) (λy8 O5=>TV _ ?_)
  λk9 bX=> .c (λh5=> .c (λh6=> .s ?_)
  λh6=> .h ?_ (.g ?_ (.h ?_ (.g ?_ (.b (zdG ?_) λr12 yW=> .h ?_ (.g ?_ (bX _ ?_)))))))
  λh5=> .j (λy14:Aa×Aa=>wt y14.2≤a0.length+100) (λy14 Z0=>bX _ ?_)
  λk15 QW=> .c (λh7=> .c (λh8=> .s ?_)
  λh8=> .bi ?_ ?_ λe16 sZ NZ=> .h ?_ (.g ?_ (.h ?_ (.g ?_ (.b (zdG ?_) λr20 FY=> .h ?_ (.g ?_ (.h ?_ (.g ?_ (QW _ ?_)))))))))
  λh7=> .c (λh9=> .s ?_)
  λh9=> .h ?_ (.g ?_ (.b (zdG ?_) λr24 vX=> .b (zdG ?_) λr25 wX=> .h ?_ (.g ?_ (.h ?_ (.g ?_ (QW _ ?_))))))
 all_goals (try simp only[NB]at *)<;>(try simp(disch:=omega) only[DA,JA]at *)<;>omega
end Go.D
namespace Go.D
def zp2{a0}:Ok (Hg a0) λr=>True:=by
 unfold Hg
 refine .c (λh1=> .s trivial)
  λh1=> .s trivial
def zi4{a0 a1}:Ok (Bp a0 a1) λr=>(True)∧(r=true→a0.Bits.length=32∧0≤a1∧a1≤281474976710655∧ -1≤a0.Top∧a0.Top≤281474976710655):=by
 unfold Bp
 refine .j (λy1:Bool=>y1=false→a0.Bits.length=32∧0≤a1∧a1≤281474976710655∧ -1≤a0.Top∧a0.Top≤281474976710655) (λy1 mW=> .c (λh1=> .s ⟨trivial,nofun⟩)
  λh1=>have i2:=mW h1; .jt (λy3=> .s ⟨trivial,λq3=>?_⟩)
  λk4 TV=> .c (λ_=>TV _)
  λh4=> .b zp2 λr5 _=> .c (λh5=> .b (zwV ?_) λr6 vW=>TV _)
  λ_=>TV _)
  λk2 JV=> .c (λ_=>JV _ nofun)
  λh6=>have f7:=zgt (nf h6);JV _ λq8=>?_
 all_goals (try simp only[NB]at *)<;>omega
def iT{n:Int}(h0:0≤n):zA .i64 n 1024=n % 1024:=zO h0
def lT{n:Int}(h0:0≤n)(h1:n<1024):CC .i64 n 32=n / 32:=by
 unfold CC;rw[Int.tdiv_eq_ediv_of_nonneg h0,WB (by omega) (by omega)]
def ziU{a0 a1}(ha:wt a0≤1000000000):Ok (Cg a0 a1) λr=>wt r.1≤wt a0∧wt a0≤wt r.1:=by
 have hL:=GB;unfold Cg;simp only[N]at ha;refine Ok.same (pA (p:=wt a0≤bA) ?_) ?_
 ·simp only[N];omega
 refine Ok.bind zi4 (λr2 fW=>?_);refine Ok.cond' (λh=>Ok.some' ?_) (λh=>?_)
 ·simp only[N];omega
 ·simp only[B]at h;have hm:=fW.2 h;have e1:=iT hm.2.1;have e2:=lT (n:=a1 % 1024) (by omega) (by omega);have e3:=zO (a:=a1 % 1024) (b:=32) (by omega);rw[e1,e2,e3];refine Ok.join (λy:Aq=>y.Bits.length=32) (λy hy=>?_) (λk hk=>?_)
  ·refine Ok.chk ?_ ?_
   ·simp only[B];omega
   refine Ok.bind (Ok.get ?_) (λe he=>?_)
   ·omega
   refine Ok.chkn ?_ ?_
   ·simp only[B];omega
   refine Ok.chk ?_ ?_
   ·simp only[B];omega
   refine Ok.bind (Ok.get ?_) (λe' AX=>?_)
   ·omega
   refine Ok.join (λz:Aq=>z.Bits.length=32) (λz hz=>?_) (λk' iX=>?_)
   ·refine Ok.some' ?_;simp only[N];omega
   ·refine Ok.cond' (λ_=>iX _ ?_) (λ_=>iX _ ?_)
    ·simp only[N];exact hy
    ·simp only[N];exact hy
  ·refine Ok.loop (λx:Int×Int×Aq=>0≤x.2.1∧x.2.1≤281474976710656∧0≤x.1∧x.1≤1024∧x.2.2.Bits.length=32) (λx=>(1025 - x.1).toNat) (λx hx k' iX=>?_) ?_ ?_
   ·have f1:=iT hx.1;have f2:=lT (n:=x.2.1 % 1024) (by omega) (by omega);have f3:=zO (a:=x.2.1 % 1024) (b:=32) (by omega);rw[f1,f2,f3];refine Ok.join (λy:Bool=>y=true→x.1<1024∧x.2.1≤a1) (λy hy=>?_) (λk2 JV=>?_)
    ·refine Ok.cond' (λh=>?_) (λ_=>hk _ hx.2.2.2.2);have hy:=hy h;refine Ok.chk ?_ ?_
     ·simp only[B];omega
     refine Ok.bind (Ok.get ?_) (λe he=>?_)
     ·omega
     refine Ok.chkn ?_ ?_
     ·simp only[B];omega
     refine Ok.chk ?_ ?_
     ·simp only[B];omega
     refine Ok.bind (Ok.get ?_) (λe' AX=>?_)
     ·omega
     have g1:=DA (a:=x.1) (b:=1) (by omega) (by omega);have g2:=DA (a:=x.2.1) (b:=1) (by omega) (by omega);refine iX _ ?_ ?_
     ·simp only[N];omega
     ·simp only;omega
    ·refine Ok.cond' (λh=>JV _ λq=>?_) (λ_=>JV _ λq=>nomatch q);simp only[B]at h q;omega
   ·have g:=DA (a:=a0.Top) (b:=1) (by omega) (by omega);simp only;omega
   ·simp only;omega
def ziY:Ok (Fm) λr=>wt r≤32∧32≤wt r:=by
 unfold Fm
 refine .j (λy1:Aq=>wt y1≤32∧32≤wt y1) (λy1 mW=> .s ?_)
  λk2 JV=> .l (λx3:Int×Aq=>0≤x3.1∧x3.1≤32∧x3.2.Bits.length=x3.1) (λx3:Int×Aq=>(32 - x3.1).toNat) (λx3 DY k4 TV=> .c (λh1=> .g ?_ (TV _ ?_ ?_))
  λh1=>JV _ ?_) ?_ ?_
 all_goals (try simp only[NB]at *)<;>(try simp(disch:=omega) only[DA,JA]at *)<;>omega
def BU{a0 a1}(ha:wt a1≤1000000000):Ok (By a0 a1) λr=>wt r≤64:=by
 unfold By
 refine .j (λy1:Bool=>y1=false→a1.length=32) (λy1 mW=> .c (λh1=> .s ?_)
  λh1=>have i2:=mW h1; .g ?_ (.b ziY λr3 tW=> .s ?_))
  λk2 JV=> .c (λ_=>JV _ nofun)
  λh3=>JV _ λq4=>?_
 all_goals (try simp only[NB]at *)<;>omega
def ze4{a0 a1 a2}(ha:wt a1≤1000000000)(hb:wt a2≤1000000000):Ok (Ei a0 a1 a2) λr=>wt r≤76:=by
 unfold Ei
 refine .j (λy1:Bool=>y1=false→a1.length=12∧a2.length=32) (λy1 mW=> .c (λh1=> .s ?_)
  λh1=>have i2:=mW h1; .g ?_ (.b (BU ?_) λr3 tW=> .s ?_))
  λk2 JV=> .c (λ_=>JV _ nofun)
  λh3=> .c (λ_=>JV _ nofun)
  λh4=>JV _ λq5=>?_
 all_goals (try simp only[NB]at *)<;>omega
def zqr{a0 a1 a2 a3 a4}(ha:wt a0≤1000000000)(hb:wt a2≤1000000000)(hc:wt a4≤1000000000):Ok (Gq a0 a1 a2 a3 a4) λr=>wt r.1≤wt a0∧wt r.2.1≤300:=by
 unfold Gq
 refine .cp ?_ (.jt (λy2=> .c (λh1=> .s ?_)
  λh1=> .jt (λy5=> .c (λh2=> .s ?_)
  λh2=> .c (λh3=> .s ?_)
  λh3=> .b (zft ?_ ?_ ?_) λr7 ⟨IW,hr7i⟩=> .s ?_)
  λk6 OW=> .c (λ_=>OW _)
  λ_=>OW _)
  λk3 KV=> .c (λ_=>KV _)
  λh5=>have f6:=zar (nf h5); .b (za1 ?_) λr4 VV=> .c (λ_=>KV _)
  λh7=> .c (λ_=>KV _)
  λ_=>KV _)
 all_goals (try simp only[NB]at *)<;>(try simp(disch:=omega) only[DA,JA]at *)<;>omega
def BP{a0 a1 a2}(ha:wt a0≤1000000000)(hb:wt a2≤1000000000):Ok (Cd a0 a1 a2) λr=>wt r.1≤wt a0∧wt r.2.1≤300:=by
 unfold Cd
 refine .cp ?_ (.b (dK ?_) λr2 fW=> .c (λh1=> .s ?_)
  λh1=>have i2:=fW (nf h1); .b (zqr ?_ ?_ ?_) λr3 tW=> .j (λy4:Ak=>wt y4≤wt a0) (λy4 BY=> .s ?_)
  λk5 gW=> .c (λh3=>gW _ ?_)
  λh3=>gW _ ?_)
 all_goals (try simp only[NB]at *)<;>omega
def zfw{a0 a1}(ha:wt a0≤1000000000)(hb:wt a1≤1000000000):Ok (Ee a0 a1) λr=>wt r≤a0.length+a1.length:=by
 unfold Ee;refine .g ?_ (.g ?_ (.s ?_))
 all_goals (try simp only[NB]at *)<;>omega
def KL{a0 a1}(ha:wt a0≤1000000000)(hb:wt a1≤1000000000):Ok (Bn a0 a1) λr=>wt r≤a0.Cur.Key.length+160:=by
 unfold Bn;refine .b (lN ?_) λr1 OV=> .b (zfw ?_ ?_) λr2 fW=> .s ?_
 all_goals (try simp only[NB]at *)<;>omega
def zbV{a0 a1 a2}(ha:wt a0≤1000000000)(hb:wt a1≤1000000000)(hc:wt a2≤1000000000):Ok (Do a0 a1 a2) λr=>wt r≤a0.length+a1.length+a2.length:=by
 unfold Do;refine .g ?_ (.g ?_ (.g ?_ (.s ?_)))
 all_goals (try simp only[NB]at *)<;>omega
def zik{a0 a1}(ha:wt a0≤1000000000):Ok (Bu a0 a1) λr=>wt r≤wt a0:=by
 unfold Bu
 refine .cp ?_ (.jt (λy2=> .j (λy5:Ak=>wt y5≤wt a0) (λy5 d7=> .s ?_)
  λk6 OW=> .c (λh1=>OW _ ?_)
  λh1=>OW _ ?_)
  λk3 KV=> .b (dK ?_) λr4 VV=> .c (λh2=>have i3:=VV h2; .c (λh4=> .c (λh5=> .c (λ_=>KV _)
  λ_=>KV _)
  λ_=>KV _)
  λ_=>KV _)
  λ_=>KV _)
 all_goals (try simp only[NB]at *)<;>omega
def zaK{a0}:Ok (Bk a0) λr=>r.length≤6:=by
 unfold Bk
 refine .c (λh1=> .s ?_)
  λh1=> .b (HG ?_) λr1 OV=> .s ?_
 all_goals (try simp only[NB]at *)<;>omega
def zit{a0}(ha:wt a0≤1000000000):Ok (Ff a0) λr=>wt r.1≤wt a0∧wt r.2.1≤300:=by
 unfold Ff
 refine .jt (λy1=> .c (λh1=> .cp ?_ (.s ?_))
  λh1=> .b zaK λr5 RV=> .b (BP ?_ ?_) λr6 vW=> .s ?_)
  λk2 JV=> .b (dK ?_) λr3 tW=> .c (λ_=>JV _)
  λ_=>JV _
 all_goals (try simp only[NB]at *)<;>(try simp(disch:=omega) only[DA,JA]at *)<;>omega
def zki{a0}(ha:wt a0≤1000000000):Ok (Fo a0) λr=>wt r.1≤wt a0∧wt r.2.1≤300:=by
 unfold Fo
 refine .jt (λy1=> .c (λh1=> .cp ?_ (.s ?_))
  λh1=> .b zaK λr5 RV=> .b (BP ?_ ?_) λr6 vW=> .s ?_)
  λk2 JV=> .b (dK ?_) λr3 tW=> .c (λ_=>JV _)
  λ_=>JV _
 all_goals (try simp only[NB]at *)<;>omega
def zrY{a0}(ha:wt a0≤1000000000):Ok (Cu a0) λr=>wt r.1≤wt a0+32:=by
 unfold Cu
 refine .cp ?_ (.jt (λy2=> .c (λh1=> .s ?_)
  λh1=> .b (oM ?_) λr5 RV=> .s ?_)
  λk3 KV=> .b (dK ?_) λr4 VV=> .c (λ_=>KV _)
  λh2=>have i3:=VV (nf h2); .c (λ_=>KV _)
  λh4=> .c (λ_=>KV _)
  λ_=>KV _)
 all_goals (try simp only[NB]at *)<;>omega
def zse{a0}(ha:wt a0≤1000000000):Ok (Hi a0) λr=>wt r.1≤wt a0+64:=by
 unfold Hi
 refine .cp ?_ (.jt (λy2=> .c (λh1=> .s ?_)
  λh1=> .b (oM ?_) λr5 RV=> .b (BU ?_) λr6 vW=> .s ?_)
  λk3 KV=> .b (dK ?_) λr4 VV=> .c (λ_=>KV _)
  λh2=>have i3:=VV (nf h2); .c (λ_=>KV _)
  λ_=>KV _)
 all_goals (try simp only[NB]at *)<;>(try simp(disch:=omega) only[DA,JA]at *)<;>omega
def zsp{a0 a1}(ha:a0.length≤1000000000)(hb:a1.length≤1000000000):Ok (Bo a0 a1) λr=>True:=by
 unfold Bo
 refine .c (λh1=> .s trivial)
  λh1=> .jt (λy1=> .s trivial)
  λk2 JV=> .l (λx3:Int×Int=>0≤x3.2∧x3.2≤(a0.length:Int)) (λx3:Int×Int=>((a0.length:Int) - x3.2).toNat) (λx3 DY k4 TV=> .c (λh2=> .bi ?_ ?_ λe5 CX uX=> .bi ?_ ?_ λe6 wY tX=>TV _ ?_ ?_)
  λ_=>JV _) ?_ ?_
 all_goals (try simp only[NB]at *)<;>(try simp(disch:=omega) only[DA,JA]at *)<;>omega
def ze2{a0 a1}(ha:a0.length≤1000000000)(hb:a1.length≤1000000000):Ok (Bm a0 a1) λr=>True:=by
 unfold Bm
 refine .jt (λy1=> .s trivial)
  λk2 JV=> .c (λh1=> .b (zsp ?_ ?_) λr3 _=>JV _)
  λ_=>JV _
 all_goals (try simp only[NB]at *)<;>omega
def zqH{a0 a1 a2}(ha:wt a0≤1000000000)(hb:wt a2≤1000000000):Ok (Hh a0 a1 a2) λr=>r.1.length≤200:=by
 unfold Hh
 refine .b (lN ?_) λr1 OV=> .jt (λy2=> .c (λh1=> .s ?_)
  λh1=> .b (za1 ?_) λr6 vW=> .b (zfK ?_ ?_) λr7 IW=> .s ?_)
  λk3 KV=> .c (λ_=>KV _)
  λh2=> .c (λ_=>KV _)
  λh3=> .b bV λr4 VV=> .b (ze2 ?_ ?_) λr5 _=>KV _
 all_goals (try simp only[NB]at *)<;>omega
def zfd{a0 a1 a2}(ha:wt a0≤1000000000)(hb:wt a2≤1000000000):Ok (Cy a0 a1 a2) λr=>wt r.1≤wt a0∧r.2.1.length≤200:=by
 unfold Cy
 refine .cp ?_ (.jt (λy2=> .c (λh1=> .s ?_)
  λh1=> .b zi4 λr5 ⟨RV,hr5i⟩=> .c (λh2=> .s ?_)
  λh2=>have i3:=hr5i (nf h2); .b (zqH ?_ ?_) λr6 vW=> .c (λh4=> .s ?_)
  λh4=> .b (ziU ?_) λr7 IW=> .s ?_)
  λk3 KV=> .c (λ_=>KV _)
  λh5=>have f6:=zar (nf h5); .b (lN ?_) λr4 VV=> .c (λ_=>KV _)
  λ_=>KV _)
 all_goals (try simp only[NB]at *)<;>omega
def zio{a0 a1 a2}(ha:wt a0≤1000000000)(hb:wt a2≤1000000000):Ok (Ej a0 a1 a2) λr=>wt r.1≤wt a0+64∧r.2.1.length≤200:=by
 unfold Ej
 refine .cp ?_ (.jt (λy2=> .c (λh1=> .s ?_)
  λh1=> .b (zaf ?_) λr5 RV=> .c (λh2=> .s ?_)
  λh2=> .c (λh3=> .b (zfd ?_ ?_) λr6 vW=> .c (λh4=> .s ?_)
  λh4=> .jt (λy7=> .j (λy9:Ak=>wt y9≤wt a0+64) (λy9 UY=> .s ?_)
  λk10 QV=> .c (λh5=>QV _ ?_)
  λh5=>QV _ ?_)
  λk8 sW=> .c (λ_=>sW _)
  λ_=>sW _)
  λh3=> .jt (λy11=> .c (λh7=> .jt (λy13=> .c (λh8=> .s ?_)
  λh8=> .b (zfd ?_ ?_) λr15 PW=> .c (λh9=> .s ?_)
  λh9=> .s ?_)
  λk14 SV=> .c (λ_=>SV _)
  λ_=>SV _)
  λh7=> .jt (λy16=> .c (λHW=> .b (BU ?_) λr18 ZX=> .b (zfd ?_ ?_) λr19 FX=> .c (λWW=> .s ?_)
  λWW=> .s ?_)
  λHW=> .s ?_)
  λk17 lW=> .c (λ_=>lW _)
  λ_=>lW _)
  λk12 ZV=> .c (λ_=>ZV _)
  λ_=>ZV _)
  λk3 KV=> .b (dK ?_) λr4 VV=> .c (λ_=>KV _)
  λKY=>have i16:=VV (nf KY); .c (λ_=>KV _)
  λyZ=> .c (λ_=>KV _)
  λ_=>KV _)
 all_goals (try simp only[NB]at *)<;>(try simp(disch:=omega) only[DA,JA]at *)<;>omega
def ziP{a0 a1}(ha:wt a0≤1000000000):Ok (Fp a0 a1) λr=>r.1.length≤wt a0:=by
 unfold Fp
 refine .b (dK ?_) λr1 OV=> .c (λh1=> .s ?_)
  λh1=>have i2:=OV (nf h1); .jt (λy2=> .c (λh3=> .g ?_ (.s ?_))
  λh3=> .c (λh4=> .g ?_ (.s ?_))
  λh4=> .jt (λy4=> .c (λh5=> .g ?_ (.s ?_))
  λh5=> .s ?_)
  λk5 gW=> .c (λ_=>gW _)
  λ_=>gW _)
  λk3 KV=> .c (λ_=>KV _)
  λ_=>KV _
 all_goals (try simp only[NB]at *)<;>(try simp(disch:=omega) only[DA,JA]at *)<;>omega
def zpm{a0 a1 a2}(ha:wt a0≤1000000000)(hb:wt a2≤1000000000):Ok (Hj a0 a1 a2) λr=>wt r.1≤wt a0+64:=by
 unfold Hj
 refine .cp ?_ (.jt (λy2=> .c (λh1=> .s ?_)
  λh1=> .c (λh2=> .b (zse ?_) λr7 IW=> .c (λh3=> .s ?_)
  λh3=> .s ?_)
  λh2=> .c (λh4=> .s ?_)
  λh4=> .s ?_)
  λk3 KV=> .b (dK ?_) λr4 VV=> .c (λ_=>KV _)
  λh5=>have i6:=VV (nf h5); .c (λ_=>KV _)
  λh7=> .c (λ_=>KV _)
  λh8=> .b zaK λr5 RV=> .b (zaf ?_) λr6 vW=>KV _)
 all_goals (try simp only[NB]at *)<;>(try simp(disch:=omega) only[DA,JA]at *)<;>omega
def zq1{a0}(ha:wt a0≤1000000000):Ok (Hr a0) λr=>wt r≤400:=by
 unfold Hr
 refine .b (dK ?_) λr1 OV=> .c (λh1=> .s ?_)
  λh1=>have i2:=OV (nf h1); .j (λy2:(List (List UInt8))=>wt y2≤200) (λy2 xW=> .g ?_ (.g ?_ (.j (λy4:(List (List UInt8))=>wt y4≤400) (λy4 BY=> .s ?_)
  λk5 gW=> .c (λh3=> .g ?_ (.g ?_ (gW _ ?_)))
  λh3=>gW _ ?_)))
  λk3 KV=> .c (λh4=> .g ?_ (.g ?_ (KV _ ?_)))
  λh4=>KV _ ?_
 all_goals (try simp only[NB]at *)<;>omega
def ziu{a0 a1}(ha:wt a0≤1000000000):Ok (Bv a0 a1) λr=>wt r≤wt a0+1600:=by
 unfold Bv;refine have hw:=FB a0.Cands;
 .j (λy1:Bool=>y1=false→wt a0≤39∧a0.Cands.length≤3) (λy1 mW=> .c (λh1=> .cp ?_ (.s ?_))
  λh1=>have i2:=mW h1; .j (λy4:Aj=>wt y4≤1600) (λy4 BY=> .s ?_)
  λk5 gW=> .l (λx6:Int×Aj=>0≤x6.1∧x6.1≤(a0.Cands.length:Int)∧wt x6.2≤40 *x6.1) (λx6:Int×Aj=>((a0.Cands.length:Int) - x6.1).toNat) (λx6 b7 k7 UV=> .c (λh3=> .bi ?_ ?_ λe8 R3 Q2=> .j (λy9:Aj=>wt y9≤40 *x6.1+40) (λy9 UY=>UV _ ?_ ?_)
  λk10 QV=> .c (λh4=> .bi ?_ ?_ λe11 he11 n7=> .m (pA ?_) (.g ?_ (QV _ ?_)))
  λh4=>QV _ ?_)
  λh3=>gW _ ?_) ?_ ?_)
  λk2 JV=> .c (λ_=>JV _ nofun)
  λh5=>have f6:=eI (nf h5);JV _ λq7=>?_
 all_goals (try simp only[NB]at *)<;>(try simp(disch:=omega) only[DA,JA]at *)<;>omega
def zjl{a0 a1 a2 a3}(ha:wt a0≤1000000000)(hb:wt a3≤1000000000):Ok (Ek a0 a1 a2 a3) λr=>wt r.1≤wt a0+1700:=by
 unfold Ek
 refine .j (λy1:Bool=>y1=false→a3.length=12) (λy1 mW=> .c (λh1=> .cp ?_ (.s ?_))
  λh1=>have i2:=mW h1; .b (ziu ?_) λr5 RV=>have hw:=FB r5.Cands; .jt (λy6=> .c (λh3=> .cp ?_ (.s ?_))
  λh3=> .g ?_ (.g ?_ (.s ?_)))
  λk7 UV=> .l (λx8:Int×Aj=>0≤x8.1∧x8.1≤(r5.Cands.length:Int)) (λx8:Int×Aj=>((r5.Cands.length:Int) - x8.1).toNat) (λx8 W4 k9 bX=> .c (λh4=> .h ?_ (.bg ?_ λe10 oY xX=> .c (λh5=> .cp ?_ (.s ?_))
  λh5=>bX _ ?_ ?_))
  λ_=>UV _) ?_ ?_)
  λk2 JV=> .c (λ_=>JV _ nofun)
  λh6=>have f7:=eI (nf h6); .c (λ_=>JV _ nofun)
  λh8=> .c (λ_=>JV _ nofun)
  λh9=>have f10:=HF (nf h9); .c (λ_=>JV _ nofun)
  λHW=>JV _ λq12=>?_
 all_goals (try simp only[NB]at *)<;>(try simp(disch:=omega) only[DA,JA]at *)<;>omega
def zqz{a0 a1 a2 a3}(ha:wt a0≤1000000000)(hb:wt a3≤1000000000):Ok (Fq a0 a1 a2 a3) λr=>wt r.1≤wt a0+1600:=by
 unfold Fq;refine have hw:=FB a0.Cands;
 .b (zt1 ?_) λr1 ⟨OV,V4⟩=> .j (λy2:Bool=>y2=false→wt a0≤39∧a0.Cands.length≤3) (λy2 xW=> .c (λh1=> .cp ?_ (.s ?_))
  λh1=>have i2:=xW h1; .j (λy6:Aj=>wt y6≤1600) (λy6 yX=> .s ?_)
  λk7 UV=> .l (λx8:Int×Aj=>0≤x8.1∧x8.1≤(a0.Cands.length:Int)∧wt x8.2≤40 *x8.1) (λx8:Int×Aj=>((a0.Cands.length:Int) - x8.1).toNat) (λx8 W4 k9 bX=> .c (λh3=> .bi ?_ ?_ λe10 oY xX=> .j (λy12:Aj=>wt y12≤40 *x8.1+40) (λy12 nY=>bX _ ?_ ?_)
  λk13 iW=> .c (λh4=> .bi ?_ ?_ λe14 ZZ VY=> .m (pA ?_) (.g ?_ (iW _ ?_)))
  λh4=>iW _ ?_)
  λh3=>UV _ ?_) ?_ ?_)
  λk3 KV=> .c (λ_=>KV _ nofun)
  λh5=>have i6:=V4 (nf h5); .c (λ_=>KV _ nofun)
  λh7=> .b (zaf ?_) λr4 VV=> .c (λ_=>KV _ nofun)
  λh8=>KV _ λq9=>?_
 all_goals (try simp only[NB]at *)<;>(try simp(disch:=omega) only[DA,JA]at *)<;>omega
def zjO{a0 a1 a2}(ha:wt a0≤1000000000):Ok (Fh a0 a1 a2) λr=>wt r≤wt a0+1:=by
 unfold Fh;refine have hc:=aT a0 a1;
 have hw:=FB a0;
 .g ?_ (.jt (λy1=> .c (λh1=> .s ?_)
  λh1=> .c (λh2=> .c (λh3=> .s ?_)
  λh3=> .g ?_ (.s ?_))
  λh2=> .h ?_ (.bg ?_ λe3 X4 T2=> .h ?_ (.bg ?_ λe4 tZ WY=> .h (have:=EC ([]++a0) ((nB a0 a1).toNat) (⟨e4.A,iA .i64 e3.Got a2,e4.Sent⟩:Al);?_) (.bg ?_ λe6 wY tX=> .j (λy7:(List Al)=>wt y7≤wt a0+1) (λy7 xY=> .s ?_)
  λk8 sW=> .c (λh4=> .h (have:=EC ([]++a0) ((nB a0 a1).toNat) (⟨e4.A,iA .i64 e3.Got a2,e4.Sent⟩:Al);?_) (.bg ?_ λe9 MZ CY=>sW _ (have:=EC (List.set ([]++a0) ((nB a0 a1).toNat) (⟨e4.A,iA .i64 e3.Got a2,e4.Sent⟩:Al):List Al) ((nB a0 a1).toNat) (⟨e9.A,1000000,e9.Sent⟩:Al);have:=EC ([]++a0) ((nB a0 a1).toNat) (⟨e4.A,iA .i64 e3.Got a2,e4.Sent⟩:Al);?_)))
  λh4=>sW _ (have:=EC ([]++a0) ((nB a0 a1).toNat) (⟨e4.A,iA .i64 e3.Got a2,e4.Sent⟩:Al);?_)))))
  λk2 JV=> .c (λ_=>JV _)
  λh5=>have f6:=KI (nf h5); .c (λ_=>JV _)
  λ_=>JV _)
 all_goals (try simp only[NB]at *)<;>(try simp(disch:=omega) only[DA,JA]at *)<;>omega
def ziv{a0 a1}:Ok (Bw a0 a1) λr=>True:=by
 unfold Bw;refine have hc:=aT a0 a1;
 have hw:=FB a0;
 .j (λy1:Bool=>y1=false→0≤nB a0 a1) (λy1 mW=> .c (λh1=> .s trivial)
  λh1=>have i2:=mW h1; .bi ?_ ?_ λe3 X4 T2=> .bi ?_ ?_ λe4 tZ WY=> .s trivial)
  λk2 JV=> .c (λ_=>JV _ nofun)
  λh3=>have f4:=KI (nf h3);JV _ λq5=>?_
 all_goals (try simp only[NB]at *)<;>(try simp(disch:=omega) only[DA,JA]at *)<;>omega
def zje{a0 a1 a2}(ha:wt a0≤1000000000):Ok (Dp a0 a1 a2) λr=>wt r.1≤wt a0:=by
 unfold Dp;refine have hc:=aT a0 a1;
 have hw:=FB a0;
 .g ?_ (.j (λy1:Bool=>y1=false→0≤nB a0 a1) (λy1 mW=> .c (λh1=> .s ?_)
  λh1=>have i2:=mW h1; .h ?_ (.bg ?_ λe4 tZ WY=> .h ?_ (.bg ?_ λe5 CX uX=> .s (have:=EC ([]++a0) ((nB a0 a1).toNat) (⟨e5.A,e5.Got,iA .i64 e4.Sent a2⟩:Al);?_))))
  λk2 JV=> .c (λ_=>JV _ nofun)
  λh3=> .c (λ_=>JV _ nofun)
  λh4=>have f5:=KI (nf h4); .b ziv λr3 _=>JV _ λq6=>?_)
 all_goals (try simp only[NB]at *)<;>(try simp(disch:=omega) only[DA,JA]at *)<;>omega
def zjN{a0 a1}(ha:wt a0≤1000000000):Ok (Dn a0 a1) λr=>True:=by
 unfold Dn;refine have hw:=FB a0.L;
 .jt (λy1=> .s trivial)
  λk2 JV=> .l (λx3:Int=>0≤x3∧x3≤(a0.L.length:Int)) (λx3:Int=>((a0.L.length:Int) - x3).toNat) (λx3 DY k4 TV=> .c (λh1=> .jt (λy5=> .c (λh2=> .s trivial)
  λh2=>TV _ ?_ ?_)
  λk6 OW=> .bi ?_ ?_ λe7 YZ EY=> .c (λh3=> .bi ?_ ?_ λe8 R3 Q2=>OW _)
  λ_=>OW _)
  λ_=>JV _) ?_ ?_
 all_goals (try simp only[NB]at *)<;>(try simp(disch:=omega) only[DA,JA]at *)<;>omega
def zi3{a0 a1 a2}(ha:wt a0≤1000000000):Ok (Fi a0 a1 a2) λr=>True:=by
 unfold Fi
 refine .jt (λy1=> .s trivial)
  λk2 JV=> .b (zjN ?_) λr3 _=> .c (λ_=>JV _)
  λh1=> .b ziv λr4 _=>JV _
 all_goals (try simp only[NB]at *)<;>omega
def zp6{a0 a1}(ha:wt a0≤1000000000):Ok (Ha a0 a1) λr=>r.length≤a0.length+12:=by
 unfold Ha
 refine .c (λh1=> .g ?_ (.s ?_))
  λh1=>have f2:=HF (nf h1); .b (HG ?_) λr1 OV=> .b (HG ?_) λr2 fW=> .s ?_
 all_goals (try simp only[NB]at *)<;>omega
def zeU{a0 a1 a2 a3 a4}(ha:wt a2≤1000000000)(hb:wt a3≤1000000000):Ok (Eg a0 a1 a2 a3 a4) λr=>r.length≤60:=by
 unfold Eg
 refine .j (λy1:Bool=>y1=false→a2.length=12∧a3.length=12) (λy1 mW=> .c (λh1=> .s ?_)
  λh1=>have i2:=mW h1; .b (zp6 ?_) λr3 tW=> .g ?_ (.g ?_ (.g ?_ (.b (HG ?_) λr5 RV=> .s ?_))))
  λk2 JV=> .c (λ_=>JV _ nofun)
  λh3=>have f4:=HF (nf h3); .c (λ_=>JV _ nofun)
  λh5=> .c (λ_=>JV _ nofun)
  λh6=> .c (λ_=>JV _ nofun)
  λh7=>JV _ λq8=>?_
 all_goals (try simp only[NB]at *)<;>omega
def zjL{a0 a1 a2 a3 a4 a5}(ha:wt a3≤1000000000)(hb:wt a4≤1000000000):Ok (Fj a0 a1 a2 a3 a4 a5) λr=>r.length≤16:=by
 unfold Fj
 refine .b (zeU ?_ ?_) λr1 OV=> .jt (λy2=> .c (λh1=> .s ?_)
  λh1=> .b bV λr4 VV=> .s ?_)
  λk3 KV=> .c (λ_=>KV _)
  λ_=>KV _
 all_goals (try simp only[NB]at *)<;>omega
def zrF{a0 a1}:Ok (Cv a0 a1) λr=>True:=by
 unfold Cv
 refine .jt (λy1=> .s trivial)
  λk2 JV=> .c (λh1=> .c (λ_=>JV _)
  λ_=>JV _)
  λ_=>JV _
def zrn{a0 a1 a2 a3}(ha:wt a3≤1000000000):Ok (Hb a0 a1 a2 a3) λr=>r=0→a3.Kind=3∧1≤a3.Id∧a3.Id≤9:=by
 unfold Hb
 refine .j (λy1:Bool=>y1=false→a3.Kind=3∧1≤a3.Id∧a3.Id≤9) (λy1 mW=> .c (λh1=> .s ?_)
  λh1=>have i2:=mW h1; .b zrF λr3 _=> .c (λh3=> .s ?_)
  λh3=> .b (zjL ?_ ?_) λr4 VV=> .b (ze2 ?_ ?_) λr5 _=> .c (λh4=> .s ?_)
  λh4=> .s ?_)
  λk2 JV=> .c (λ_=>JV _ nofun)
  λh5=>have f6:=zdk (nf h5); .c (λ_=>JV _ nofun)
  λh7=> .c (λ_=>JV _ nofun)
  λh8=>have f9:=HF (nf h8); .c (λ_=>JV _ nofun)
  λuW=>have f11:=sD (nf uW);JV _ λq12=>?_
 all_goals (try simp only[NB]at *)<;>omega
def ziI{a0 a1}:Ok (Bx a0 a1) λr=>r.length≤32:=by
 unfold Bx;refine have hm:=qL a0 a1;
 .s ?_
 all_goals (try simp only[NB]at *)<;>omega
def zeS{a0}:Ok (Bh a0) λr=>r.length≤32:=by
 unfold Bh
 refine .c (λh1=> .s ?_)
  λh1=>have f2:=oL (nf h1); .b ziI λr2 fW=> .b (oM ?_) λr3 tW=> .s ?_
 all_goals (try simp only[NB]at *)<;>omega
def zeR{a0 a1 a2 a3 a4}(ha:wt a1≤1000000000)(hb:wt a2≤1000000000)(hc:wt a4≤1000000000):Ok (Eh a0 a1 a2 a3 a4) λr=>r.length≤60:=by
 unfold Eh
 refine .j (λy1:Bool=>y1=false→a1.length=12∧a2.length=12∧a4.length=16) (λy1 mW=> .c (λh1=> .s ?_)
  λh1=>have i2:=mW h1; .g ?_ (.g ?_ (.b (HG ?_) λr4 VV=> .g ?_ (.s ?_))))
  λk2 JV=> .c (λ_=>JV _ nofun)
  λh3=> .c (λ_=>JV _ nofun)
  λh4=> .c (λ_=>JV _ nofun)
  λh5=> .c (λ_=>JV _ nofun)
  λh6=>JV _ λq7=>?_
 all_goals (try simp only[NB]at *)<;>omega
def zjf{a0 a1 a2 a3 a4 a5}(ha:wt a2≤1000000000)(hb:wt a3≤1000000000)(hc:wt a5≤1000000000):Ok (Fk a0 a1 a2 a3 a4 a5) λr=>r.length≤16:=by
 unfold Fk
 refine .b zeS λr1 OV=> .b (zeR ?_ ?_ ?_) λr2 fW=> .jt (λy3=> .c (λh1=> .s ?_)
  λh1=> .b bV λr5 RV=> .s ?_)
  λk4 TV=> .c (λ_=>TV _)
  λ_=>TV _
 all_goals (try simp only[NB]at *)<;>omega
def zqm{a0 a1}(ha:wt a1≤1000000000):Ok (Hc a0 a1) λr=>True:=by
 unfold Hc
 refine .jt (λy1=> .s trivial)
  λk2 JV=> .c (λh1=>have f2:=sD h1; .c (λh3=> .b (zjf ?_ ?_ ?_) λr3 tW=> .b (ze2 ?_ ?_) λr4 _=>JV _)
  λ_=>JV _)
  λ_=>JV _
 all_goals (try simp only[NB]at *)<;>omega
def zp3{a0 a1 a2}(ha:wt a1≤1000000000)(hb:wt a2≤1000000000):Ok (Hd a0 a1 a2) λr=>r.length≤32:=by
 unfold Hd
 refine .j (λy1:Bool=>y1=false→a1.length=12∧a2.length=12) (λy1 mW=> .c (λh1=> .s ?_)
  λh1=>have i2:=mW h1; .g ?_ (.g ?_ (.b ziI λr3 tW=> .s ?_)))
  λk2 JV=> .c (λ_=>JV _ nofun)
  λh3=>have f4:=oL (nf h3); .c (λ_=>JV _ nofun)
  λh5=>JV _ λq6=>?_
 all_goals (try simp only[NB]at *)<;>omega
def zpR{a0}:Ok (Cw a0) λr=>r.length≤32:=by
 unfold Cw
 refine .c (λh1=> .s ?_)
  λh1=> .b (oM ?_) λr1 OV=> .s ?_
 all_goals (try simp only[NB]at *)<;>omega
def zrx{a0 a1}(ha:wt a0≤1000000000):Ok (He a0 a1) λr=>r.length≤a0.length+32:=by
 unfold He
 refine .c (λh1=> .s ?_)
  λh1=> .g ?_ (.j (λy1:(List UInt8)=>y1.length≤a0.length+32) (λy1 mW=> .s ?_)
  λk2 JV=> .l (λx3:(List UInt8)×Int=>0≤x3.2∧x3.2≤64∧x3.1.length≤a0.length+32) (λx3:(List UInt8)×Int=>(64 - x3.2).toNat) (λx3 DY k4 TV=> .c (λh2=> .b (oM ?_) λr5 RV=>TV _ ?_ ?_)
  λh2=>JV _ ?_) ?_ ?_)
 all_goals (try simp only[NB]at *)<;>(try simp(disch:=omega) only[DA,JA]at *)<;>omega
def zir{a0 a1 a2 a3}(ha:wt a1≤1000000000)(hb:wt a2≤1000000000):Ok (Fl a0 a1 a2 a3) λr=>r.length≤64:=by
 unfold Fl
 refine .b (zp3 ?_ ?_) λr1 OV=> .b zpR λr2 fW=> .c (λh1=> .s ?_)
  λh1=> .b (zrx ?_) λr3 tW=> .s ?_
 all_goals (try simp only[NB]at *)<;>omega
def zig{a0 a1 a2}(ha:wt a2≤1000000000):Ok (Fr a0 a1 a2) λr=>wt r.1≤200:=by
 unfold Fr
 refine .j (λy1:Bool=>y1=false→wt a2≤112) (λy1 mW=> .c (λh1=> .s ?_)
  λh1=>have i2:=mW h1; .b (zjf ?_ ?_ ?_) λr3 tW=> .c (λh3=> .s ?_)
  λh3=> .cp ?_ (.s ?_))
  λk2 JV=> .c (λ_=>JV _ nofun)
  λh4=>have f5:=sD (nf h4);JV _ λq6=>?_
 all_goals (try simp only[NB]at *)<;>omega
end Go.D
namespace Go.D
def kN{a0}:Ok (Bf a0) λr=>True:=by
 unfold Bf
 refine .c (λh1=> .s trivial)
  λh1=> .s trivial
def zoK{a0 a1}:Ok (Cq a0 a1) λr=>True:=by
 unfold Cq
 refine .jt (λy1=> .s trivial)
  λk2 JV=> .c (λh1=> .c (λh2=> .c (λ_=>JV _)
  λ_=>JV _)
  λ_=>JV _)
  λ_=>JV _
def NT{a0 a1}:Ok (Cs a0 a1) λr=>True:=by
 unfold Cs
 refine .b zoK λr1 _=> .c (λh1=> .s trivial)
  λh1=> .c (λh2=> .s trivial)
  λh2=> .jt (λy2=> .s trivial)
  λk3 KV=> .c (λ_=>KV _)
  λ_=>KV _
def ziC{a0}(ha:wt a0≤1000000000):Ok (Fc a0) λr=>wt r≤a0.Cn.length:=by
 unfold Fc;refine .g ?_ (.s ?_)
 all_goals (try simp only[NB]at *)<;>omega
def zaU{a0}(ha:wt a0≤1000000000)(hb:1≤a0.Id∧a0.Id≤9∧1≤a0.Psk.length∧a0.Psk.length≤32∧0≤a0.At.Host∧a0.At.Host≤4294967295∧0≤a0.At.Port∧a0.At.Port≤65535):Ok (Dm a0) λr=>wt r≤wt a0∧r.Id=a0.Id:=by
 unfold Dm;refine .b (zji ?_ ?_ ?_ ?_) λr1 OV=> .s ?_
 all_goals (try simp only[NB]at *)<;>omega
def zjR{a0 a1 a2}(ha:wt a0≤1000000000)(hb:wt a2≤1000000000):Ok (Fd a0 a1 a2) λr=>wt r.1≤wt a0+12∧r.1.Id=a0.Id∧r.2.1.length≤1∧wt r.2.1≤400∧wt r.2.2.1≤2000:=by
 unfold Fd
 refine .cp ?_ (.j (λy2:Bool=>y2=false→CF a0∧a2.length=12) (λy2 xW=> .c (λh1=> .s ?_)
  λh1=>have i2:=xW h1; .c (λh3=> .s ?_)
  λh3=> .g ?_ (.b kN λr5 _=> .g ?_ (.b (ziC ?_) λr6 vW=> .s ?_)))
  λk3 KV=> .b (JN ?_) λr4 VV=> .c (λ_=>KV _ nofun)
  λh4=>have i5:=VV (nf h4); .c (λ_=>KV _ nofun)
  λh6=>KV _ λq7=>?_)
 all_goals (try simp only[NB]at *)<;>omega
def zoH{a0 a1 a2}(ha:wt a0≤1000000000)(hb:wt a2≤1000000000):Ok (Gr a0 a1 a2) λr=>wt r.1≤wt a0∧r.1.Id=a0.Id∧r.2.1.length≤1∧wt r.2.1≤400∧wt r.2.2.1≤2000:=by
 unfold Gr
 refine .cp ?_ (.j (λy2:Bool=>y2=false→CF a0∧a2.length≤40) (λy2 xW=> .c (λh1=> .s ?_)
  λh1=>have i2:=xW h1; .c (λh3=> .s ?_)
  λh3=> .b (BP ?_ ?_) λr5 RV=> .c (λh4=> .s ?_)
  λh4=> .g ?_ (.g ?_ (.b (KL ?_ ?_) λr6 vW=> .s ?_)))
  λk3 KV=> .b (JN ?_) λr4 VV=> .c (λ_=>KV _ nofun)
  λh5=>have i6:=VV (nf h5); .c (λ_=>KV _ nofun)
  λh7=>KV _ λq8=>?_)
 all_goals (try simp only[NB]at *)<;>omega
def zot{a0 a1}(ha:wt a0≤1000000000):Ok (Gz a0 a1) λr=>wt r.1≤wt a0+32∧r.1.Id=a0.Id∧r.2.1.length≤1∧wt r.2.1≤400∧wt r.2.2.1≤2000:=by
 unfold Gz
 refine .cp ?_ (.j (λy2:Bool=>y2=false→CF a0) (λy2 xW=> .c (λh1=> .s ?_)
  λh1=>have i2:=xW h1; .jt (λy5=> .c (λh3=> .s ?_)
  λh3=> .b (zrY ?_) λr7 IW=> .b (zit ?_) λr8 BW=> .jt (λy9=> .c (λh4=> .s ?_)
  λh4=> .b kN λr11 _=> .b (KL ?_ ?_) λr12 yW=> .s ?_)
  λk10 QV=> .c (λ_=>QV _)
  λ_=>QV _)
  λk6 OW=> .c (λ_=>OW _)
  λ_=>OW _)
  λk3 KV=> .b (JN ?_) λr4 VV=> .c (λ_=>KV _ nofun)
  λh7=>have i8:=VV (nf h7);KV _ λq9=>?_)
 all_goals (try simp only[NB]at *)<;>omega
def zoZ{a0 a1}(ha:wt a0≤1000000000):Ok (Gu a0 a1) λr=>wt r.1≤wt a0∧r.1.Id=a0.Id∧r.2.1.length≤2∧wt r.2.1≤900∧wt r.2.2≤2000:=by
 unfold Gu
 refine .cp ?_ (.j (λy2:Bool=>y2=false→CF a0) (λy2 xW=> .c (λh1=> .s ?_)
  λh1=>have i2:=xW h1; .c (λh3=> .b NT λr5 _=> .c (λh4=> .b (zaU ?_ ?_) λr6 vW=> .g ?_ (.g ?_ (.s ?_)))
  λh4=> .jt (λy8=> .j (λy10:(List Aa)=>y10.length≤1∧wt y10≤400) (λy10 cX=> .jt (λy13=> .j (λy15:(List Aa)=>y15.length≤2∧wt y15≤900) (λy15 m0=> .s ?_)
  λk16 RW=> .c (λh5=> .cp ?_ (.g ?_ (RW _ ?_)))
  λh5=>RW _ ?_)
  λk14 SV=> .c (λ_=>SV _)
  λ_=>SV _)
  λk11 PV=> .c (λh7=> .b (ziC ?_) λr12 yW=> .g ?_ (PV _ ?_))
  λh7=>PV _ ?_)
  λk9 bX=> .c (λ_=>bX _)
  λ_=>bX _)
  λh3=> .c (λh9=> .b (zaU ?_ ?_) λr18 ZX=> .g ?_ (.g ?_ (.s ?_)))
  λh9=> .b (zik ?_) λr20 FY=> .b NT λr21 _=> .c (λuW=> .s ?_)
  λuW=> .j (λy22:Ae=>wt y22≤wt a0∧y22.Id=a0.Id) (λy22 Y4=> .b (zit ?_) λr25 wX=> .j (λy26:(List Aa)×(List Ad)×Ae=>y26.1.length≤1∧wt y26.1≤400∧wt y26.2.1≤2000∧wt y26.2.2≤wt a0∧y26.2.2.Id=a0.Id) (λy26 v1=> .s ?_)
  λk27 dX=> .c (λHW=> .g ?_ (.b (KL ?_ ?_) λr28 R2=> .g ?_ (dX _ ?_)))
  λHW=>dX _ ?_)
  λk23 aY=> .c (λWW=> .b kN λr24 _=>aY _ ?_)
  λWW=>aY _ ?_)
  λk3 KV=> .b (JN ?_) λr4 VV=> .c (λ_=>KV _ nofun)
  λoX=>have i14:=VV (nf oX); .c (λ_=>KV _ nofun)
  λKY=>KV _ λq16=>?_)
 all_goals (try simp only[NB]at *)<;>(try simp(disch:=omega) only[DA,JA]at *)<;>omega
def zsu{a0 a1}(ha:wt a0≤1000000000):Ok (Ct a0 a1) λr=>wt r≤wt a0∧r.Id=a0.Id:=by
 unfold Ct
 refine .cp ?_ (.jt (λy2=> .j (λy5:Ae=>wt y5≤wt a0∧y5.Id=a0.Id) (λy5 d7=> .s ?_)
  λk6 OW=> .c (λh1=>OW _ ?_)
  λh1=>OW _ ?_)
  λk3 KV=> .b (JN ?_) λr4 VV=> .c (λ_=>KV _)
  λ_=>KV _)
 all_goals (try simp only[NB]at *)<;>omega
def zsb{a0}(ha:wt a0≤1000000000):Ok (Hp a0) λr=>wt r.1≤wt a0∧r.1.Id=a0.Id∧wt r.2≤500:=by
 unfold Hp
 refine .b (JN ?_) λr1 OV=> .c (λh1=> .cp ?_ (.s ?_))
  λh1=>have i2:=OV (nf h1); .c (λh3=> .b (zaU ?_ ?_) λr3 tW=> .g ?_ (.s ?_))
  λh3=> .b (zaU ?_ ?_) λr5 RV=> .s ?_
 all_goals (try simp only[NB]at *)<;>omega
def zeN{a0 a1 a2}(ha:wt a0≤1000000000)(hb:wt a2≤1000000000):Ok (En a0 a1 a2) λr=>wt r.1≤wt a0+2000∧r.1.Id=a0.Id∧r.2.1.length≤1∧wt r.2.1≤400∧wt r.2.2≤8000:=by
 unfold En
 refine .cp ?_ (.j (λy2:Bool=>y2=false→CF a0∧wt a2≤112) (λy2 xW=> .c (λh1=> .s ?_)
  λh1=>have i2:=xW h1; .jt (λy5=> .c (λh3=> .b (zig ?_) λr8 BW=> .b (zir ?_ ?_) λr9 SW=> .b (ze4 ?_ ?_) λr10 pW=> .b kN λr11 _=> .g ?_ (.g ?_ (.g ?_ (.b zeS λr13 eX=> .b (zeR ?_ ?_ ?_) λr14 nX=> .b (zfw ?_ ?_) λr15 PW=> .g ?_ (.cp ?_ (.g ?_ (.s ?_)))))))
  λh3=> .jt (λy17=> .c (λh4=> .s ?_)
  λh4=> .b (zio ?_ ?_) λr19 FX=> .c (λh5=> .s ?_)
  λh5=> .b (ziP ?_) λr20 FY=> .b (lN ?_) λr21 o0=> .b (zbV ?_ ?_ ?_) λr22 fX=> .g ?_ (.j (λy23:(List Ad)×Ae=>wt y23.1≤2000∧wt y23.2≤wt a0+1000∧y23.2.Id=a0.Id) (λy23 uZ=> .j (λy26:(List Ad)×Ae=>wt y26.1≤3000∧wt y26.2≤wt a0+1000∧y26.2.Id=a0.Id) (λy26 v1=> .j (λy29:(List Ad)=>wt y29≤4000) (λy29 o7=> .j (λy32:(List Aa)×(List Ad)×Ae=>y32.1.length≤1∧wt y32.1≤400∧wt y32.2.1≤8000∧wt y32.2.2≤wt a0+2000∧y32.2.2.Id=a0.Id) (λy32 Z4=> .s ?_)
  λk33 bY=> .c (λh6=> .b (BP ?_ ?_) λr34 b5=> .j (λy35:(List Aa)×(List Ad)×Ae=>y35.1.length≤1∧wt y35.1≤400∧wt y35.2.1≤8000∧wt y35.2.2≤wt a0+2000∧y35.2.2.Id=a0.Id) (λy35 s7=>bY _ ?_)
  λk36 pY=> .c (λh7=> .g ?_ (.b (KL ?_ ?_) λr37 d5=> .g ?_ (.g ?_ (.g ?_ (.g ?_ (pY _ ?_))))))
  λh7=>pY _ ?_)
  λh6=>bY _ ?_)
  λk30 XY=> .c (λh8=> .g ?_ (.g ?_ (.g ?_ (XY _ ?_))))
  λh8=>XY _ ?_)
  λk27 dX=> .c (λh9=> .g ?_ (.g ?_ (.g ?_ (dX _ ?_))))
  λh9=>dX _ ?_)
  λk24 qW=> .c (λuW=> .g ?_ (.g ?_ (.g ?_ (.g ?_ (qW _ ?_)))))
  λuW=>qW _ ?_))
  λk18 FW=> .c (λ_=>FW _)
  λ_=>FW _)
  λk6 OW=> .c (λWW=> .c (λoX=> .b (zaf ?_) λr7 IW=>OW _)
  λ_=>OW _)
  λ_=>OW _)
  λk3 KV=> .b (JN ?_) λr4 VV=> .c (λ_=>KV _ nofun)
  λJY=>have i15:=VV (nf JY); .c (λ_=>KV _ nofun)
  λPY=>KV _ λq17=>have f18:=sD (nf q17);?_)
 all_goals (try simp only[NB]at *)<;>omega
end Go.D
namespace Go.D
def lR{a0}(ha:wt a0≤1000000000):Ok (Ce a0) λr=>wt r≤wt a0:=by
 unfold Ce
 refine .b (ZR ?_) λr1 OV=> .c (λh1=> .cp ?_ (.s ?_))
  λh1=>have i2:=OV (nf h1); .g ?_ (.g ?_ (.s ?_))
 all_goals (try simp only[NB]at *)<;>omega
def zim{a0}:Ok (Cf a0) λr=>wt r≤0:=by
 unfold Cf;refine .s ?_
 all_goals (try simp only[NB]at *)<;>omega
def ziA{a0 a1 a2 a3}(ha:wt a3≤1000000000):Ok (Fn a0 a1 a2 a3) λr=>wt r≤400:=by
 unfold Fn
 refine .j (λy1:Bool=>y1=false→wt a3≤112) (λy1 mW=> .c (λh1=> .s ?_)
  λh1=>have i2:=mW h1; .g ?_ (.g ?_ (.b (zir ?_ ?_) λr3 tW=> .b (ze4 ?_ ?_) λr4 VV=> .b zim λr5 RV=> .s ?_)))
  λk2 JV=> .c (λ_=>JV _ nofun)
  λh3=>have f4:=oL (nf h3); .c (λ_=>JV _ nofun)
  λh5=> .c (λ_=>JV _ nofun)
  λh6=>have f7:=HF (nf h6); .c (λ_=>JV _ nofun)
  λh8=>have f9:=sD (nf h8);JV _ λq10=>?_
 all_goals (try simp only[NB]at *)<;>omega
def ze5{a0 a1}(ha:wt a0≤1000000000)(hb:wt a1≤1000000000):Ok (Bi a0 a1) λr=>wt r.1≤wt a0+wt a1+1∧(r.2=0→0<r.1.L.length)∧r.1.L.length≤a0.L.length+1:=by
 unfold Bi
 refine .cp ?_ (.jt (λy2=> .c (λh1=> .s ?_)
  λh1=> .b (zcA ?_) λr6 vW=> .c (λh2=> .s ?_)
  λh2=> .jt (λy7=> .c (λh3=> .s ?_)
  λh3=> .cp ?_ (.g ?_ (.s ?_)))
  λk8 sW=> .b (zwc ?_) λr9 SW=> .c (λ_=>sW _)
  λ_=>sW _)
  λk3 KV=> .b (zll ?_) λr4 VV=> .c (λ_=>KV _)
  λh5=>have i6:=VV (nf h5); .b (ZR ?_) λr5 RV=> .c (λ_=>KV _)
  λ_=>KV _)
 all_goals (try simp only[NB]at *)<;>omega
def zqd{a0}(ha:wt a0≤1000000000):Ok (Hf a0) λr=>wt r.1≤wt a0∧r.2.1.length≤1∧wt r.2.1≤400∧wt r.2.2≤600:=by
 unfold Hf
 refine .cp ?_ (.j (λy2:Bool=>y2=false→wt a0≤235) (λy2 xW=> .c (λh1=> .s ?_)
  λh1=>have i2:=xW h1; .b (zki ?_) λr5 RV=> .c (λh3=> .s ?_)
  λh3=> .b (KL ?_ ?_) λr6 vW=> .s ?_)
  λk3 KV=> .b (ZR ?_) λr4 VV=> .c (λ_=>KV _ nofun)
  λh4=>have i5:=VV (nf h4); .c (λ_=>KV _ nofun)
  λh6=>KV _ λq7=>?_)
 all_goals (try simp only[NB]at *)<;>omega
def zpx{a0 a1}(ha:wt a0≤1000000000)(hb:wt a1≤1000000000):Ok (Gs a0 a1) λr=>wt r.1≤wt a0∧r.2.1.length≤1∧wt r.2.1≤400∧wt r.2.2.1≤2000:=by
 unfold Gs
 refine .cp ?_ (.j (λy2:Bool=>y2=false→wt a0≤235∧a1.length≤40) (λy2 xW=> .c (λh1=> .s ?_)
  λh1=>have i2:=xW h1; .c (λh3=> .s ?_)
  λh3=> .b (BP ?_ ?_) λr5 RV=> .c (λh4=> .s ?_)
  λh4=> .g ?_ (.g ?_ (.b (KL ?_ ?_) λr6 vW=> .s ?_)))
  λk3 KV=> .b (ZR ?_) λr4 VV=> .c (λ_=>KV _ nofun)
  λh5=>have i6:=VV (nf h5);KV _ λq7=>?_)
 all_goals (try simp only[NB]at *)<;>omega
def zpT{a0 a1}(ha:wt a0≤1000000000):Ok (Gv a0 a1) λr=>wt r≤wt a0+1600:=by
 unfold Gv
 refine .cp ?_ (.jt (λy2=> .c (λh1=> .s ?_)
  λh1=> .c (λh2=> .b (lR ?_) λr5 RV=> .s ?_)
  λh2=> .b (zik ?_) λr6 vW=> .b (ziu ?_) λr7 IW=> .s ?_)
  λk3 KV=> .b (ZR ?_) λr4 VV=> .c (λ_=>KV _)
  λh3=>have i4:=VV (nf h3); .c (λ_=>KV _)
  λ_=>KV _)
 all_goals (try simp only[NB]at *)<;>(try simp(disch:=omega) only[DA,JA]at *)<;>omega
def zpH{a0 a1 a2 a3 a4}(ha:wt a0≤1000000000)(hb:wt a3≤1000000000)(hc:wt a4≤1000000000):Ok (Hk a0 a1 a2 a3 a4) λr=>wt r.1≤wt a0+5000∧r.2.1.length≤2∧wt r.2.1≤1000∧wt r.2.2.1≤10000:=by
 unfold Hk
 refine .cp ?_ (.j (λy2:Bool=>y2=false→wt a0≤235) (λy2 xW=> .c (λh1=> .s ?_)
  λh1=>have i2:=xW h1; .b (zio ?_ ?_) λr5 RV=> .c (λh3=> .s ?_)
  λh3=> .b (ziP ?_) λr6 vW=> .b (lN ?_) λr7 IW=> .b (zbV ?_ ?_ ?_) λr8 BW=> .g ?_ (.j (λy9:(List Av)×(List Ad)×Ah=>y9.1.length≤1∧wt y9.1≤400∧wt y9.2.1≤4000∧wt y9.2.2≤wt a0+3000) (λy9 UY=> .b (zjl ?_ ?_) λr30 z0=> .b (BP ?_ ?_) λr31 m5=> .jt (λy32=> .c (λh4=> .s ?_)
  λh4=> .g ?_ (.b (KL ?_ ?_) λr34 b5=> .g ?_ (.s ?_)))
  λk33 bY=> .c (λ_=>bY _)
  λ_=>bY _)
  λk10 QV=> .c (λh6=> .g ?_ (.g ?_ (.g ?_ (QV _ ?_))))
  λh6=> .j (λy12:(List Av)×(List Ad)×Ah=>y12.1.length≤1∧wt y12.1≤400∧wt y12.2.1≤4000∧wt y12.2.2≤wt a0+3000) (λy12 nY=>QV _ ?_)
  λk13 iW=> .c (λh7=> .b (zqz ?_ ?_) λr14 nX=> .j (λy15:(List Ad)×Ah=>wt y15.1≤4000∧wt y15.2≤wt a0+3000) (λy15 m0=>iW _ ?_)
  λk16 RW=> .c (λh8=> .g ?_ (.g ?_ (.g ?_ (RW _ ?_))))
  λh8=>RW _ ?_)
  λh7=> .j (λy18:(List Av)×(List Ad)×Ah=>y18.1.length≤1∧wt y18.1≤400∧wt y18.2.1≤4000∧wt y18.2.2≤wt a0+3000) (λy18 A0=>iW _ ?_)
  λk19 GW=> .c (λh9=> .b (zpm ?_ ?_) λr20 FY=> .j (λy21:(List Av)×(List Ad)×Ah=>y21.1.length≤1∧wt y21.1≤400∧wt y21.2.1≤4000∧wt y21.2.2≤wt a0+3000) (λy21 z1=>GW _ ?_)
  λk22 UW=> .c (λuW=> .j (λy23:(List Ad)=>wt y23≤2000) (λy23 uZ=> .b (zki ?_) λr26 JX=> .j (λy27:(List Av)×(List Ad)×Ah=>y27.1.length≤1∧wt y27.1≤400∧wt y27.2.1≤4000∧wt y27.2.2≤wt a0+3000) (λy27 n5=>UW _ ?_)
  λk28 gX=> .c (λHW=> .g ?_ (.b (KL ?_ ?_) λr29 vZ=> .g ?_ (gX _ ?_)))
  λHW=>gX _ ?_)
  λk24 qW=> .c (λWW=> .g ?_ (.g ?_ (.g ?_ (qW _ ?_))))
  λWW=>qW _ ?_)
  λuW=>UW _ ?_)
  λh9=>GW _ ?_))
  λk3 KV=> .b (ZR ?_) λr4 VV=> .c (λ_=>KV _ nofun)
  λoX=>have i14:=VV (nf oX); .c (λ_=>KV _ nofun)
  λKY=>KV _ λq16=>have f17:=HF (nf q16);?_)
 all_goals (try simp only[NB]at *)<;>omega
def ziT{a0}(ha:wt a0≤1000000000):Ok (Fg a0) λr=>wt r≤wt a0:=by
 unfold Fg;refine .g ?_ (.s ?_)
 all_goals (try simp only[NB]at *)<;>omega
def zp0{a0 a1}(ha:wt a0≤1000000000):Ok (Gw a0 a1) λr=>wt r≤wt a0+60000:=by
 unfold Gw;refine have hw:=FB a0.L;
 .j (λy1:Bool=>y1=false→wt a0≤2832∧a0.L.length≤12) (λy1 mW=> .c (λh1=> .cp ?_ (.s ?_))
  λh1=>have i2:=mW h1; .j (λy5:Ao=>wt y5≤60000) (λy5 d7=> .s ?_)
  λk6 OW=> .l (λx7:Int×Ao=>0≤x7.1∧x7.1≤(a0.L.length:Int)∧wt x7.2≤4500 *x7.1) (λx7:Int×Ao=>((a0.L.length:Int) - x7.1).toNat) (λx7 hx7 k8 sW=> .c (λh3=> .bi ?_ ?_ λe9 MZ CY=> .b (zpT ?_) λr10 pW=> .jt (λy11=> .j (λy13:Ao=>wt y13≤4500 *x7.1+4500) (λy13 GX=>sW _ ?_ ?_)
  λk14 SV=> .c (λh4=> .g ?_ (SV _ ?_))
  λh4=>SV _ ?_)
  λk12 ZV=> .c (λ_=>ZV _)
  λ_=>ZV _)
  λh3=>OW _ ?_) ?_ ?_)
  λk2 JV=> .b (zll ?_) λr3 tW=> .c (λ_=>JV _ nofun)
  λh6=>have i7:=tW (nf h6);JV _ λq8=>?_
 all_goals (try simp only[NB]at *)<;>(try simp(disch:=omega) only[DA,JA]at *)<;>omega
def zo6{a0 a1 a2 a3}(ha:wt a0≤1000000000)(hb:wt a3≤1000000000):Ok (Gt a0 a1 a2 a3) λr=>wt r.1≤wt a0+4000∧r.2.1.length≤1∧wt r.2.1≤400∧wt r.2.2.1≤2000:=by
 unfold Gt;refine have hw:=FB a0.T.L;
 .cp ?_ (.j (λy2:Bool=>y2=false→SF a0) (λy2 xW=> .c (λh1=> .s ?_)
  λh1=>have i2:=xW h1; .c (λh3=> .s ?_)
  λh3=> .bi ?_ ?_ λe6 wY tX=> .b (zpx ?_ ?_) λr7 IW=> .j (λy8:Ac=>wt y8≤wt a0+4000) (λy8 O5=> .s ?_)
  λk9 bX=> .c (λh4=> .h ?_ (.bg ?_ λe10 oY xX=>bX _ (have:=EC a0.T.L a2.toNat r7.1;?_)))
  λh4=>bX _ ?_)
  λk3 KV=> .b (QU ?_) λr4 VV=> .c (λ_=>KV _ nofun)
  λh5=>have i6:=VV (nf h5);KV _ λq7=>?_)
 all_goals (try simp only[NB]at *)<;>(try simp(disch:=omega) only[DA,JA]at *)<;>omega
def zo7{a0 a1}(ha:wt a0≤1000000000):Ok (Gx a0 a1) λr=>wt r.1≤wt a0+60000∧wt r.2≤50000:=by
 unfold Gx;refine have hw:=FB a0.T.L;
 .cp ?_ (.j (λy2:Bool=>y2=false→SF a0) (λy2 xW=> .c (λh1=> .s ?_)
  λh1=>have i2:=xW h1; .b (zp0 ?_) λr5 RV=> .j (λy6:(List Ad)=>wt y6≤50000) (λy6 yX=> .s ?_)
  λk7 UV=> .l (λx8:(List Ad)×Int=>0≤x8.2∧x8.2≤(a0.T.L.length:Int)∧wt x8.1≤3400 *x8.2) (λx8:(List Ad)×Int=>((a0.T.L.length:Int) - x8.2).toNat) (λx8 W4 k9 bX=> .c (λh3=> .bi ?_ ?_ λe10 oY xX=> .b (zcA ?_) λr11 zW=> .jt (λy12=> .j (λy16:(List Ad)=>wt y16≤3400 *x8.2+3400) (λy16 qY=>bX _ ?_ ?_)
  λk17 lW=> .c (λh4=> .bi ?_ ?_ λe18 o5 A1=> .b (ziT ?_) λr19 FX=> .g ?_ (lW _ ?_))
  λh4=>lW _ ?_)
  λk13 iW=> .bi ?_ ?_ λe14 ZZ VY=> .c (λh5=> .c (λ_=>iW _)
  λh6=> .h ?_ (.bg ?_ λe15 YY ZY=>iW _))
  λ_=>iW _)
  λh3=>UV _ ?_) ?_ ?_)
  λk3 KV=> .b (QU ?_) λr4 VV=> .c (λ_=>KV _ nofun)
  λh7=>have i8:=VV (nf h7);KV _ λq9=>?_)
 all_goals (try simp only[NB]at *)<;>(try simp(disch:=omega) only[DA,JA]at *)<;>omega
def zqB{a0 a1}(ha:wt a0≤1000000000)(hb:wt a1≤3000)(hc:a1.length≤3):Ok (Hl a0 a1) λr=>r.1.length≤3∧wt r.1≤9100∧wt r.2≤wt a0:=by
 unfold Hl
 refine .j (λy1:(List Av)×Ac=>y1.1.length≤3∧wt y1.1≤9100∧wt y1.2≤wt a0) (λy1 mW=> .s ?_)
  λk2 JV=> .l (λx3:(List Av)×Int×Ac=>0≤x3.2.1∧x3.2.1≤(a1.length:Int)∧(x3.1.length:Int)≤x3.2.1∧wt x3.1≤3001 *x3.2.1∧wt x3.2.2≤wt a0) (λx3:(List Av)×Int×Ac=>((a1.length:Int) - x3.2.1).toNat) (λx3 DY k4 TV=> .c (λh1=> .j (λy5:(List Av)×Ac=>(y5.1.length:Int)≤x3.2.1+1∧wt y5.1≤3001 *x3.2.1+3001∧wt y5.2≤wt a0) (λy5 d7=>TV _ ?_ ?_)
  λk6 OW=> .bi ?_ ?_ λe7 YZ EY=> .b (zjN ?_) λr8 _=> .j (λy9:Ac=>wt y9≤wt a0) (λy9 UY=> .bi ?_ ?_ λe15 YY ZY=> .g ?_ (OW _ ?_))
  λk10 QV=> .c (λh2=> .bi ?_ ?_ λe11 he11 n7=> .bi ?_ ?_ λe12 he12 t7=> .b (zqZ ?_) λr13 _=> .b (zje ?_) λr14 nX=> .c (λh3=>OW _ ?_)
  λh3=>QV _ ?_)
  λh2=>QV _ ?_)
  λh1=>JV _ ?_) ?_ ?_
 all_goals (try simp only[NB]at *)<;>(try simp(disch:=omega) only[DA,JA]at *)<;>omega
def zr5{a0}(ha:wt a0≤1000000000):Ok (Ho a0) λr=>wt r.1≤wt a0+100∧wt r.2≤200:=by
 unfold Ho
 refine .cp ?_ (.j (λy2:Bool=>y2=false→SF a0) (λy2 xW=> .c (λh1=> .s ?_)
  λh1=>have i2:=xW h1; .b (zdC ?_) λr5 RV=>have hj:=rS r5.2;have ht:=zcz a0.T.Cap;have hn:wt (LE r5.2)=wt r5.2:=(by simp only[LE,dJ,NE,FA,List.length_nil];omega); .m (za6 ?_) (.g ?_ (.s ?_)))
  λk3 KV=> .b (QU ?_) λr4 VV=> .c (λ_=>KV _ nofun)
  λh3=>have i4:=VV (nf h3);KV _ λq5=>?_)
 all_goals (try simp only[NB]at *)<;>omega
def zoz{a0 a1}(ha:wt a0≤1000000000):Ok (Hq a0 a1) λr=>wt r.1≤wt a0+4000∧wt r.2.1≤4000:=by
 unfold Hq;refine have hw:=FB a0.T.L;
 .cp ?_ (.b (QU ?_) λr2 fW=> .c (λh1=> .s ?_)
  λh1=>have i2:=fW (nf h1); .j (λy3:Bool=>y3=false→0≤a1∧a1<(a0.T.L.length:Int)) (λy3 OY=> .c (λh3=> .s ?_)
  λh3=>have i4:=OY h3; .bi ?_ ?_ λe7 YZ EY=> .b (lR ?_) λr8 BW=> .h ?_ (.bg ?_ λe9 MZ CY=> .bi ?_ ?_ λe10 oY xX=> .b (ziT ?_) λr11 zW=> .s (have:=EC a0.T.L a1.toNat r8;?_)))
  λk4 TV=> .c (λ_=>TV _ nofun)
  λh5=> .bi ?_ ?_ λe6 wY tX=>TV _ λq6=>?_)
 all_goals (try simp only[NB]at *)<;>(try simp(disch:=omega) only[DA,JA]at *)<;>omega
def zo4{a0 a1 a2 a3}(ha:wt a0≤1000000000)(hb:wt a3≤900000000):Ok (Hm a0 a1 a2 a3) λr=>wt r.1≤wt a0+50000∧r.2.1.length≤3∧wt r.2.1≤9100∧wt r.2.2≤20000:=by
 unfold Hm
 refine .cp ?_ (.j (λy2:Bool=>y2=false→SF a0) (λy2 xW=> .c (λh1=> .s ?_)
  λh1=>have i2:=xW h1; .b (zjO ?_) λr5 RV=> .b (zii ?_) λr6 vW=> .c (λh3=> .s ?_)
  λh3=> .j (λy7:(List Av)×(List Ad)×Ac×Ac=>y7.1.length≤3∧wt y7.1≤2000∧wt y7.2.1≤20000∧wt y7.2.2.1≤wt a0+50000) (λy7 xY=> .b (zqB ?_ ?_ ?_) λr65 hr65=> .s ?_)
  λk8 sW=> .c (λh4=> .jt (λy9=> .c (λh5=> .s ?_)
  λh5=> .b (zdC ?_) λr12 yW=>have hn:wt (LE r12.2)=wt r12.2:=(by simp only[LE,dJ,NE,FA,List.length_nil];omega); .g ?_ (.b (zjL ?_ ?_) λr13 eX=> .m (za6 ?_) (.b (zeU ?_ ?_) λr15 PW=> .b (zfw ?_ ?_) λr16 jX=> .g ?_ (.g ?_ (sW _ ?_)))))
  λk10 QV=> .c (λ_=>QV _)
  λh6=> .b (zi3 ?_) λr11 _=> .c (λ_=>QV _)
  λ_=>QV _)
  λh4=> .j (λy18:(List Av)×(List Ad)×Ac×Ac=>y18.1.length≤3∧wt y18.1≤2000∧wt y18.2.1≤20000∧wt y18.2.2.2≤wt a0+50000) (λy18 A0=>sW _ ?_)
  λk19 GW=> .c (λh8=> .j (λy20:Bool=>y20=false→1≤r6.1.Id∧r6.1.Id≤(a0.Psks.length:Int)) (λy20 rY=> .c (λh9=> .s ?_)
  λh9=>have i10:=rY h9; .b (zcA ?_) λr25 wX=> .j (λy26:(List Ad)×Int×Ac×Ac=>wt y26.1≤8000∧wt y26.2.2.2≤wt a0+10000∧0≤y26.2.1∧y26.2.1<(y26.2.2.2.T.L.length:Int)) (λy26 v1=> .h ?_ (.bg ?_ λe38 he38 he38w=> .jt (λy39=> .j (λy42:(List Av)×(List Ad)×Ac=>y42.1.length≤3∧wt y42.1≤1000∧wt y42.2.1≤15000∧wt y42.2.2≤wt a0+40000) (λy42 U2=>GW _ ?_)
  λk43 cY=> .c (λHW=> .b (zqd ?_) λr44 s5=> .h ?_ (.bg ?_ λe45 he45 he45w=> .g ?_ (.g ?_ (cY _ (have:=EC y26.2.2.2.T.L y26.2.1.toNat r44.1;?_)))))
  λHW=>cY _ ?_)
  λk40 B0=> .c (λWW=> .c (λoX=> .b (zaf ?_) λr41 B1=>B0 _)
  λ_=>B0 _)
  λ_=>B0 _))
  λk27 dX=> .c (λJY=> .bi ?_ ?_ λe28 he28 v7=> .b (ziA ?_) λr29 vZ=> .b (ze5 ?_ ?_) λr30 z0=>have hl:=FB r30.1.L; .c (λKY=> .s ?_)
  λKY=> .b (zeU ?_ ?_) λr31 m5=> .b (zbV ?_ ?_ ?_) λr32 hr32=> .g ?_ (.bi ?_ ?_ λe33 he33 he33w=> .b zeS λr34 b5=> .b (zeR ?_ ?_ ?_) λr35 z7=> .b (zbV ?_ ?_ ?_) λr36 V2=> .g ?_ (.g ?_ (.g ?_ (.g ?_ (.g ?_ (dX _ ?_)))))))
  λJY=>dX _ ?_)
  λk21 aW=> .b (zrn ?_) λr22 fX=> .c (λ_=>aW _ nofun)
  λPY=> .c (λ_=>aW _ nofun)
  λyZ=> .bi ?_ ?_ λe23 A7 S3=> .b (zqm ?_) λr24 _=>aW _ λq18=>?_)
  λh8=> .j (λy46:(List Av)×(List Ad)×Ac×Ac=>y46.1.length≤3∧wt y46.1≤2000∧wt y46.2.1≤20000∧wt y46.2.2.2≤wt a0+50000) (λy46 hy46=>GW _ ?_)
  λk47 C1=> .c (λOZ=> .b (zcA ?_) λr48 hr48=> .j (λy49:Bool=>y49=false→0≤r48) (λy49 B7=> .c (λPZ=> .s ?_)
  λPZ=>have i21:=B7 PZ; .b (zdC ?_) λr52 hr52=> .b (zi3 ?_) λr53 _=> .j (λy54:(List UInt8)=>y54.length≤32) (λy54 hy54=>have hn:wt (LE y54)=wt y54:=(by simp only[LE,dJ,NE,FA,List.length_nil];omega); .bi ?_ ?_ λe56 he56 C7=> .b (zpH ?_ ?_ ?_) λr57 hr57=> .h ?_ (.bg ?_ λe58 he58 D7=> .g ?_ (.j (λy59:(List Ad)×Ac=>wt y59.1≤200∧wt y59.2≤wt a0+40000) (λy59 hy59=> .g ?_ (.j (λy62:(List Ad)=>wt y62≤20000) (λy62 hy62=>C1 _ ?_)
  λk63 E7=> .c (λX1=> .g ?_ (.g ?_ (.g ?_ (E7 _ ?_))))
  λX1=>E7 _ ?_))
  λk60 F7=> .c (λI0=> .m (za6 ?_) (.g ?_ (F7 _ (have:=EC a0.T.L r48.toNat r57.1;?_))))
  λI0=>F7 _ (have:=EC a0.T.L r48.toNat r57.1;?_))))
  λk55 G7=> .c (λY1=>G7 _ ?_)
  λY1=>G7 _ ?_)
  λk50 D1=> .c (λ_=>D1 _ nofun)
  λD5=> .bi ?_ ?_ λe51 he51 he51w=>D1 _ λq26=>?_)
  λOZ=>C1 _ ?_)
  λk3 KV=> .b (QU ?_) λr4 VV=> .c (λ_=>KV _ nofun)
  λR5=>have i28:=VV (nf R5); .c (λ_=>KV _ nofun)
  λI8=>KV _ λq30=>have f31:=HF (nf q30);?_)
 all_goals (try simp only[NB]at *)<;>(try simp(disch:=omega) only[DA,JA]at *)<;>omega
end Go.D
namespace Go.D
def zhz{α:Type}[Wt α](l:List α)(i:Nat):Nat:=match l[i]? with
 | some c=>wt c
 | none=>0
def tO{α:Type}[Wt α]{l:List α}{i:Nat}{x:α}(h:l[i]?=some x):zhz l i=wt x:=by unfold zhz;rw[h]
def mS{α:Type}[Wt α]{x y:α}:∀{l:List α} {i:Nat},l[i]?=some y→wt (l.set i x)+wt y=wt l+wt x
 | [],_,h=>by simp at h
 | z :: l,0,h=>by
  rw[List.getElem?_cons_zero]at h;cases h;rw[List.set_cons_zero,vD,vD];omega
 | z :: l,i+1,h=>by
  rw[List.getElem?_cons_succ]at h;have:=mS (x:=x) h;rw[List.set_cons_succ,vD,vD];omega
def nO{e:Am}(h:eF e=true):1≤e.Kind∧e.Kind≤17∧0≤e.I∧0≤e.J∧0≤e.N∧e.B.length≤200∧e.Ops.length≤16:=by
 simp only[eF,Bool.and_eq_true,fC,decide_eq_true_eq]at h;omega
def zrK{c:Af}(h:mA c):Ok (Iw c) λr=>mA r.2:=by
 unfold Iw;exact(zgR h (by simp)).bind λq hq=> .some' hq.2
def zrt{s a b:List UInt8}{m:Int}(hs:1≤s.length∧s.length≤32)(ha:1≤a.length∧a.length≤32)(hb:1≤b.length∧b.length≤32)(hm:1≤m∧m≤6):MB (NC [a,b] s m)=true:=by
 have e0:eA (s.length:Int) 1 32=true:=fD.2 ⟨by omega,by omega⟩
 have hd:gC ⟨s,0⟩=true:=by
  show(eA (s.length:Int) 1 32&&eA 0 0 10000)=true
  rw[e0];rfl
 have hr:SC ⟨s,0⟩=(⟨s,iA .i64 0 1⟩,AD s 0):=by
  rw[SC,hd];rfl
 have hl:(AD s 0).length=12:=by
  rw[AD,e0];show(List.take 12 _).length=12
  rw[List.length_take,EH (by omega) (by rw[yV];omega)];rfl
 have hj:QE (jF (AD s 0))=true:=by
  rw[jF,show nA (AD s 0)=true by rw[nA,hl];rfl];show(((tL (AD s 0) [106,97,114]).length:Int)==32)=true
  rw[zkq (by omega) (by decide)];rfl
 have ht:XD m=⟨m,[]⟩:=by rw[XD,fD.2 hm];rfl
 have hp:GC a=true∧GC b=true:=⟨fD.2 (by omega),fD.2 (by omega)⟩
 have hto:TC ⟨m,[]⟩=true:=by
  show(eA m 1 6&&true&&decide ((0:Int)≤m)&&true)=true
  rw[fD.2 hm,decide_eq_true (by omega)];rfl
 have h1:iA .i64 0 1=1:=rfl;show(eA 2 1 9&&QE (jF (SC ⟨s,0⟩).2)&&gC (SC ⟨s,0⟩).1&&TC (XD m)&&true&&!(!GC a||(!GC b||false))&&!((XD m).L.any λe=>decide (e.Id>2)))=true
 rw[hr,ht,hto,hp.1,hp.2];simp only;rw[hj,h1];show(true&&true&&(eA (s.length:Int) 1 32&&eA 1 0 10000)&&true&&true&&true&&true)=true
 rw[e0];rfl
def zr4{s a b:List UInt8}{m:Int}(h:s.length=8∧a.length=6∧b.length=9)(hm:1≤m∧m≤3):Ok (zcv s a b m) λr=>wt r≤4000∧TW r:=by
 have hL:=GB;have hw:=zsh s a b m;rw[FA,FA,FA]at hw;refine mF (by rw[FA,FA,FA];omega) ⟨by omega,?_⟩;have hs:=zrt (s:=s) (a:=a) (b:=b) (m:=m) (by omega) (by omega) (by omega) (by omega);rw[wV,hs];obtain⟨_,ka,kb,_⟩:=zsB hs;show[RB 1 a (zB 1),RB 2 b (zB 2)].length=2∧(RB 1 a (zB 1)).Id=1∧(RB 2 b (zB 2)).Id=2
 rw[ka,kb];exact⟨rfl,rfl,rfl⟩
def zw2{b:List UInt8}{f n:Int}(h:b.length≤bA):Ok (yJ b f n) λr=>r.1.length≤b.length:=mF (by rw[FA];exact h) (by
 unfold cut;cases decide (f<0)||(decide (n<0)||(decide (f>(b.length:Int))||decide (n>(b.length:Int) - f)))
 ·rw[cond_false];simp only[List.length_take,List.length_drop];omega
 ·exact Nat.zero_le _)
def zrM(b:List UInt8)(f n:Int)(h:wt b≤bA)(hf:zE .i64 f)(hn:zE .i64 n):Pi b f n=some (cut b f n):=by
 have hl:b.length≤bA:=by rw[←FA];exact h
 have hL:=GB;have hf:=IS hf;have hn:=IS hn;simp only[Pi,aA,cut,List.nil_append]
 by_cases h2:n<0
 ·rw[decide_eq_true h2];cases decide (f<0)<;>rfl
 by_cases h1:f<0
 ·rw[decide_eq_false h2,decide_eq_true h1];rfl
 by_cases h3:n>(b.length:Int)
 ·have h4:(decide (f>(b.length:Int))||decide (n>(b.length:Int) - f))=true:=by simp;omega
  rw[decide_eq_false h2,decide_eq_false h1,decide_eq_true h3,h4];rfl
 have e:sA .i64 (b.length:Int) n=(b.length:Int) - n:=by rw[sA,WB (by omega) (by omega)]
 rw[e]
 by_cases h4:f>(b.length:Int) - n
 ·have h5:(decide (f>(b.length:Int))||decide (n>(b.length:Int) - f))=true:=by simp;omega
  rw[decide_eq_false h2,decide_eq_false h1,decide_eq_false h3,decide_eq_true h4,h5];rfl
 have e2:iA .i64 f n=f+n:=by rw[iA,WB (by omega) (by omega)]
 have e3:(decide (0≤f)&&decide (f≤f+n)&&decide (f+n≤(b.length:Int)))=true:=by simp;omega
 have h5:(decide (f>(b.length:Int))||decide (n>(b.length:Int) - f))=false:=by simp;omega
 rw[decide_eq_false h1,decide_eq_false h2,decide_eq_false h3,decide_eq_false h4,h5];simp only[cond_false,e2];rw[e3,show f+n - f=n by omega];have:((b.drop f.toNat).take n.toNat).length≤bA:=by rw[List.length_take,List.length_drop];omega
 rw[List.length_nil,Nat.zero_add,decide_eq_true this];rfl
def GS.ok{x}(hb:xA [.sl .byte, .v .int, .v .int] x){r}:yJ x.1 x.2.1 x.2.2=some r→Pi x.1 x.2.1 x.2.2=some r:=TA λh=>
 zrM x.1 x.2.1 x.2.2 h (uO hb.2.1 0 (by decide) rfl) (uO hb.2.2 0 (by decide) rfl)
end Go.D

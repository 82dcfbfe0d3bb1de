/-
 The reference's machine comes to an end, and what it gives is small.
-/
import Derived.Test.YthmhafeaiaigoaaGreatN8
set_option linter.all false
namespace Go.D
def za2{a0 a1 a2 a3}(ha:wt a1≤1000000000):Ok (Cb a0 a1 a2 a3) λr=>r.length≤40∧(0<r.length→a1.length=12):=by
 unfold Cb
 refine .j (λy1:Bool=>y1=false→a1.length=12) (λy1 lW=> .c (λh1=> .s ?_)
  λh1=>have i2:=lW h1; .g ?_ (.b (JG ?_) λr3 uW=> .b (JG ?_) λr4 UV=> .s ?_))
  λk2 IV=> .c (λ_=>IV _ nofun)
  λh3=> .c (λ_=>IV _ nofun)
  λh4=> .c (λ_=>IV _ nofun)
  λh5=>IV _ λq6=>?_
 all_goals (try simp only[NB]at *)<;>omega
def zqo{a0 a1 a2}(ha:wt a1≤1000000000):Ok (Gq a0 a1 a2) λr=>r.length≤32∧(0≤a2∧a2≤6∧a1.length≤100∧a0.length≤1048576→r.length=32):=by
 try simp only[N]at ha
 have hL:=DB;unfold Gq;refine Ok.join (λy1:Bool=>(y1=true∧¬(0≤a2∧a2≤6∧a1.length≤100))∨(y1=false∧a1.length≤100)) (λy1 lW=>?_) (λk2 IV=>?_)
 ·rcases lW with⟨rfl,h⟩ | ⟨rfl,h⟩
  ·exact Ok.some' ⟨Nat.zero_le _,λk=>absurd ⟨k.1,k.2.1,k.2.2.1⟩ h⟩
  ·refine Ok.guard ?_ ?_
   ·simp only[N];omega
   refine Ok.bind (JG ?_) (λr3 uW=>?_)
   ·simp only[N];omega
   simp only[N]at uW;exact Ok.some' ⟨iL _ _,λk=>KH k.2.2.2 (by omega)⟩
 refine Ok.cond' (λh2=>?_) (λh2=>?_)
 ·simp only[B]at h2;exact IV _ (.inl ⟨rfl,λk=>h2 ⟨k.1,k.2.1⟩⟩)
 ·simp only[B]at h2;refine IV _ ?_
  by_cases h:(a1.length:Int)>100
  ·exact .inl ⟨decide_eq_true h,λk=>by omega⟩
  ·exact .inr ⟨decide_eq_false h,by omega⟩
def zi5{a0 a1 a2}(ha:wt a1≤1000000000):Ok (Fd a0 a1 a2) λr=>r.length≤200∧(0≤a2∧a2≤200∧a1.length≤100∧a0.length≤1048576→(r.length:Int)=a2):=by
 have hL:=DB;unfold Fd;refine Ok.join (λy1:Bool=>(y1=true∧¬(0≤a2∧a2≤200∧a1.length≤100∧a0.length≤1048576))∨(y1=false∧(0≤a2∧a2≤200∧a1.length≤100∧a0.length≤1048576))) (λy1 lW=>?_) (λk2 IV=>?_)
 ·rcases lW with⟨rfl,h⟩ | ⟨rfl,h⟩
  ·exact Ok.some' ⟨Nat.zero_le _,λk=>absurd k h⟩
  ·rw[cond_false];refine Ok.join (λy3:List UInt8=>a2≤(y3.length:Int)∧y3.length≤1000) (λy3 LY=>?_) (λk4 QV=>?_)
   ·refine Ok.chk ?_ ?_
    ·simp only[B];omega
    refine Ok.guard ?_ ?_
    ·simp only[N];omega
    refine Ok.some' ?_;simp only[N];omega
   refine Ok.loop (λx5:(List UInt8)×Int=>0≤x5.2∧x5.2≤7∧(x5.1.length:Int)=32 *x5.2) (λx5=>(7 - x5.2).toNat) (λx5 hx5 k6 CW=>?_) ?_ ?_
   ·refine Ok.cond' (λh1=>?_) (λh1=>?_)
    ·simp only[B]at h1;refine Ok.bind (zqo ha) (λr7 HW=>?_);have h7:r7.length=32:=HW.2 (by omega);refine Ok.guard ?_ ?_
     ·simp only[N];omega
     have:=DA (a:=x5.2) (b:=1) (by omega) (by omega);refine CW _ ?_ ?_
     ·simp only[N];omega
     ·simp only[N];omega
    ·simp only[B]at h1;refine QV _ ?_;omega
   ·simp only[N];omega
   ·simp only[N];omega
 refine Ok.cond' (λh2=>?_) (λh2=>?_)
 ·simp only[B]at h2;exact IV _ (.inl ⟨rfl,λk=>h2 ⟨k.1,k.2.1⟩⟩)
 ·simp only[B]at h2;refine Ok.cond' (λh3=>?_) (λh3=>?_)
  ·simp only[B]at h3;exact IV _ (.inl ⟨rfl,λk=>by omega⟩)
  ·simp only[B]at h3;refine IV _ ?_
   by_cases h:(a0.length:Int)>1048576
   ·exact .inl ⟨decide_eq_true h,λk=>by omega⟩
   ·exact .inr ⟨decide_eq_false h,by omega⟩
def zfN{a0 a1 a2}(ha:wt a1≤1000000000)(hb:wt a2≤1000000000):Ok (Ea a0 a1 a2) λr=>r.length≤200:=by
 unfold Ea
 refine .j (λy1:Bool=>y1=false→a2.length≤200∧a1.length≤100∧a0.length≤1048576) (λy1 lW=> .c (λh1=> .s ?_)
  λh1=>have i2:=lW h1; .b (zi5 ?_) λr3 uW=> .j (λy4:(List UInt8)=>y4.length≤200) (λy4 MY=> .s ?_)
  λk5 dW=> .l (λx6:(List UInt8)×Int=>0≤x6.2∧x6.2≤(a2.length:Int)∧(x6.1.length:Int)=x6.2) (λx6:(List UInt8)×Int=>((a2.length:Int) - x6.2).toNat) (λx6 b7 k7 TV=> .c (λh3=> .bi ?_ ?_ λe8 S3 Q2=> .h ?_ (.bg ?_ λe9 LZ CY=> .g ?_ (TV _ ?_ ?_)))
  λh3=>dW _ ?_) ?_ ?_)
  λk2 IV=> .c (λ_=>IV _ nofun)
  λh4=> .c (λ_=>IV _ nofun)
  λh5=>IV _ λq6=>?_
 all_goals (try simp only[NB]at *)<;>(try simp(disch:=omega) only[DA,LA]at *)<;>omega
def oN{a0 a1}(ha:wt a1≤1000000000):Ok (Bt a0 a1) λr=>r.length≤160:=by
 unfold Bt
 refine .j (λy1:Bool=>y1=false→wt a1≤112) (λy1 lW=> .c (λh1=> .s ?_)
  λh1=>have i2:=lW h1; .b (za2 ?_) λr3 uW=> .g ?_ (.g ?_ (.g ?_ (.s ?_))))
  λk2 IV=> .c (λ_=>IV _ nofun)
  λh3=> .c (λ_=>IV _ nofun)
  λh4=>have f5:=uD (nf h4);IV _ λq6=>?_
 all_goals (try simp only[NB]at *)<;>omega
def jV{a0 a1}:Ok (Cp a0 a1) λr=>r.length≤16:=by
 unfold Cp;refine have hm:=iL a0 a1;
 .c (λh1=> .s ?_)
  λh1=> .h ?_ (.g ?_ (.s ?_))
 all_goals (try simp only[NB]at *)<;>omega
def zfB{a0 a1 a2 a3 a4 a5 a6}(ha:wt a0≤1000000000)(hb:wt a2≤1000000000)(hc:wt a6≤1000000000):Ok (Eb a0 a1 a2 a3 a4 a5 a6) λr=>(wt r.1≤300)∧(r.2=true→a2.length=12∧a0.length=32):=by
 unfold Eb
 refine .b (za2 ?_) λr1 NV=> .j (λy2:Bool=>y2=false→a2.length=12∧a0.length=32) (λy2 xW=> .c (λh1=> .s ⟨?_,nofun⟩)
  λh1=>have i2:=xW h1; .g ?_ (.b (zfN ?_ ?_) λr4 UV=> .j (λy5:Ab=>wt y5≤280) (λy5 O5=> .b (oN ?_) λr9 QW=> .b jV λr10 rW=> .s ⟨?_,λq3=>?_⟩)
  λk6 CW=> .l (λx7:Int×Ab=>0≤x7.1∧x7.1≤16∧x7.2.Tag.length=x7.1∧wt x7.2≤212+x7.1) (λx7:Int×Ab=>(16 - x7.1).toNat) (λx7 hx7 k8 pW=> .c (λh4=> .g ?_ (pW _ ?_ ?_))
  λh4=>CW _ ?_) ?_ ?_))
  λk3 JV=> .c (λ_=>JV _ nofun)
  λh5=> .c (λ_=>JV _ nofun)
  λh6=> .c (λ_=>JV _ nofun)
  λh7=>JV _ λq8=>?_
 all_goals (try simp only[NB]at *)<;>(try simp(disch:=omega) only[DA,LA]at *)<;>omega
def zrJ{a0 a1 a2 a3 a4 a5 a6 a7}(ha:wt a0≤1000000000)(hb:wt a3≤1000000000)(hc:wt a7≤1000000000):Ok (Jb a0 a1 a2 a3 a4 a5 a6 a7) λr=>wt r≤1000:=by
 unfold Jb
 refine .b (zfB ?_ ?_ ?_) λr1 ⟨NV,V4⟩=> .j (λy2:Bool=>y2=false→a3.length=12) (λy2 xW=> .c (λh1=> .s ?_)
  λh1=>have i2:=xW h1; .g ?_ (.b (JG ?_) λr4 UV=> .b (JG ?_) λr5 RV=> .b (oN ?_) λr6 vW=> .g ?_ (.s ?_)))
  λk3 JV=> .c (λ_=>JV _ nofun)
  λh3=>have i4:=V4 (nf h3);JV _ λq5=>?_
 all_goals (try simp only[NB]at *)<;>omega
def ze3{a0}(ha:wt a0≤1000000000):Ok (Bj a0) λr=>r.length≤200:=by
 unfold Bj
 refine .c (λh1=> .s ?_)
  λh1=>have f2:=uD (nf h1); .j (λy1:(List UInt8)=>y1.length≤200) (λy1 lW=> .s ?_)
  λk2 IV=> .c (λh3=> .g ?_ (.g ?_ (.j (λy4:(List UInt8)=>y4.length≤200) (λy4 MY=>IV _ ?_)
  λk5 dW=> .l (λx6:(List UInt8)×Int=>0≤x6.2∧x6.2≤20∧x6.1.length≤140+x6.2) (λx6:(List UInt8)×Int=>(20 - x6.2).toNat) (λx6 b7 k7 TV=> .c (λh4=> .g ?_ (TV _ ?_ ?_))
  λh4=>dW _ ?_) ?_ ?_)))
  λh3=> .j (λy8:(List UInt8)=>y8.length≤200) (λy8 d7=>IV _ ?_)
  λk9 jX=> .c (λh5=> .g ?_ (.g ?_ (.b (JG ?_) λr11 zW=> .g ?_ (jX _ ?_))))
  λh5=> .j (λy12:(List UInt8)=>y12.length≤200) (λy12 HX=>jX _ ?_)
  λk13 XV=> .c (λh6=> .g ?_ (.g ?_ (.g ?_ (.b (JG ?_) λr15 NW=> .g ?_ (.g ?_ (XV _ ?_))))))
  λh6=> .g ?_ (.b (JG ?_) λr17 YX=> .b (JG ?_) λr18 ZX=> .g ?_ (.g ?_ (XV _ ?_)))
 all_goals (try simp only[NB]at *)<;>(try simp(disch:=omega) only[DA,LA]at *)<;>omega
def zeZ{a0 a1 a2}(ha:wt a2≤1000000000):Ok (Ec a0 a1 a2) λr=>wt r≤200:=by
 unfold Ec;refine .b (ze3 ?_) λr1 NV=> .s ?_
 all_goals (try simp only[NB]at *)<;>omega
def zfd{a0 a1}(ha:wt a0≤1000000000)(hb:wt a1≤1000000):Ok (Ed a0 a1) λr=>wt r≤201 *a1.length:=by
 unfold Ed;refine have hw:=zB a1;
 .j (λy1:(List Ap)=>wt y1≤201 *a1.length) (λy1 lW=> .s ?_)
  λk2 IV=> .l (λx3:(List Ap)×Int=>0≤x3.2∧x3.2≤(a1.length:Int)∧wt x3.1≤201 *x3.2) (λx3:(List Ap)×Int=>((a1.length:Int) - x3.2).toNat) (λx3 DY k4 QV=> .c (λh1=> .bi ?_ ?_ λe6 xY sX=> .b (zeZ ?_) λr7 HW=> .g ?_ (QV _ ?_ ?_))
  λh1=>IV _ ?_) ?_ ?_
 all_goals (try simp only[NB]at *)<;>(try simp(disch:=omega) only[DA,LA]at *)<;>omega
def ziK{a0}(ha:wt a0≤1000000):Ok (Fg a0) λr=>wt r≤201 *a0.length:=by
 unfold Fg;refine have hw:=zB a0;
 .j (λy1:(List Ap)=>wt y1≤201 *a0.length) (λy1 lW=> .s ?_)
  λk2 IV=> .l (λx3:(List Ap)×Int=>0≤x3.2∧x3.2≤(a0.length:Int)∧wt x3.1≤201 *x3.2) (λx3:(List Ap)×Int=>((a0.length:Int) - x3.2).toNat) (λx3 DY k4 QV=> .c (λh1=> .bi ?_ ?_ λe6 xY sX=> .bi ?_ ?_ λe7 MZ pY=> .b (zeZ ?_) λr8 sW=> .g ?_ (QV _ ?_ ?_))
  λh1=>IV _ ?_) ?_ ?_
 all_goals (try simp only[NB]at *)<;>(try simp(disch:=omega) only[DA,LA]at *)<;>omega
def zqK{a0}(ha:wt a0≤1000000000):Ok (Em a0) λr=>True:=by
 unfold Em;refine .b (ze3 ?_) λr1 NV=> .s trivial
 all_goals (try simp only[NB]at *)<;>omega
def zis{a0}(ha:wt a0≤900000000):Ok (Ef a0) λr=>wt r.1≤400:=by
 unfold Ef
 refine .c (λh1=> .s ?_)
  λh1=> .bi ?_ ?_ λe1 KY m7=> .j (λy3:Ab×Ab=>wt y3.2≤a0.length+100) (λy3 LY=> .b (ze3 ?_) λr28 R2=> .e ?_ (.e ?_ (.c (λh2=> .s ?_)
  λh2=>have:=congrArg List.length (eq_of_beq (nf h2)); .s ?_)))
  λk4 QV=> .c (λh3=> .c (λh4=> .s ?_)
  λh4=> .bi ?_ ?_ λe5 BX tX=> .h ?_ (.g ?_ (QV _ ?_)))
  λh3=> .j (λy8:Ab×Ab=>wt y8.2≤a0.length+100) (λy8 d7=>QV _ ?_)
  λk9 jX=> .c (λh5=> .c (λh6=> .s ?_)
  λh6=> .h ?_ (.g ?_ (.h ?_ (.g ?_ (.b (zdF ?_) λr12 yW=> .h ?_ (.g ?_ (jX _ ?_)))))))
  λh5=> .j (λy14:Ab×Ab=>wt y14.2≤a0.length+100) (λy14 T2=>jX _ ?_)
  λk15 ZW=> .c (λh7=> .c (λh8=> .s ?_)
  λh8=> .bi ?_ ?_ λe16 qZ NZ=> .h ?_ (.g ?_ (.h ?_ (.g ?_ (.b (zdF ?_) λr20 EY=> .h ?_ (.g ?_ (.h ?_ (.g ?_ (ZW _ ?_)))))))))
  λh7=> .c (λh9=> .s ?_)
  λh9=> .h ?_ (.g ?_ (.b (zdF ?_) λr24 uX=> .b (zdF ?_) λr25 vX=> .h ?_ (.g ?_ (.h ?_ (.g ?_ (ZW _ ?_))))))
 all_goals (try simp only[NB]at *)<;>(try simp(disch:=omega) only[DA,LA]at *)<;>omega
end Go.D
namespace Go.D
def zqg{a0}:Ok (Hh a0) λr=>True:=by
 unfold Hh
 refine .c (λh1=> .s trivial)
  λh1=> .s trivial
def zi9{a0 a1}:Ok (Bp a0 a1) λr=>(True)∧(r=true→a0.Bits.length=32∧0≤a1∧a1≤281474976710655∧ -1≤a0.Top∧a0.Top≤281474976710655):=by
 unfold Bp
 refine .j (λy1:Bool=>y1=false→a0.Bits.length=32∧0≤a1∧a1≤281474976710655∧ -1≤a0.Top∧a0.Top≤281474976710655) (λy1 lW=> .c (λh1=> .s ⟨trivial,nofun⟩)
  λh1=>have i2:=lW h1; .jt (λy3=> .s ⟨trivial,λq3=>?_⟩)
  λk4 QV=> .c (λ_=>QV _)
  λh4=> .b zqg λr5 _=> .c (λh5=> .b (zxi ?_) λr6 vW=>QV _)
  λ_=>QV _)
  λk2 IV=> .c (λ_=>IV _ nofun)
  λh6=>have f7:=zgD (nf h6);IV _ λq8=>?_
 all_goals (try simp only[NB]at *)<;>omega
def mT{n:Int}(h0:0≤n):zA .i64 n 1024=n % 1024:=GO h0
def kT{n:Int}(h0:0≤n)(h1:n<1024):CC .i64 n 32=n / 32:=by
 unfold CC;rw[Int.tdiv_eq_ediv_of_nonneg h0,MB (by omega) (by omega)]
def zjc{a0 a1}(ha:wt a0≤1000000000):Ok (Cg a0 a1) λr=>wt r.1≤wt a0∧wt a0≤wt r.1:=by
 have hL:=DB;unfold Cg;simp only[N]at ha;refine Ok.same (qA (p:=wt a0≤bA) ?_) ?_
 ·simp only[N];omega
 refine Ok.bind zi9 (λr2 eW=>?_);refine Ok.cond' (λh=>Ok.some' ?_) (λh=>?_)
 ·simp only[N];omega
 ·simp only[B]at h;have hm:=eW.2 h;have e1:=mT hm.2.1;have e2:=kT (n:=a1 % 1024) (by omega) (by omega);have e3:=GO (a:=a1 % 1024) (b:=32) (by omega);rw[e1,e2,e3];refine Ok.join (λy:Aq=>y.Bits.length=32) (λy hy=>?_) (λk hk=>?_)
  ·refine Ok.chk ?_ ?_
   ·simp only[B];omega
   refine Ok.bind (Ok.get ?_) (λe he=>?_)
   ·omega
   refine Ok.chkn ?_ ?_
   ·simp only[B];omega
   refine Ok.chk ?_ ?_
   ·simp only[B];omega
   refine Ok.bind (Ok.get ?_) (λe' zX=>?_)
   ·omega
   refine Ok.join (λz:Aq=>z.Bits.length=32) (λz hz=>?_) (λk' dX=>?_)
   ·refine Ok.some' ?_;simp only[N];omega
   ·refine Ok.cond' (λ_=>dX _ ?_) (λ_=>dX _ ?_)
    ·simp only[N];exact hy
    ·simp only[N];exact hy
  ·refine Ok.loop (λx:Int×Int×Aq=>0≤x.2.1∧x.2.1≤281474976710656∧0≤x.1∧x.1≤1024∧x.2.2.Bits.length=32) (λx=>(1025 - x.1).toNat) (λx hx k' dX=>?_) ?_ ?_
   ·have f1:=mT hx.1;have f2:=kT (n:=x.2.1 % 1024) (by omega) (by omega);have f3:=GO (a:=x.2.1 % 1024) (b:=32) (by omega);rw[f1,f2,f3];refine Ok.join (λy:Bool=>y=true→x.1<1024∧x.2.1≤a1) (λy hy=>?_) (λk2 IV=>?_)
    ·refine Ok.cond' (λh=>?_) (λ_=>hk _ hx.2.2.2.2);have hy:=hy h;refine Ok.chk ?_ ?_
     ·simp only[B];omega
     refine Ok.bind (Ok.get ?_) (λe he=>?_)
     ·omega
     refine Ok.chkn ?_ ?_
     ·simp only[B];omega
     refine Ok.chk ?_ ?_
     ·simp only[B];omega
     refine Ok.bind (Ok.get ?_) (λe' zX=>?_)
     ·omega
     have g1:=DA (a:=x.1) (b:=1) (by omega) (by omega);have g2:=DA (a:=x.2.1) (b:=1) (by omega) (by omega);refine dX _ ?_ ?_
     ·simp only[N];omega
     ·simp only;omega
    ·refine Ok.cond' (λh=>IV _ λq=>?_) (λ_=>IV _ λq=>nomatch q);simp only[B]at h q;omega
   ·have g:=DA (a:=a0.Top) (b:=1) (by omega) (by omega);simp only;omega
   ·simp only;omega
def zi7:Ok (Fo) λr=>wt r≤32∧32≤wt r:=by
 unfold Fo
 refine .j (λy1:Aq=>wt y1≤32∧32≤wt y1) (λy1 lW=> .s ?_)
  λk2 IV=> .l (λx3:Int×Aq=>0≤x3.1∧x3.1≤32∧x3.2.Bits.length=x3.1) (λx3:Int×Aq=>(32 - x3.1).toNat) (λx3 DY k4 QV=> .c (λh1=> .g ?_ (QV _ ?_ ?_))
  λh1=>IV _ ?_) ?_ ?_
 all_goals (try simp only[NB]at *)<;>(try simp(disch:=omega) only[DA,LA]at *)<;>omega
def AU{a0 a1}(ha:wt a1≤1000000000):Ok (By a0 a1) λr=>wt r≤64:=by
 unfold By
 refine .j (λy1:Bool=>y1=false→a1.length=32) (λy1 lW=> .c (λh1=> .s ?_)
  λh1=>have i2:=lW h1; .g ?_ (.b zi7 λr3 uW=> .s ?_))
  λk2 IV=> .c (λ_=>IV _ nofun)
  λh3=>IV _ λq4=>?_
 all_goals (try simp only[NB]at *)<;>omega
def ze9{a0 a1 a2}(ha:wt a1≤1000000000)(hb:wt a2≤1000000000):Ok (Ei a0 a1 a2) λr=>wt r≤76:=by
 unfold Ei
 refine .j (λy1:Bool=>y1=false→a1.length=12∧a2.length=32) (λy1 lW=> .c (λh1=> .s ?_)
  λh1=>have i2:=lW h1; .g ?_ (.b (AU ?_) λr3 uW=> .s ?_))
  λk2 IV=> .c (λ_=>IV _ nofun)
  λh3=> .c (λ_=>IV _ nofun)
  λh4=>IV _ λq5=>?_
 all_goals (try simp only[NB]at *)<;>omega
def zra{a0 a1 a2 a3 a4}(ha:wt a0≤1000000000)(hb:wt a2≤1000000000)(hc:wt a4≤1000000000):Ok (Gr a0 a1 a2 a3 a4) λr=>wt r.1≤wt a0∧wt r.2.1≤300:=by
 unfold Gr
 refine .cp ?_ (.jt (λy2=> .c (λh1=> .s ?_)
  λh1=> .jt (λy5=> .c (λh2=> .s ?_)
  λh2=> .c (λh3=> .s ?_)
  λh3=> .b (zfB ?_ ?_ ?_) λr7 ⟨HW,hr7i⟩=> .s ?_)
  λk6 CW=> .c (λ_=>CW _)
  λ_=>CW _)
  λk3 JV=> .c (λ_=>JV _)
  λh5=>have f6:=zam (nf h5); .b (za2 ?_) λr4 UV=> .c (λ_=>JV _)
  λh7=> .c (λ_=>JV _)
  λ_=>JV _)
 all_goals (try simp only[NB]at *)<;>(try simp(disch:=omega) only[DA,LA]at *)<;>omega
def zP{a0 a1 a2}(ha:wt a0≤1000000000)(hb:wt a2≤1000000000):Ok (Cd a0 a1 a2) λr=>wt r.1≤wt a0∧wt r.2.1≤300:=by
 unfold Cd
 refine .cp ?_ (.b (cK ?_) λr2 eW=> .c (λh1=> .s ?_)
  λh1=>have i2:=eW (nf h1); .b (zra ?_ ?_ ?_) λr3 uW=> .j (λy4:Ak=>wt y4≤wt a0) (λy4 MY=> .s ?_)
  λk5 dW=> .c (λh3=>dW _ ?_)
  λh3=>dW _ ?_)
 all_goals (try simp only[NB]at *)<;>omega
def zfD{a0 a1}(ha:wt a0≤1000000000)(hb:wt a1≤1000000000):Ok (Ee a0 a1) λr=>wt r≤a0.length+a1.length:=by
 unfold Ee;refine .g ?_ (.g ?_ (.s ?_))
 all_goals (try simp only[NB]at *)<;>omega
def ML{a0 a1}(ha:wt a0≤1000000000)(hb:wt a1≤1000000000):Ok (Bn a0 a1) λr=>wt r≤a0.Cur.Key.length+160:=by
 unfold Bn;refine .b (oN ?_) λr1 NV=> .b (zfD ?_ ?_) λr2 eW=> .s ?_
 all_goals (try simp only[NB]at *)<;>omega
def zbD{a0 a1 a2}(ha:wt a0≤1000000000)(hb:wt a1≤1000000000)(hc:wt a2≤1000000000):Ok (Do a0 a1 a2) λr=>wt r≤a0.length+a1.length+a2.length:=by
 unfold Do;refine .g ?_ (.g ?_ (.g ?_ (.s ?_)))
 all_goals (try simp only[NB]at *)<;>omega
def zio{a0 a1}(ha:wt a0≤1000000000):Ok (Bu a0 a1) λr=>wt r≤wt a0:=by
 unfold Bu
 refine .cp ?_ (.jt (λy2=> .j (λy5:Ak=>wt y5≤wt a0) (λy5 O5=> .s ?_)
  λk6 CW=> .c (λh1=>CW _ ?_)
  λh1=>CW _ ?_)
  λk3 JV=> .b (cK ?_) λr4 UV=> .c (λh2=>have i3:=UV h2; .c (λh4=> .c (λh5=> .c (λ_=>JV _)
  λ_=>JV _)
  λ_=>JV _)
  λ_=>JV _)
  λ_=>JV _)
 all_goals (try simp only[NB]at *)<;>omega
def zaR{a0}:Ok (Bk a0) λr=>r.length≤6:=by
 unfold Bk
 refine .c (λh1=> .s ?_)
  λh1=> .b (JG ?_) λr1 NV=> .s ?_
 all_goals (try simp only[NB]at *)<;>omega
def ziz{a0}(ha:wt a0≤1000000000):Ok (Fh a0) λr=>wt r.1≤wt a0∧wt r.2.1≤300:=by
 unfold Fh
 refine .jt (λy1=> .c (λh1=> .cp ?_ (.s ?_))
  λh1=> .b zaR λr5 RV=> .b (zP ?_ ?_) λr6 vW=> .s ?_)
  λk2 IV=> .b (cK ?_) λr3 uW=> .c (λ_=>IV _)
  λ_=>IV _
 all_goals (try simp only[NB]at *)<;>(try simp(disch:=omega) only[DA,LA]at *)<;>omega
def zks{a0}(ha:wt a0≤1000000000):Ok (Fq a0) λr=>wt r.1≤wt a0∧wt r.2.1≤300:=by
 unfold Fq
 refine .jt (λy1=> .c (λh1=> .cp ?_ (.s ?_))
  λh1=> .b zaR λr5 RV=> .b (zP ?_ ?_) λr6 vW=> .s ?_)
  λk2 IV=> .b (cK ?_) λr3 uW=> .c (λ_=>IV _)
  λ_=>IV _
 all_goals (try simp only[NB]at *)<;>omega
def zr3{a0}(ha:wt a0≤1000000000):Ok (Cu a0) λr=>wt r.1≤wt a0+32:=by
 unfold Cu
 refine .cp ?_ (.jt (λy2=> .c (λh1=> .s ?_)
  λh1=> .b (rM ?_) λr5 RV=> .s ?_)
  λk3 JV=> .b (cK ?_) λr4 UV=> .c (λ_=>JV _)
  λh2=>have i3:=UV (nf h2); .c (λ_=>JV _)
  λh4=> .c (λ_=>JV _)
  λ_=>JV _)
 all_goals (try simp only[NB]at *)<;>omega
def zsg{a0}(ha:wt a0≤1000000000):Ok (Hj a0) λr=>wt r.1≤wt a0+64:=by
 unfold Hj
 refine .cp ?_ (.jt (λy2=> .c (λh1=> .s ?_)
  λh1=> .b (rM ?_) λr5 RV=> .b (AU ?_) λr6 vW=> .s ?_)
  λk3 JV=> .b (cK ?_) λr4 UV=> .c (λ_=>JV _)
  λh2=>have i3:=UV (nf h2); .c (λ_=>JV _)
  λ_=>JV _)
 all_goals (try simp only[NB]at *)<;>(try simp(disch:=omega) only[DA,LA]at *)<;>omega
def zsr{a0 a1}(ha:a0.length≤1000000000)(hb:a1.length≤1000000000):Ok (Bo a0 a1) λr=>True:=by
 unfold Bo
 refine .c (λh1=> .s trivial)
  λh1=> .jt (λy1=> .s trivial)
  λk2 IV=> .l (λx3:Int×Int=>0≤x3.2∧x3.2≤(a0.length:Int)) (λx3:Int×Int=>((a0.length:Int) - x3.2).toNat) (λx3 DY k4 QV=> .c (λh2=> .bi ?_ ?_ λe5 BX tX=> .bi ?_ ?_ λe6 xY sX=>QV _ ?_ ?_)
  λ_=>IV _) ?_ ?_
 all_goals (try simp only[NB]at *)<;>(try simp(disch:=omega) only[DA,LA]at *)<;>omega
def zfb{a0 a1}(ha:a0.length≤1000000000)(hb:a1.length≤1000000000):Ok (Bm a0 a1) λr=>True:=by
 unfold Bm
 refine .jt (λy1=> .s trivial)
  λk2 IV=> .c (λh1=> .b (zsr ?_ ?_) λr3 _=>IV _)
  λ_=>IV _
 all_goals (try simp only[NB]at *)<;>omega
def zre{a0 a1 a2}(ha:wt a0≤1000000000)(hb:wt a2≤1000000000):Ok (Hi a0 a1 a2) λr=>r.1.length≤200:=by
 unfold Hi
 refine .b (oN ?_) λr1 NV=> .jt (λy2=> .c (λh1=> .s ?_)
  λh1=> .b (za2 ?_) λr6 vW=> .b (zfN ?_ ?_) λr7 HW=> .s ?_)
  λk3 JV=> .c (λ_=>JV _)
  λh2=> .c (λ_=>JV _)
  λh3=> .b jV λr4 UV=> .b (zfb ?_ ?_) λr5 _=>JV _
 all_goals (try simp only[NB]at *)<;>omega
def zfl{a0 a1 a2}(ha:wt a0≤1000000000)(hb:wt a2≤1000000000):Ok (Cy a0 a1 a2) λr=>wt r.1≤wt a0∧r.2.1.length≤200:=by
 unfold Cy
 refine .cp ?_ (.jt (λy2=> .c (λh1=> .s ?_)
  λh1=> .b zi9 λr5 ⟨RV,hr5i⟩=> .c (λh2=> .s ?_)
  λh2=>have i3:=hr5i (nf h2); .b (zre ?_ ?_) λr6 vW=> .c (λh4=> .s ?_)
  λh4=> .b (zjc ?_) λr7 HW=> .s ?_)
  λk3 JV=> .c (λ_=>JV _)
  λh5=>have f6:=zam (nf h5); .b (oN ?_) λr4 UV=> .c (λ_=>JV _)
  λ_=>JV _)
 all_goals (try simp only[NB]at *)<;>omega
def zin{a0 a1 a2}(ha:wt a0≤1000000000)(hb:wt a2≤1000000000):Ok (Ej a0 a1 a2) λr=>wt r.1≤wt a0+64∧r.2.1.length≤200:=by
 unfold Ej
 refine .cp ?_ (.jt (λy2=> .c (λh1=> .s ?_)
  λh1=> .b (zab ?_) λr5 RV=> .c (λh2=> .s ?_)
  λh2=> .c (λh3=> .b (zfl ?_ ?_) λr6 vW=> .c (λh4=> .s ?_)
  λh4=> .jt (λy7=> .j (λy9:Ak=>wt y9≤wt a0+64) (λy9 yY=> .s ?_)
  λk10 OV=> .c (λh5=>OV _ ?_)
  λh5=>OV _ ?_)
  λk8 pW=> .c (λ_=>pW _)
  λ_=>pW _)
  λh3=> .jt (λy11=> .c (λh7=> .jt (λy13=> .c (λh8=> .s ?_)
  λh8=> .b (zfl ?_ ?_) λr15 NW=> .c (λh9=> .s ?_)
  λh9=> .s ?_)
  λk14 SV=> .c (λ_=>SV _)
  λ_=>SV _)
  λh7=> .jt (λy16=> .c (λGW=> .b (AU ?_) λr18 ZX=> .b (zfl ?_ ?_) λr19 IX=> .c (λUW=> .s ?_)
  λUW=> .s ?_)
  λGW=> .s ?_)
  λk17 iW=> .c (λ_=>iW _)
  λ_=>iW _)
  λk12 jW=> .c (λ_=>jW _)
  λ_=>jW _)
  λk3 JV=> .b (cK ?_) λr4 UV=> .c (λ_=>JV _)
  λHY=>have i16:=UV (nf HY); .c (λ_=>JV _)
  λxZ=> .c (λ_=>JV _)
  λ_=>JV _)
 all_goals (try simp only[NB]at *)<;>(try simp(disch:=omega) only[DA,LA]at *)<;>omega
def zi2{a0 a1}(ha:wt a0≤1000000000):Ok (Fr a0 a1) λr=>r.1.length≤wt a0:=by
 unfold Fr
 refine .b (cK ?_) λr1 NV=> .c (λh1=> .s ?_)
  λh1=>have i2:=NV (nf h1); .jt (λy2=> .c (λh3=> .g ?_ (.s ?_))
  λh3=> .c (λh4=> .g ?_ (.s ?_))
  λh4=> .jt (λy4=> .c (λh5=> .g ?_ (.s ?_))
  λh5=> .s ?_)
  λk5 dW=> .c (λ_=>dW _)
  λ_=>dW _)
  λk3 JV=> .c (λ_=>JV _)
  λ_=>JV _
 all_goals (try simp only[NB]at *)<;>(try simp(disch:=omega) only[DA,LA]at *)<;>omega
def zph{a0 a1 a2}(ha:wt a0≤1000000000)(hb:wt a2≤1000000000):Ok (Hk a0 a1 a2) λr=>wt r.1≤wt a0+64:=by
 unfold Hk
 refine .cp ?_ (.jt (λy2=> .c (λh1=> .s ?_)
  λh1=> .c (λh2=> .b (zsg ?_) λr7 HW=> .c (λh3=> .s ?_)
  λh3=> .s ?_)
  λh2=> .c (λh4=> .s ?_)
  λh4=> .s ?_)
  λk3 JV=> .b (cK ?_) λr4 UV=> .c (λ_=>JV _)
  λh5=>have i6:=UV (nf h5); .c (λ_=>JV _)
  λh7=> .c (λ_=>JV _)
  λh8=> .b zaR λr5 RV=> .b (zab ?_) λr6 vW=>JV _)
 all_goals (try simp only[NB]at *)<;>(try simp(disch:=omega) only[DA,LA]at *)<;>omega
def zqO{a0}(ha:wt a0≤1000000000):Ok (Hs a0) λr=>wt r≤400:=by
 unfold Hs
 refine .b (cK ?_) λr1 NV=> .c (λh1=> .s ?_)
  λh1=>have i2:=NV (nf h1); .j (λy2:(List (List UInt8))=>wt y2≤200) (λy2 xW=> .g ?_ (.g ?_ (.j (λy4:(List (List UInt8))=>wt y4≤400) (λy4 MY=> .s ?_)
  λk5 dW=> .c (λh3=> .g ?_ (.g ?_ (dW _ ?_)))
  λh3=>dW _ ?_)))
  λk3 JV=> .c (λh4=> .g ?_ (.g ?_ (JV _ ?_)))
  λh4=>JV _ ?_
 all_goals (try simp only[NB]at *)<;>omega
def zix{a0 a1}(ha:wt a0≤1000000000):Ok (Bv a0 a1) λr=>wt r≤wt a0+1600:=by
 unfold Bv;refine have hw:=zB a0.Cands;
 .j (λy1:Bool=>y1=false→wt a0≤39∧a0.Cands.length≤3) (λy1 lW=> .c (λh1=> .cp ?_ (.s ?_))
  λh1=>have i2:=lW h1; .j (λy4:Aj=>wt y4≤1600) (λy4 MY=> .s ?_)
  λk5 dW=> .l (λx6:Int×Aj=>0≤x6.1∧x6.1≤(a0.Cands.length:Int)∧wt x6.2≤40 *x6.1) (λx6:Int×Aj=>((a0.Cands.length:Int) - x6.1).toNat) (λx6 b7 k7 TV=> .c (λh3=> .bi ?_ ?_ λe8 S3 Q2=> .j (λy9:Aj=>wt y9≤40 *x6.1+40) (λy9 yY=>TV _ ?_ ?_)
  λk10 OV=> .c (λh4=> .bi ?_ ?_ λe11 he11 n7=> .m (qA ?_) (.g ?_ (OV _ ?_)))
  λh4=>OV _ ?_)
  λh3=>dW _ ?_) ?_ ?_)
  λk2 IV=> .c (λ_=>IV _ nofun)
  λh5=>have f6:=gI (nf h5);IV _ λq7=>?_
 all_goals (try simp only[NB]at *)<;>(try simp(disch:=omega) only[DA,LA]at *)<;>omega
def zjg{a0 a1 a2 a3}(ha:wt a0≤1000000000)(hb:wt a3≤1000000000):Ok (Ek a0 a1 a2 a3) λr=>wt r.1≤wt a0+1700:=by
 unfold Ek
 refine .j (λy1:Bool=>y1=false→a3.length=12) (λy1 lW=> .c (λh1=> .cp ?_ (.s ?_))
  λh1=>have i2:=lW h1; .b (zix ?_) λr5 RV=>have hw:=zB r5.Cands; .jt (λy6=> .c (λh3=> .cp ?_ (.s ?_))
  λh3=> .g ?_ (.g ?_ (.s ?_)))
  λk7 TV=> .l (λx8:Int×Aj=>0≤x8.1∧x8.1≤(r5.Cands.length:Int)) (λx8:Int×Aj=>((r5.Cands.length:Int) - x8.1).toNat) (λx8 W4 k9 jX=> .c (λh4=> .h ?_ (.bg ?_ λe10 qY wX=> .c (λh5=> .cp ?_ (.s ?_))
  λh5=>jX _ ?_ ?_))
  λ_=>TV _) ?_ ?_)
  λk2 IV=> .c (λ_=>IV _ nofun)
  λh6=>have f7:=gI (nf h6); .c (λ_=>IV _ nofun)
  λh8=> .c (λ_=>IV _ nofun)
  λh9=>have f10:=GF (nf h9); .c (λ_=>IV _ nofun)
  λGW=>IV _ λq12=>?_
 all_goals (try simp only[NB]at *)<;>(try simp(disch:=omega) only[DA,LA]at *)<;>omega
def zrc{a0 a1 a2 a3}(ha:wt a0≤1000000000)(hb:wt a3≤1000000000):Ok (Fs a0 a1 a2 a3) λr=>wt r.1≤wt a0+1600:=by
 unfold Fs;refine have hw:=zB a0.Cands;
 .b (zt2 ?_) λr1 ⟨NV,V4⟩=> .j (λy2:Bool=>y2=false→wt a0≤39∧a0.Cands.length≤3) (λy2 xW=> .c (λh1=> .cp ?_ (.s ?_))
  λh1=>have i2:=xW h1; .j (λy6:Aj=>wt y6≤1600) (λy6 xX=> .s ?_)
  λk7 TV=> .l (λx8:Int×Aj=>0≤x8.1∧x8.1≤(a0.Cands.length:Int)∧wt x8.2≤40 *x8.1) (λx8:Int×Aj=>((a0.Cands.length:Int) - x8.1).toNat) (λx8 W4 k9 jX=> .c (λh3=> .bi ?_ ?_ λe10 qY wX=> .j (λy12:Aj=>wt y12≤40 *x8.1+40) (λy12 HX=>jX _ ?_ ?_)
  λk13 XV=> .c (λh4=> .bi ?_ ?_ λe14 YZ SY=> .m (qA ?_) (.g ?_ (XV _ ?_)))
  λh4=>XV _ ?_)
  λh3=>TV _ ?_) ?_ ?_)
  λk3 JV=> .c (λ_=>JV _ nofun)
  λh5=>have i6:=V4 (nf h5); .c (λ_=>JV _ nofun)
  λh7=> .b (zab ?_) λr4 UV=> .c (λ_=>JV _ nofun)
  λh8=>JV _ λq9=>?_
 all_goals (try simp only[NB]at *)<;>(try simp(disch:=omega) only[DA,LA]at *)<;>omega
def zjz{a0 a1 a2}(ha:wt a0≤1000000000):Ok (Fj a0 a1 a2) λr=>wt r≤wt a0+1:=by
 unfold Fj;refine have hc:=iT a0 a1;
 have hw:=zB a0;
 .g ?_ (.jt (λy1=> .c (λh1=> .s ?_)
  λh1=> .c (λh2=> .c (λh3=> .s ?_)
  λh3=> .g ?_ (.s ?_))
  λh2=> .h ?_ (.bg ?_ λe3 X4 U2=> .h ?_ (.bg ?_ λe4 rZ TY=> .h (have:=EC ([]++a0) ((oB a0 a1).toNat) (⟨e4.A,iA .i64 e3.Got a2,e4.Sent⟩:Al);?_) (.bg ?_ λe6 xY sX=> .j (λy7:(List Al)=>wt y7≤wt a0+1) (λy7 aY=> .s ?_)
  λk8 pW=> .c (λh4=> .h (have:=EC ([]++a0) ((oB a0 a1).toNat) (⟨e4.A,iA .i64 e3.Got a2,e4.Sent⟩:Al);?_) (.bg ?_ λe9 LZ CY=>pW _ (have:=EC (List.set ([]++a0) ((oB a0 a1).toNat) (⟨e4.A,iA .i64 e3.Got a2,e4.Sent⟩:Al):List Al) ((oB a0 a1).toNat) (⟨e9.A,1000000,e9.Sent⟩:Al);have:=EC ([]++a0) ((oB a0 a1).toNat) (⟨e4.A,iA .i64 e3.Got a2,e4.Sent⟩:Al);?_)))
  λh4=>pW _ (have:=EC ([]++a0) ((oB a0 a1).toNat) (⟨e4.A,iA .i64 e3.Got a2,e4.Sent⟩:Al);?_)))))
  λk2 IV=> .c (λ_=>IV _)
  λh5=>have f6:=KI (nf h5); .c (λ_=>IV _)
  λ_=>IV _)
 all_goals (try simp only[NB]at *)<;>(try simp(disch:=omega) only[DA,LA]at *)<;>omega
def ziH{a0 a1}:Ok (Bw a0 a1) λr=>True:=by
 unfold Bw;refine have hc:=iT a0 a1;
 have hw:=zB a0;
 .j (λy1:Bool=>y1=false→0≤oB a0 a1) (λy1 lW=> .c (λh1=> .s trivial)
  λh1=>have i2:=lW h1; .bi ?_ ?_ λe3 X4 U2=> .bi ?_ ?_ λe4 rZ TY=> .s trivial)
  λk2 IV=> .c (λ_=>IV _ nofun)
  λh3=>have f4:=KI (nf h3);IV _ λq5=>?_
 all_goals (try simp only[NB]at *)<;>(try simp(disch:=omega) only[DA,LA]at *)<;>omega
def zjo{a0 a1 a2}(ha:wt a0≤1000000000):Ok (Dp a0 a1 a2) λr=>wt r.1≤wt a0:=by
 unfold Dp;refine have hc:=iT a0 a1;
 have hw:=zB a0;
 .g ?_ (.j (λy1:Bool=>y1=false→0≤oB a0 a1) (λy1 lW=> .c (λh1=> .s ?_)
  λh1=>have i2:=lW h1; .h ?_ (.bg ?_ λe4 rZ TY=> .h ?_ (.bg ?_ λe5 BX tX=> .s (have:=EC ([]++a0) ((oB a0 a1).toNat) (⟨e5.A,e5.Got,iA .i64 e4.Sent a2⟩:Al);?_))))
  λk2 IV=> .c (λ_=>IV _ nofun)
  λh3=> .c (λ_=>IV _ nofun)
  λh4=>have f5:=KI (nf h4); .b ziH λr3 _=>IV _ λq6=>?_)
 all_goals (try simp only[NB]at *)<;>(try simp(disch:=omega) only[DA,LA]at *)<;>omega
def zjI{a0 a1}(ha:wt a0≤1000000000):Ok (Dn a0 a1) λr=>True:=by
 unfold Dn;refine have hw:=zB a0.L;
 .jt (λy1=> .s trivial)
  λk2 IV=> .l (λx3:Int=>0≤x3∧x3≤(a0.L.length:Int)) (λx3:Int=>((a0.L.length:Int) - x3).toNat) (λx3 DY k4 QV=> .c (λh1=> .jt (λy5=> .c (λh2=> .s trivial)
  λh2=>QV _ ?_ ?_)
  λk6 CW=> .bi ?_ ?_ λe7 MZ pY=> .c (λh3=> .bi ?_ ?_ λe8 S3 Q2=>CW _)
  λ_=>CW _)
  λ_=>IV _) ?_ ?_
 all_goals (try simp only[NB]at *)<;>(try simp(disch:=omega) only[DA,LA]at *)<;>omega
def zi4{a0 a1 a2}(ha:wt a0≤1000000000):Ok (Fk a0 a1 a2) λr=>True:=by
 unfold Fk
 refine .jt (λy1=> .s trivial)
  λk2 IV=> .b (zjI ?_) λr3 _=> .c (λ_=>IV _)
  λh1=> .b ziH λr4 _=>IV _
 all_goals (try simp only[NB]at *)<;>omega
def zqd{a0 a1}(ha:wt a0≤1000000000):Ok (Hb a0 a1) λr=>r.length≤a0.length+12:=by
 unfold Hb
 refine .c (λh1=> .g ?_ (.s ?_))
  λh1=>have f2:=GF (nf h1); .b (JG ?_) λr1 NV=> .b (JG ?_) λr2 eW=> .s ?_
 all_goals (try simp only[NB]at *)<;>omega
def ze2{a0 a1 a2 a3 a4}(ha:wt a2≤1000000000)(hb:wt a3≤1000000000):Ok (Eg a0 a1 a2 a3 a4) λr=>r.length≤60:=by
 unfold Eg
 refine .j (λy1:Bool=>y1=false→a2.length=12∧a3.length=12) (λy1 lW=> .c (λh1=> .s ?_)
  λh1=>have i2:=lW h1; .b (zqd ?_) λr3 uW=> .g ?_ (.g ?_ (.g ?_ (.b (JG ?_) λr5 RV=> .s ?_))))
  λk2 IV=> .c (λ_=>IV _ nofun)
  λh3=>have f4:=GF (nf h3); .c (λ_=>IV _ nofun)
  λh5=> .c (λ_=>IV _ nofun)
  λh6=> .c (λ_=>IV _ nofun)
  λh7=>IV _ λq8=>?_
 all_goals (try simp only[NB]at *)<;>omega
def zj0{a0 a1 a2 a3 a4 a5}(ha:wt a3≤1000000000)(hb:wt a4≤1000000000):Ok (Fl a0 a1 a2 a3 a4 a5) λr=>r.length≤16:=by
 unfold Fl
 refine .b (ze2 ?_ ?_) λr1 NV=> .jt (λy2=> .c (λh1=> .s ?_)
  λh1=> .b jV λr4 UV=> .s ?_)
  λk3 JV=> .c (λ_=>JV _)
  λ_=>JV _
 all_goals (try simp only[NB]at *)<;>omega
def zrQ{a0 a1}:Ok (Cv a0 a1) λr=>True:=by
 unfold Cv
 refine .jt (λy1=> .s trivial)
  λk2 IV=> .c (λh1=> .c (λ_=>IV _)
  λ_=>IV _)
  λ_=>IV _
def zrm{a0 a1 a2 a3}(ha:wt a3≤1000000000):Ok (Hc a0 a1 a2 a3) λr=>r=0→a3.Kind=3∧1≤a3.Id∧a3.Id≤9:=by
 unfold Hc
 refine .j (λy1:Bool=>y1=false→a3.Kind=3∧1≤a3.Id∧a3.Id≤9) (λy1 lW=> .c (λh1=> .s ?_)
  λh1=>have i2:=lW h1; .b zrQ λr3 _=> .c (λh3=> .s ?_)
  λh3=> .b (zj0 ?_ ?_) λr4 UV=> .b (zfb ?_ ?_) λr5 _=> .c (λh4=> .s ?_)
  λh4=> .s ?_)
  λk2 IV=> .c (λ_=>IV _ nofun)
  λh5=>have f6:=zdy (nf h5); .c (λ_=>IV _ nofun)
  λh7=> .c (λ_=>IV _ nofun)
  λh8=>have f9:=GF (nf h8); .c (λ_=>IV _ nofun)
  λtW=>have f11:=uD (nf tW);IV _ λq12=>?_
 all_goals (try simp only[NB]at *)<;>omega
def ziM{a0 a1}:Ok (Bx a0 a1) λr=>r.length≤32:=by
 unfold Bx;refine have hm:=iL a0 a1;
 .s ?_
 all_goals (try simp only[NB]at *)<;>omega
def zeW{a0}:Ok (Bh a0) λr=>r.length≤32:=by
 unfold Bh
 refine .c (λh1=> .s ?_)
  λh1=>have f2:=kL (nf h1); .b ziM λr2 eW=> .b (rM ?_) λr3 uW=> .s ?_
 all_goals (try simp only[NB]at *)<;>omega
def zeU{a0 a1 a2 a3 a4}(ha:wt a1≤1000000000)(hb:wt a2≤1000000000)(hc:wt a4≤1000000000):Ok (Eh a0 a1 a2 a3 a4) λr=>r.length≤60:=by
 unfold Eh
 refine .j (λy1:Bool=>y1=false→a1.length=12∧a2.length=12∧a4.length=16) (λy1 lW=> .c (λh1=> .s ?_)
  λh1=>have i2:=lW h1; .g ?_ (.g ?_ (.b (JG ?_) λr4 UV=> .g ?_ (.s ?_))))
  λk2 IV=> .c (λ_=>IV _ nofun)
  λh3=> .c (λ_=>IV _ nofun)
  λh4=> .c (λ_=>IV _ nofun)
  λh5=> .c (λ_=>IV _ nofun)
  λh6=>IV _ λq7=>?_
 all_goals (try simp only[NB]at *)<;>omega
def zjp{a0 a1 a2 a3 a4 a5}(ha:wt a2≤1000000000)(hb:wt a3≤1000000000)(hc:wt a5≤1000000000):Ok (Fm a0 a1 a2 a3 a4 a5) λr=>r.length≤16:=by
 unfold Fm
 refine .b zeW λr1 NV=> .b (zeU ?_ ?_ ?_) λr2 eW=> .jt (λy3=> .c (λh1=> .s ?_)
  λh1=> .b jV λr5 RV=> .s ?_)
  λk4 QV=> .c (λ_=>QV _)
  λ_=>QV _
 all_goals (try simp only[NB]at *)<;>omega
def zqu{a0 a1}(ha:wt a1≤1000000000):Ok (Hd a0 a1) λr=>True:=by
 unfold Hd
 refine .jt (λy1=> .s trivial)
  λk2 IV=> .c (λh1=>have f2:=uD h1; .c (λh3=> .b (zjp ?_ ?_ ?_) λr3 uW=> .b (zfb ?_ ?_) λr4 _=>IV _)
  λ_=>IV _)
  λ_=>IV _
 all_goals (try simp only[NB]at *)<;>omega
def zqn{a0 a1 a2}(ha:wt a1≤1000000000)(hb:wt a2≤1000000000):Ok (He a0 a1 a2) λr=>r.length≤32:=by
 unfold He
 refine .j (λy1:Bool=>y1=false→a1.length=12∧a2.length=12) (λy1 lW=> .c (λh1=> .s ?_)
  λh1=>have i2:=lW h1; .g ?_ (.g ?_ (.b ziM λr3 uW=> .s ?_)))
  λk2 IV=> .c (λ_=>IV _ nofun)
  λh3=>have f4:=kL (nf h3); .c (λ_=>IV _ nofun)
  λh5=>IV _ λq6=>?_
 all_goals (try simp only[NB]at *)<;>omega
def zpE{a0}:Ok (Cw a0) λr=>r.length≤32:=by
 unfold Cw
 refine .c (λh1=> .s ?_)
  λh1=> .b (rM ?_) λr1 NV=> .s ?_
 all_goals (try simp only[NB]at *)<;>omega
def zrx{a0 a1}(ha:wt a0≤1000000000):Ok (Hf a0 a1) λr=>r.length≤a0.length+32:=by
 unfold Hf
 refine .c (λh1=> .s ?_)
  λh1=> .g ?_ (.j (λy1:(List UInt8)=>y1.length≤a0.length+32) (λy1 lW=> .s ?_)
  λk2 IV=> .l (λx3:(List UInt8)×Int=>0≤x3.2∧x3.2≤64∧x3.1.length≤a0.length+32) (λx3:(List UInt8)×Int=>(64 - x3.2).toNat) (λx3 DY k4 QV=> .c (λh2=> .b (rM ?_) λr5 RV=>QV _ ?_ ?_)
  λh2=>IV _ ?_) ?_ ?_)
 all_goals (try simp only[NB]at *)<;>(try simp(disch:=omega) only[DA,LA]at *)<;>omega
def zit{a0 a1 a2 a3}(ha:wt a1≤1000000000)(hb:wt a2≤1000000000):Ok (Fn a0 a1 a2 a3) λr=>r.length≤64:=by
 unfold Fn
 refine .b (zqn ?_ ?_) λr1 NV=> .b zpE λr2 eW=> .c (λh1=> .s ?_)
  λh1=> .b (zrx ?_) λr3 uW=> .s ?_
 all_goals (try simp only[NB]at *)<;>omega
def ziw{a0 a1 a2}(ha:wt a2≤1000000000):Ok (Ft a0 a1 a2) λr=>wt r.1≤200:=by
 unfold Ft
 refine .j (λy1:Bool=>y1=false→wt a2≤112) (λy1 lW=> .c (λh1=> .s ?_)
  λh1=>have i2:=lW h1; .b (zjp ?_ ?_ ?_) λr3 uW=> .c (λh3=> .s ?_)
  λh3=> .cp ?_ (.s ?_))
  λk2 IV=> .c (λ_=>IV _ nofun)
  λh4=>have f5:=uD (nf h4);IV _ λq6=>?_
 all_goals (try simp only[NB]at *)<;>omega
end Go.D
namespace Go.D
def nN{a0}:Ok (Bf a0) λr=>True:=by
 unfold Bf
 refine .c (λh1=> .s trivial)
  λh1=> .s trivial
def zoX{a0 a1}:Ok (Cq a0 a1) λr=>True:=by
 unfold Cq
 refine .jt (λy1=> .s trivial)
  λk2 IV=> .c (λh1=> .c (λh2=> .c (λ_=>IV _)
  λ_=>IV _)
  λ_=>IV _)
  λ_=>IV _
def NT{a0 a1}:Ok (Cs a0 a1) λr=>True:=by
 unfold Cs
 refine .b zoX λr1 _=> .c (λh1=> .s trivial)
  λh1=> .c (λh2=> .s trivial)
  λh2=> .jt (λy2=> .s trivial)
  λk3 JV=> .c (λ_=>JV _)
  λ_=>JV _
def ziV{a0}(ha:wt a0≤1000000000):Ok (Fe a0) λr=>wt r≤a0.Cn.length:=by
 unfold Fe;refine .g ?_ (.s ?_)
 all_goals (try simp only[NB]at *)<;>omega
def zaX{a0}(ha:wt a0≤1000000000)(hb:1≤a0.Id∧a0.Id≤9∧1≤a0.Psk.length∧a0.Psk.length≤32∧0≤a0.At.Host∧a0.At.Host≤4294967295∧0≤a0.At.Port∧a0.At.Port≤65535):Ok (Dm a0) λr=>wt r≤wt a0∧r.Id=a0.Id:=by
 unfold Dm;refine .b (zjh ?_ ?_ ?_ ?_) λr1 NV=> .s ?_
 all_goals (try simp only[NB]at *)<;>omega
def zjF{a0 a1 a2}(ha:wt a0≤1000000000)(hb:wt a2≤1000000000):Ok (Ff a0 a1 a2) λr=>wt r.1≤wt a0+12∧r.1.Id=a0.Id∧r.2.1.length≤1∧wt r.2.1≤400∧wt r.2.2.1≤2000:=by
 unfold Ff
 refine .cp ?_ (.j (λy2:Bool=>y2=false→CF a0∧a2.length=12) (λy2 xW=> .c (λh1=> .s ?_)
  λh1=>have i2:=xW h1; .c (λh3=> .s ?_)
  λh3=> .g ?_ (.b nN λr5 _=> .g ?_ (.b (ziV ?_) λr6 vW=> .s ?_)))
  λk3 JV=> .b (GN ?_) λr4 UV=> .c (λ_=>JV _ nofun)
  λh4=>have i5:=UV (nf h4); .c (λ_=>JV _ nofun)
  λh6=>JV _ λq7=>?_)
 all_goals (try simp only[NB]at *)<;>omega
def zo1{a0 a1 a2}(ha:wt a0≤1000000000)(hb:wt a2≤1000000000):Ok (Gs a0 a1 a2) λr=>wt r.1≤wt a0∧r.1.Id=a0.Id∧r.2.1.length≤1∧wt r.2.1≤400∧wt r.2.2.1≤2000:=by
 unfold Gs
 refine .cp ?_ (.j (λy2:Bool=>y2=false→CF a0∧a2.length≤40) (λy2 xW=> .c (λh1=> .s ?_)
  λh1=>have i2:=xW h1; .c (λh3=> .s ?_)
  λh3=> .b (zP ?_ ?_) λr5 RV=> .c (λh4=> .s ?_)
  λh4=> .g ?_ (.g ?_ (.b (ML ?_ ?_) λr6 vW=> .s ?_)))
  λk3 JV=> .b (GN ?_) λr4 UV=> .c (λ_=>JV _ nofun)
  λh5=>have i6:=UV (nf h5); .c (λ_=>JV _ nofun)
  λh7=>JV _ λq8=>?_)
 all_goals (try simp only[NB]at *)<;>omega
def zoI{a0 a1}(ha:wt a0≤1000000000):Ok (Ha a0 a1) λr=>wt r.1≤wt a0+32∧r.1.Id=a0.Id∧r.2.1.length≤1∧wt r.2.1≤400∧wt r.2.2.1≤2000:=by
 unfold Ha
 refine .cp ?_ (.j (λy2:Bool=>y2=false→CF a0) (λy2 xW=> .c (λh1=> .s ?_)
  λh1=>have i2:=xW h1; .jt (λy5=> .c (λh3=> .s ?_)
  λh3=> .b (zr3 ?_) λr7 HW=> .b (ziz ?_) λr8 sW=> .jt (λy9=> .c (λh4=> .s ?_)
  λh4=> .b nN λr11 _=> .b (ML ?_ ?_) λr12 yW=> .s ?_)
  λk10 OV=> .c (λ_=>OV _)
  λ_=>OV _)
  λk6 CW=> .c (λ_=>CW _)
  λ_=>CW _)
  λk3 JV=> .b (GN ?_) λr4 UV=> .c (λ_=>JV _ nofun)
  λh7=>have i8:=UV (nf h7);JV _ λq9=>?_)
 all_goals (try simp only[NB]at *)<;>omega
def zoZ{a0 a1}(ha:wt a0≤1000000000):Ok (Gv a0 a1) λr=>wt r.1≤wt a0∧r.1.Id=a0.Id∧r.2.1.length≤2∧wt r.2.1≤900∧wt r.2.2≤2000:=by
 unfold Gv
 refine .cp ?_ (.j (λy2:Bool=>y2=false→CF a0) (λy2 xW=> .c (λh1=> .s ?_)
  λh1=>have i2:=xW h1; .c (λh3=> .b NT λr5 _=> .c (λh4=> .b (zaX ?_ ?_) λr6 vW=> .g ?_ (.g ?_ (.s ?_)))
  λh4=> .jt (λy8=> .j (λy10:(List Ab)=>y10.length≤1∧wt y10≤400) (λy10 aX=> .jt (λy13=> .j (λy15:(List Ab)=>y15.length≤2∧wt y15≤900) (λy15 ZZ=> .s ?_)
  λk16 OW=> .c (λh5=> .cp ?_ (.g ?_ (OW _ ?_)))
  λh5=>OW _ ?_)
  λk14 SV=> .c (λ_=>SV _)
  λ_=>SV _)
  λk11 PV=> .c (λh7=> .b (ziV ?_) λr12 yW=> .g ?_ (PV _ ?_))
  λh7=>PV _ ?_)
  λk9 jX=> .c (λ_=>jX _)
  λ_=>jX _)
  λh3=> .c (λh9=> .b (zaX ?_ ?_) λr18 ZX=> .g ?_ (.g ?_ (.s ?_)))
  λh9=> .b (zio ?_) λr20 EY=> .b NT λr21 _=> .c (λtW=> .s ?_)
  λtW=> .j (λy22:Ae=>wt y22≤wt a0∧y22.Id=a0.Id) (λy22 Y4=> .b (ziz ?_) λr25 vX=> .j (λy26:(List Ab)×(List Ad)×Ae=>y26.1.length≤1∧wt y26.1≤400∧wt y26.2.1≤2000∧wt y26.2.2≤wt a0∧y26.2.2.Id=a0.Id) (λy26 Y0=> .s ?_)
  λk27 bX=> .c (λGW=> .g ?_ (.b (ML ?_ ?_) λr28 R2=> .g ?_ (bX _ ?_)))
  λGW=>bX _ ?_)
  λk23 bY=> .c (λUW=> .b nN λr24 _=>bY _ ?_)
  λUW=>bY _ ?_)
  λk3 JV=> .b (GN ?_) λr4 UV=> .c (λ_=>JV _ nofun)
  λnX=>have i14:=UV (nf nX); .c (λ_=>JV _ nofun)
  λHY=>JV _ λq16=>?_)
 all_goals (try simp only[NB]at *)<;>(try simp(disch:=omega) only[DA,LA]at *)<;>omega
def zsf{a0 a1}(ha:wt a0≤1000000000):Ok (Ct a0 a1) λr=>wt r≤wt a0∧r.Id=a0.Id:=by
 unfold Ct
 refine .cp ?_ (.jt (λy2=> .j (λy5:Ae=>wt y5≤wt a0∧y5.Id=a0.Id) (λy5 O5=> .s ?_)
  λk6 CW=> .c (λh1=>CW _ ?_)
  λh1=>CW _ ?_)
  λk3 JV=> .b (GN ?_) λr4 UV=> .c (λ_=>JV _)
  λ_=>JV _)
 all_goals (try simp only[NB]at *)<;>omega
def zr4{a0}(ha:wt a0≤1000000000):Ok (Hq a0) λr=>wt r.1≤wt a0∧r.1.Id=a0.Id∧wt r.2≤500:=by
 unfold Hq
 refine .b (GN ?_) λr1 NV=> .c (λh1=> .cp ?_ (.s ?_))
  λh1=>have i2:=NV (nf h1); .c (λh3=> .b (zaX ?_ ?_) λr3 uW=> .g ?_ (.s ?_))
  λh3=> .b (zaX ?_ ?_) λr5 RV=> .s ?_
 all_goals (try simp only[NB]at *)<;>omega
def zeT{a0 a1 a2}(ha:wt a0≤1000000000)(hb:wt a2≤1000000000):Ok (En a0 a1 a2) λr=>wt r.1≤wt a0+2000∧r.1.Id=a0.Id∧r.2.1.length≤1∧wt r.2.1≤400∧wt r.2.2≤8000:=by
 unfold En
 refine .cp ?_ (.j (λy2:Bool=>y2=false→CF a0∧wt a2≤112) (λy2 xW=> .c (λh1=> .s ?_)
  λh1=>have i2:=xW h1; .jt (λy5=> .c (λh3=> .b (ziw ?_) λr8 sW=> .b (zit ?_ ?_) λr9 QW=> .b (ze9 ?_ ?_) λr10 rW=> .b nN λr11 _=> .g ?_ (.g ?_ (.g ?_ (.b zeW λr13 eX=> .b (zeU ?_ ?_ ?_) λr14 lX=> .b (zfD ?_ ?_) λr15 NW=> .g ?_ (.cp ?_ (.g ?_ (.s ?_)))))))
  λh3=> .jt (λy17=> .c (λh4=> .s ?_)
  λh4=> .b (zin ?_ ?_) λr19 IX=> .c (λh5=> .s ?_)
  λh5=> .b (zi2 ?_) λr20 EY=> .b (oN ?_) λr21 m0=> .b (zbD ?_ ?_ ?_) λr22 fX=> .g ?_ (.j (λy23:(List Ad)×Ae=>wt y23.1≤2000∧wt y23.2≤wt a0+1000∧y23.2.Id=a0.Id) (λy23 sZ=> .j (λy26:(List Ad)×Ae=>wt y26.1≤3000∧wt y26.2≤wt a0+1000∧y26.2.Id=a0.Id) (λy26 Y0=> .j (λy29:(List Ad)=>wt y29≤4000) (λy29 o7=> .j (λy32:(List Ab)×(List Ad)×Ae=>y32.1.length≤1∧wt y32.1≤400∧wt y32.2.1≤8000∧wt y32.2.2≤wt a0+2000∧y32.2.2.Id=a0.Id) (λy32 Z4=> .s ?_)
  λk33 cY=> .c (λh6=> .b (zP ?_ ?_) λr34 b5=> .j (λy35:(List Ab)×(List Ad)×Ae=>y35.1.length≤1∧wt y35.1≤400∧wt y35.2.1≤8000∧wt y35.2.2≤wt a0+2000∧y35.2.2.Id=a0.Id) (λy35 s7=>cY _ ?_)
  λk36 rY=> .c (λh7=> .g ?_ (.b (ML ?_ ?_) λr37 d5=> .g ?_ (.g ?_ (.g ?_ (.g ?_ (rY _ ?_))))))
  λh7=>rY _ ?_)
  λh6=>cY _ ?_)
  λk30 UY=> .c (λh8=> .g ?_ (.g ?_ (.g ?_ (UY _ ?_))))
  λh8=>UY _ ?_)
  λk27 bX=> .c (λh9=> .g ?_ (.g ?_ (.g ?_ (bX _ ?_))))
  λh9=>bX _ ?_)
  λk24 oW=> .c (λtW=> .g ?_ (.g ?_ (.g ?_ (.g ?_ (oW _ ?_)))))
  λtW=>oW _ ?_))
  λk18 PW=> .c (λ_=>PW _)
  λ_=>PW _)
  λk6 CW=> .c (λUW=> .c (λnX=> .b (zab ?_) λr7 HW=>CW _)
  λ_=>CW _)
  λ_=>CW _)
  λk3 JV=> .b (GN ?_) λr4 UV=> .c (λ_=>JV _ nofun)
  λjY=>have i15:=UV (nf jY); .c (λ_=>JV _ nofun)
  λNY=>JV _ λq17=>have f18:=uD (nf q17);?_)
 all_goals (try simp only[NB]at *)<;>omega
end Go.D
namespace Go.D
def zR{a0}(ha:wt a0≤1000000000):Ok (Ce a0) λr=>wt r≤wt a0:=by
 unfold Ce
 refine .b (nS ?_) λr1 NV=> .c (λh1=> .cp ?_ (.s ?_))
  λh1=>have i2:=NV (nf h1); .g ?_ (.g ?_ (.s ?_))
 all_goals (try simp only[NB]at *)<;>omega
def ziA{a0}:Ok (Cf a0) λr=>wt r≤0:=by
 unfold Cf;refine .s ?_
 all_goals (try simp only[NB]at *)<;>omega
def ziT{a0 a1 a2 a3}(ha:wt a3≤1000000000):Ok (Fp a0 a1 a2 a3) λr=>wt r≤400:=by
 unfold Fp
 refine .j (λy1:Bool=>y1=false→wt a3≤112) (λy1 lW=> .c (λh1=> .s ?_)
  λh1=>have i2:=lW h1; .g ?_ (.g ?_ (.b (zit ?_ ?_) λr3 uW=> .b (ze9 ?_ ?_) λr4 UV=> .b ziA λr5 RV=> .s ?_)))
  λk2 IV=> .c (λ_=>IV _ nofun)
  λh3=>have f4:=kL (nf h3); .c (λ_=>IV _ nofun)
  λh5=> .c (λ_=>IV _ nofun)
  λh6=>have f7:=GF (nf h6); .c (λ_=>IV _ nofun)
  λh8=>have f9:=uD (nf h8);IV _ λq10=>?_
 all_goals (try simp only[NB]at *)<;>omega
def zfg{a0 a1}(ha:wt a0≤1000000000)(hb:wt a1≤1000000000):Ok (Bi a0 a1) λr=>wt r.1≤wt a0+wt a1+1∧(r.2=0→0<r.1.L.length)∧r.1.L.length≤a0.L.length+1:=by
 unfold Bi
 refine .cp ?_ (.jt (λy2=> .c (λh1=> .s ?_)
  λh1=> .b (zcT ?_) λr6 vW=> .c (λh2=> .s ?_)
  λh2=> .jt (λy7=> .c (λh3=> .s ?_)
  λh3=> .cp ?_ (.g ?_ (.s ?_)))
  λk8 pW=> .b (zwl ?_) λr9 QW=> .c (λ_=>pW _)
  λ_=>pW _)
  λk3 JV=> .b (zlv ?_) λr4 UV=> .c (λ_=>JV _)
  λh5=>have i6:=UV (nf h5); .b (nS ?_) λr5 RV=> .c (λ_=>JV _)
  λ_=>JV _)
 all_goals (try simp only[NB]at *)<;>omega
def zp7{a0}(ha:wt a0≤1000000000):Ok (Hg a0) λr=>wt r.1≤wt a0∧r.2.1.length≤1∧wt r.2.1≤400∧wt r.2.2≤600:=by
 unfold Hg
 refine .cp ?_ (.j (λy2:Bool=>y2=false→wt a0≤235) (λy2 xW=> .c (λh1=> .s ?_)
  λh1=>have i2:=xW h1; .b (zks ?_) λr5 RV=> .c (λh3=> .s ?_)
  λh3=> .b (ML ?_ ?_) λr6 vW=> .s ?_)
  λk3 JV=> .b (nS ?_) λr4 UV=> .c (λ_=>JV _ nofun)
  λh4=>have i5:=UV (nf h4); .c (λ_=>JV _ nofun)
  λh6=>JV _ λq7=>?_)
 all_goals (try simp only[NB]at *)<;>omega
def zpO{a0 a1}(ha:wt a0≤1000000000)(hb:wt a1≤1000000000):Ok (Gt a0 a1) λr=>wt r.1≤wt a0∧r.2.1.length≤1∧wt r.2.1≤400∧wt r.2.2.1≤2000:=by
 unfold Gt
 refine .cp ?_ (.j (λy2:Bool=>y2=false→wt a0≤235∧a1.length≤40) (λy2 xW=> .c (λh1=> .s ?_)
  λh1=>have i2:=xW h1; .c (λh3=> .s ?_)
  λh3=> .b (zP ?_ ?_) λr5 RV=> .c (λh4=> .s ?_)
  λh4=> .g ?_ (.g ?_ (.b (ML ?_ ?_) λr6 vW=> .s ?_)))
  λk3 JV=> .b (nS ?_) λr4 UV=> .c (λ_=>JV _ nofun)
  λh5=>have i6:=UV (nf h5);JV _ λq7=>?_)
 all_goals (try simp only[NB]at *)<;>omega
def zpT{a0 a1}(ha:wt a0≤1000000000):Ok (Gw a0 a1) λr=>wt r≤wt a0+1600:=by
 unfold Gw
 refine .cp ?_ (.jt (λy2=> .c (λh1=> .s ?_)
  λh1=> .c (λh2=> .b (zR ?_) λr5 RV=> .s ?_)
  λh2=> .b (zio ?_) λr6 vW=> .b (zix ?_) λr7 HW=> .s ?_)
  λk3 JV=> .b (nS ?_) λr4 UV=> .c (λ_=>JV _)
  λh3=>have i4:=UV (nf h3); .c (λ_=>JV _)
  λ_=>JV _)
 all_goals (try simp only[NB]at *)<;>(try simp(disch:=omega) only[DA,LA]at *)<;>omega
def zpV{a0 a1 a2 a3 a4}(ha:wt a0≤1000000000)(hb:wt a3≤1000000000)(hc:wt a4≤1000000000):Ok (Hl a0 a1 a2 a3 a4) λr=>wt r.1≤wt a0+5000∧r.2.1.length≤2∧wt r.2.1≤1000∧wt r.2.2.1≤10000:=by
 unfold Hl
 refine .cp ?_ (.j (λy2:Bool=>y2=false→wt a0≤235) (λy2 xW=> .c (λh1=> .s ?_)
  λh1=>have i2:=xW h1; .b (zin ?_ ?_) λr5 RV=> .c (λh3=> .s ?_)
  λh3=> .b (zi2 ?_) λr6 vW=> .b (oN ?_) λr7 HW=> .b (zbD ?_ ?_ ?_) λr8 sW=> .g ?_ (.j (λy9:(List Av)×(List Ad)×Ah=>y9.1.length≤1∧wt y9.1≤400∧wt y9.2.1≤4000∧wt y9.2.2≤wt a0+3000) (λy9 yY=> .b (zjg ?_ ?_) λr30 o0=> .b (zP ?_ ?_) λr31 m5=> .jt (λy32=> .c (λh4=> .s ?_)
  λh4=> .g ?_ (.b (ML ?_ ?_) λr34 b5=> .g ?_ (.s ?_)))
  λk33 cY=> .c (λ_=>cY _)
  λ_=>cY _)
  λk10 OV=> .c (λh6=> .g ?_ (.g ?_ (.g ?_ (OV _ ?_))))
  λh6=> .j (λy12:(List Av)×(List Ad)×Ah=>y12.1.length≤1∧wt y12.1≤400∧wt y12.2.1≤4000∧wt y12.2.2≤wt a0+3000) (λy12 HX=>OV _ ?_)
  λk13 XV=> .c (λh7=> .b (zrc ?_ ?_) λr14 lX=> .j (λy15:(List Ad)×Ah=>wt y15.1≤4000∧wt y15.2≤wt a0+3000) (λy15 ZZ=>XV _ ?_)
  λk16 OW=> .c (λh8=> .g ?_ (.g ?_ (.g ?_ (OW _ ?_))))
  λh8=>OW _ ?_)
  λh7=> .j (λy18:(List Av)×(List Ad)×Ah=>y18.1.length≤1∧wt y18.1≤400∧wt y18.2.1≤4000∧wt y18.2.2≤wt a0+3000) (λy18 z0=>XV _ ?_)
  λk19 FW=> .c (λh9=> .b (zph ?_ ?_) λr20 EY=> .j (λy21:(List Av)×(List Ad)×Ah=>y21.1.length≤1∧wt y21.1≤400∧wt y21.2.1≤4000∧wt y21.2.2≤wt a0+3000) (λy21 Z0=>FW _ ?_)
  λk22 RW=> .c (λtW=> .j (λy23:(List Ad)=>wt y23≤2000) (λy23 sZ=> .b (zks ?_) λr26 JX=> .j (λy27:(List Av)×(List Ad)×Ah=>y27.1.length≤1∧wt y27.1≤400∧wt y27.2.1≤4000∧wt y27.2.2≤wt a0+3000) (λy27 n5=>RW _ ?_)
  λk28 cX=> .c (λGW=> .g ?_ (.b (ML ?_ ?_) λr29 tZ=> .g ?_ (cX _ ?_)))
  λGW=>cX _ ?_)
  λk24 oW=> .c (λUW=> .g ?_ (.g ?_ (.g ?_ (oW _ ?_))))
  λUW=>oW _ ?_)
  λtW=>RW _ ?_)
  λh9=>FW _ ?_))
  λk3 JV=> .b (nS ?_) λr4 UV=> .c (λ_=>JV _ nofun)
  λnX=>have i14:=UV (nf nX); .c (λ_=>JV _ nofun)
  λHY=>JV _ λq16=>have f17:=GF (nf q16);?_)
 all_goals (try simp only[NB]at *)<;>omega
def zjd{a0}(ha:wt a0≤1000000000):Ok (Fi a0) λr=>wt r≤wt a0:=by
 unfold Fi;refine .g ?_ (.s ?_)
 all_goals (try simp only[NB]at *)<;>omega
def zqf{a0 a1}(ha:wt a0≤1000000000):Ok (Gx a0 a1) λr=>wt r≤wt a0+60000:=by
 unfold Gx;refine have hw:=zB a0.L;
 .j (λy1:Bool=>y1=false→wt a0≤2832∧a0.L.length≤12) (λy1 lW=> .c (λh1=> .cp ?_ (.s ?_))
  λh1=>have i2:=lW h1; .j (λy5:Ao=>wt y5≤60000) (λy5 O5=> .s ?_)
  λk6 CW=> .l (λx7:Int×Ao=>0≤x7.1∧x7.1≤(a0.L.length:Int)∧wt x7.2≤4500 *x7.1) (λx7:Int×Ao=>((a0.L.length:Int) - x7.1).toNat) (λx7 hx7 k8 pW=> .c (λh3=> .bi ?_ ?_ λe9 LZ CY=> .b (zpT ?_) λr10 rW=> .jt (λy11=> .j (λy13:Ao=>wt y13≤4500 *x7.1+4500) (λy13 EX=>pW _ ?_ ?_)
  λk14 SV=> .c (λh4=> .g ?_ (SV _ ?_))
  λh4=>SV _ ?_)
  λk12 jW=> .c (λ_=>jW _)
  λ_=>jW _)
  λh3=>CW _ ?_) ?_ ?_)
  λk2 IV=> .b (zlv ?_) λr3 uW=> .c (λ_=>IV _ nofun)
  λh6=>have i7:=uW (nf h6);IV _ λq8=>?_
 all_goals (try simp only[NB]at *)<;>(try simp(disch:=omega) only[DA,LA]at *)<;>omega
def zpe{a0 a1 a2 a3}(ha:wt a0≤1000000000)(hb:wt a3≤1000000000):Ok (Gu a0 a1 a2 a3) λr=>wt r.1≤wt a0+4000∧r.2.1.length≤1∧wt r.2.1≤400∧wt r.2.2.1≤2000:=by
 unfold Gu;refine have hw:=zB a0.T.L;
 .cp ?_ (.j (λy2:Bool=>y2=false→SF a0) (λy2 xW=> .c (λh1=> .s ?_)
  λh1=>have i2:=xW h1; .c (λh3=> .s ?_)
  λh3=> .bi ?_ ?_ λe6 xY sX=> .b (zpO ?_ ?_) λr7 HW=> .j (λy8:Ac=>wt y8≤wt a0+4000) (λy8 d7=> .s ?_)
  λk9 jX=> .c (λh4=> .h ?_ (.bg ?_ λe10 qY wX=>jX _ (have:=EC a0.T.L a2.toNat r7.1;?_)))
  λh4=>jX _ ?_)
  λk3 JV=> .b (OU ?_) λr4 UV=> .c (λ_=>JV _ nofun)
  λh5=>have i6:=UV (nf h5);JV _ λq7=>?_)
 all_goals (try simp only[NB]at *)<;>(try simp(disch:=omega) only[DA,LA]at *)<;>omega
def zo2{a0 a1}(ha:wt a0≤1000000000):Ok (Gy a0 a1) λr=>wt r.1≤wt a0+60000∧wt r.2≤50000:=by
 unfold Gy;refine have hw:=zB a0.T.L;
 .cp ?_ (.j (λy2:Bool=>y2=false→SF a0) (λy2 xW=> .c (λh1=> .s ?_)
  λh1=>have i2:=xW h1; .b (zqf ?_) λr5 RV=> .j (λy6:(List Ad)=>wt y6≤50000) (λy6 xX=> .s ?_)
  λk7 TV=> .l (λx8:(List Ad)×Int=>0≤x8.2∧x8.2≤(a0.T.L.length:Int)∧wt x8.1≤3400 *x8.2) (λx8:(List Ad)×Int=>((a0.T.L.length:Int) - x8.2).toNat) (λx8 W4 k9 jX=> .c (λh3=> .bi ?_ ?_ λe10 qY wX=> .b (zcT ?_) λr11 zW=> .jt (λy12=> .j (λy16:(List Ad)=>wt y16≤3400 *x8.2+3400) (λy16 sY=>jX _ ?_ ?_)
  λk17 iW=> .c (λh4=> .bi ?_ ?_ λe18 o5 z1=> .b (zjd ?_) λr19 IX=> .g ?_ (iW _ ?_))
  λh4=>iW _ ?_)
  λk13 XV=> .bi ?_ ?_ λe14 YZ SY=> .c (λh5=> .c (λ_=>XV _)
  λh6=> .h ?_ (.bg ?_ λe15 VY WY=>XV _))
  λ_=>XV _)
  λh3=>TV _ ?_) ?_ ?_)
  λk3 JV=> .b (OU ?_) λr4 UV=> .c (λ_=>JV _ nofun)
  λh7=>have i8:=UV (nf h7);JV _ λq9=>?_)
 all_goals (try simp only[NB]at *)<;>(try simp(disch:=omega) only[DA,LA]at *)<;>omega
def zqX{a0 a1}(ha:wt a0≤1000000000)(hb:wt a1≤3000)(hc:a1.length≤3):Ok (Hm a0 a1) λr=>r.1.length≤3∧wt r.1≤9100∧wt r.2≤wt a0:=by
 unfold Hm
 refine .j (λy1:(List Av)×Ac=>y1.1.length≤3∧wt y1.1≤9100∧wt y1.2≤wt a0) (λy1 lW=> .s ?_)
  λk2 IV=> .l (λx3:(List Av)×Int×Ac=>0≤x3.2.1∧x3.2.1≤(a1.length:Int)∧(x3.1.length:Int)≤x3.2.1∧wt x3.1≤3001 *x3.2.1∧wt x3.2.2≤wt a0) (λx3:(List Av)×Int×Ac=>((a1.length:Int) - x3.2.1).toNat) (λx3 DY k4 QV=> .c (λh1=> .j (λy5:(List Av)×Ac=>(y5.1.length:Int)≤x3.2.1+1∧wt y5.1≤3001 *x3.2.1+3001∧wt y5.2≤wt a0) (λy5 O5=>QV _ ?_ ?_)
  λk6 CW=> .bi ?_ ?_ λe7 MZ pY=> .b (zjI ?_) λr8 _=> .j (λy9:Ac=>wt y9≤wt a0) (λy9 yY=> .bi ?_ ?_ λe15 VY WY=> .g ?_ (CW _ ?_))
  λk10 OV=> .c (λh2=> .bi ?_ ?_ λe11 he11 n7=> .bi ?_ ?_ λe12 he12 t7=> .b (zqK ?_) λr13 _=> .b (zjo ?_) λr14 lX=> .c (λh3=>CW _ ?_)
  λh3=>OV _ ?_)
  λh2=>OV _ ?_)
  λh1=>IV _ ?_) ?_ ?_
 all_goals (try simp only[NB]at *)<;>(try simp(disch:=omega) only[DA,LA]at *)<;>omega
def zsi{a0}(ha:wt a0≤1000000000):Ok (Hp a0) λr=>wt r.1≤wt a0+100∧wt r.2≤200:=by
 unfold Hp
 refine .cp ?_ (.j (λy2:Bool=>y2=false→SF a0) (λy2 xW=> .c (λh1=> .s ?_)
  λh1=>have i2:=xW h1; .b (zdJ ?_) λr5 RV=>have hj:=BS r5.2;have ht:=zcA a0.T.Cap;have hn:wt (LE r5.2)=wt r5.2:=(by simp only[LE,eJ,NE,FA,List.length_nil];omega); .m (za1 ?_) (.g ?_ (.s ?_)))
  λk3 JV=> .b (OU ?_) λr4 UV=> .c (λ_=>JV _ nofun)
  λh3=>have i4:=UV (nf h3);JV _ λq5=>?_)
 all_goals (try simp only[NB]at *)<;>omega
def zoF{a0 a1}(ha:wt a0≤1000000000):Ok (Hr a0 a1) λr=>wt r.1≤wt a0+4000∧wt r.2.1≤4000:=by
 unfold Hr;refine have hw:=zB a0.T.L;
 .cp ?_ (.b (OU ?_) λr2 eW=> .c (λh1=> .s ?_)
  λh1=>have i2:=eW (nf h1); .j (λy3:Bool=>y3=false→0≤a1∧a1<(a0.T.L.length:Int)) (λy3 LY=> .c (λh3=> .s ?_)
  λh3=>have i4:=LY h3; .bi ?_ ?_ λe7 MZ pY=> .b (zR ?_) λr8 sW=> .h ?_ (.bg ?_ λe9 LZ CY=> .bi ?_ ?_ λe10 qY wX=> .b (zjd ?_) λr11 zW=> .s (have:=EC a0.T.L a1.toNat r8;?_)))
  λk4 QV=> .c (λ_=>QV _ nofun)
  λh5=> .bi ?_ ?_ λe6 xY sX=>QV _ λq6=>?_)
 all_goals (try simp only[NB]at *)<;>(try simp(disch:=omega) only[DA,LA]at *)<;>omega
def zo3{a0 a1 a2 a3}(ha:wt a0≤1000000000)(hb:wt a3≤900000000):Ok (Hn a0 a1 a2 a3) λr=>wt r.1≤wt a0+50000∧r.2.1.length≤3∧wt r.2.1≤9100∧wt r.2.2≤20000:=by
 unfold Hn
 refine .cp ?_ (.j (λy2:Bool=>y2=false→SF a0) (λy2 xW=> .c (λh1=> .s ?_)
  λh1=>have i2:=xW h1; .b (zjz ?_) λr5 RV=> .b (zis ?_) λr6 vW=> .c (λh3=> .s ?_)
  λh3=> .j (λy7:(List Av)×(List Ad)×Ac×Ac=>y7.1.length≤3∧wt y7.1≤2000∧wt y7.2.1≤20000∧wt y7.2.2.1≤wt a0+50000) (λy7 aY=> .b (zqX ?_ ?_ ?_) λr65 hr65=> .s ?_)
  λk8 pW=> .c (λh4=> .jt (λy9=> .c (λh5=> .s ?_)
  λh5=> .b (zdJ ?_) λr12 yW=>have hn:wt (LE r12.2)=wt r12.2:=(by simp only[LE,eJ,NE,FA,List.length_nil];omega); .g ?_ (.b (zj0 ?_ ?_) λr13 eX=> .m (za1 ?_) (.b (ze2 ?_ ?_) λr15 NW=> .b (zfD ?_ ?_) λr16 mX=> .g ?_ (.g ?_ (pW _ ?_)))))
  λk10 OV=> .c (λ_=>OV _)
  λh6=> .b (zi4 ?_) λr11 _=> .c (λ_=>OV _)
  λ_=>OV _)
  λh4=> .j (λy18:(List Av)×(List Ad)×Ac×Ac=>y18.1.length≤3∧wt y18.1≤2000∧wt y18.2.1≤20000∧wt y18.2.2.2≤wt a0+50000) (λy18 z0=>pW _ ?_)
  λk19 FW=> .c (λh8=> .j (λy20:Bool=>y20=false→1≤r6.1.Id∧r6.1.Id≤(a0.Psks.length:Int)) (λy20 FY=> .c (λh9=> .s ?_)
  λh9=>have i10:=FY h9; .b (zcT ?_) λr25 vX=> .j (λy26:(List Ad)×Int×Ac×Ac=>wt y26.1≤8000∧wt y26.2.2.2≤wt a0+10000∧0≤y26.2.1∧y26.2.1<(y26.2.2.2.T.L.length:Int)) (λy26 Y0=> .h ?_ (.bg ?_ λe38 he38 he38w=> .jt (λy39=> .j (λy42:(List Av)×(List Ad)×Ac=>y42.1.length≤3∧wt y42.1≤1000∧wt y42.2.1≤15000∧wt y42.2.2≤wt a0+40000) (λy42 V2=>FW _ ?_)
  λk43 dY=> .c (λGW=> .b (zp7 ?_) λr44 s5=> .h ?_ (.bg ?_ λe45 he45 he45w=> .g ?_ (.g ?_ (dY _ (have:=EC y26.2.2.2.T.L y26.2.1.toNat r44.1;?_)))))
  λGW=>dY _ ?_)
  λk40 A0=> .c (λUW=> .c (λnX=> .b (zab ?_) λr41 A1=>A0 _)
  λ_=>A0 _)
  λ_=>A0 _))
  λk27 bX=> .c (λjY=> .bi ?_ ?_ λe28 he28 v7=> .b (ziT ?_) λr29 tZ=> .b (zfg ?_ ?_) λr30 o0=>have hl:=zB r30.1.L; .c (λHY=> .s ?_)
  λHY=> .b (ze2 ?_ ?_) λr31 m5=> .b (zbD ?_ ?_ ?_) λr32 hr32=> .g ?_ (.bi ?_ ?_ λe33 he33 he33w=> .b zeW λr34 b5=> .b (zeU ?_ ?_ ?_) λr35 z7=> .b (zbD ?_ ?_ ?_) λr36 W2=> .g ?_ (.g ?_ (.g ?_ (.g ?_ (.g ?_ (bX _ ?_)))))))
  λjY=>bX _ ?_)
  λk21 kW=> .b (zrm ?_) λr22 fX=> .c (λ_=>kW _ nofun)
  λNY=> .c (λ_=>kW _ nofun)
  λxZ=> .bi ?_ ?_ λe23 A7 T3=> .b (zqu ?_) λr24 _=>kW _ λq18=>?_)
  λh8=> .j (λy46:(List Av)×(List Ad)×Ac×Ac=>y46.1.length≤3∧wt y46.1≤2000∧wt y46.2.1≤20000∧wt y46.2.2.2≤wt a0+50000) (λy46 hy46=>FW _ ?_)
  λk47 B1=> .c (λOZ=> .b (zcT ?_) λr48 hr48=> .j (λy49:Bool=>y49=false→0≤r48) (λy49 B7=> .c (λPZ=> .s ?_)
  λPZ=>have i21:=B7 PZ; .b (zdJ ?_) λr52 hr52=> .b (zi4 ?_) λr53 _=> .j (λy54:(List UInt8)=>y54.length≤32) (λy54 hy54=>have hn:wt (LE y54)=wt y54:=(by simp only[LE,eJ,NE,FA,List.length_nil];omega); .bi ?_ ?_ λe56 he56 C7=> .b (zpV ?_ ?_ ?_) λr57 hr57=> .h ?_ (.bg ?_ λe58 he58 D7=> .g ?_ (.j (λy59:(List Ad)×Ac=>wt y59.1≤200∧wt y59.2≤wt a0+40000) (λy59 hy59=> .g ?_ (.j (λy62:(List Ad)=>wt y62≤20000) (λy62 hy62=>B1 _ ?_)
  λk63 E7=> .c (λW1=> .g ?_ (.g ?_ (.g ?_ (E7 _ ?_))))
  λW1=>E7 _ ?_))
  λk60 F7=> .c (λH0=> .m (za1 ?_) (.g ?_ (F7 _ (have:=EC a0.T.L r48.toNat r57.1;?_))))
  λH0=>F7 _ (have:=EC a0.T.L r48.toNat r57.1;?_))))
  λk55 G7=> .c (λX1=>G7 _ ?_)
  λX1=>G7 _ ?_)
  λk50 C1=> .c (λ_=>C1 _ nofun)
  λD5=> .bi ?_ ?_ λe51 he51 he51w=>C1 _ λq26=>?_)
  λOZ=>B1 _ ?_)
  λk3 JV=> .b (OU ?_) λr4 UV=> .c (λ_=>JV _ nofun)
  λR5=>have i28:=UV (nf R5); .c (λ_=>JV _ nofun)
  λI8=>JV _ λq30=>have f31:=GF (nf q30);?_)
 all_goals (try simp only[NB]at *)<;>(try simp(disch:=omega) only[DA,LA]at *)<;>omega
end Go.D
namespace Go.D
def zh5{α:Type}[Wt α](l:List α)(i:Nat):Nat:=match l[i]? with
 | some c=>wt c
 | none=>0
def xO{α:Type}[Wt α]{l:List α}{i:Nat}{x:α}(h:l[i]?=some x):zh5 l i=wt x:=by unfold zh5;rw[h]
def mS{α:Type}[Wt α]{x y:α}:∀{l:List α} {i:Nat},l[i]?=some y→wt (l.set i x)+wt y=wt l+wt x
 | [],_,h=>by simp at h
 | z :: l,0,h=>by
  rw[List.getElem?_cons_zero]at h;cases h;rw[List.set_cons_zero,sD,sD];omega
 | z :: l,i+1,h=>by
  rw[List.getElem?_cons_succ]at h;have:=mS (x:=x) h;rw[List.set_cons_succ,sD,sD];omega
def lO{e:Am}(h:fF e=true):1≤e.Kind∧e.Kind≤17∧0≤e.I∧0≤e.J∧0≤e.N∧e.B.length≤200∧e.Ops.length≤16:=by
 simp only[fF,Bool.and_eq_true,fC,decide_eq_true_eq]at h;omega
def zrG{c:Af}(h:mA c):Ok (Ix c) λr=>mA r.2:=by
 unfold Ix;exact(zgP h (by simp)).bind λq hq=> .some' hq.2
def zro{s a b:List UInt8}{m:Int}(hs:1≤s.length∧s.length≤32)(ha:1≤a.length∧a.length≤32)(hb:1≤b.length∧b.length≤32)(hm:1≤m∧m≤6):KB (MC [a,b] s m)=true:=by
 have e0:eA (s.length:Int) 1 32=true:=fD.2 ⟨by omega,by omega⟩
 have hd:gC ⟨s,0⟩=true:=by
  show(eA (s.length:Int) 1 32&&eA 0 0 10000)=true
  rw[e0];rfl
 have hr:RC ⟨s,0⟩=(⟨s,iA .i64 0 1⟩,CD s 0):=by
  rw[RC,hd];rfl
 have hl:(CD s 0).length=12:=by
  rw[CD,e0];show(List.take 12 _).length=12
  rw[List.length_take,KH (by omega) (by rw[BV];omega)];rfl
 have hj:QE (lF (CD s 0))=true:=by
  rw[lF,show nA (CD s 0)=true by rw[nA,hl];rfl];show(((wL (CD s 0) [106,97,114]).length:Int)==32)=true
  rw[zky (by omega) (by decide)];rfl
 have ht:YD m=⟨m,[]⟩:=by rw[YD,fD.2 hm];rfl
 have hp:GC a=true∧GC b=true:=⟨fD.2 (by omega),fD.2 (by omega)⟩
 have hto:TC ⟨m,[]⟩=true:=by
  show(eA m 1 6&&true&&decide ((0:Int)≤m)&&true)=true
  rw[fD.2 hm,decide_eq_true (by omega)];rfl
 have h1:iA .i64 0 1=1:=rfl;show(eA 2 1 9&&QE (lF (RC ⟨s,0⟩).2)&&gC (RC ⟨s,0⟩).1&&TC (YD m)&&true&&!(!GC a||(!GC b||false))&&!((YD m).L.any λe=>decide (e.Id>2)))=true
 rw[hr,ht,hto,hp.1,hp.2];simp only;rw[hj,h1];show(true&&true&&(eA (s.length:Int) 1 32&&eA 1 0 10000)&&true&&true&&true&&true)=true
 rw[e0];rfl
def zsh{s a b:List UInt8}{m:Int}(h:s.length=8∧a.length=6∧b.length=9)(hm:1≤m∧m≤3):Ok (zcR s a b m) λr=>wt r≤4000∧TW r:=by
 have hL:=DB;have hw:=zsE s a b m;rw[FA,FA,FA]at hw;refine nF (by rw[FA,FA,FA];omega) ⟨by omega,?_⟩;have hs:=zro (s:=s) (a:=a) (b:=b) (m:=m) (by omega) (by omega) (by omega) (by omega);rw[xV,hs];obtain⟨_,ka,kb,_⟩:=zsQ hs;show[TB 1 a (AB 1),TB 2 b (AB 2)].length=2∧(TB 1 a (AB 1)).Id=1∧(TB 2 b (AB 2)).Id=2
 rw[ka,kb];exact⟨rfl,rfl,rfl⟩
def zwS{b:List UInt8}{f n:Int}(h:b.length≤bA):Ok (yJ b f n) λr=>r.1.length≤b.length:=nF (by rw[FA];exact h) (by
 unfold cut;cases decide (f<0)||(decide (n<0)||(decide (f>(b.length:Int))||decide (n>(b.length:Int) - f)))
 ·rw[cond_false];simp only[List.length_take,List.length_drop];omega
 ·exact Nat.zero_le _)
def zrw(b:List UInt8)(f n:Int)(h:wt b≤bA)(hf:zE .i64 f)(hn:zE .i64 n):Pj b f n=some (cut b f n):=by
 have hl:b.length≤bA:=by rw[←FA];exact h
 have hL:=DB;have hf:=DS hf;have hn:=DS hn;simp only[Pj,aA,cut,List.nil_append]
 by_cases h2:n<0
 ·rw[decide_eq_true h2];cases decide (f<0)<;>rfl
 by_cases h1:f<0
 ·rw[decide_eq_false h2,decide_eq_true h1];rfl
 by_cases h3:n>(b.length:Int)
 ·have h4:(decide (f>(b.length:Int))||decide (n>(b.length:Int) - f))=true:=by simp;omega
  rw[decide_eq_false h2,decide_eq_false h1,decide_eq_true h3,h4];rfl
 have e:sA .i64 (b.length:Int) n=(b.length:Int) - n:=by rw[sA,MB (by omega) (by omega)]
 rw[e]
 by_cases h4:f>(b.length:Int) - n
 ·have h5:(decide (f>(b.length:Int))||decide (n>(b.length:Int) - f))=true:=by simp;omega
  rw[decide_eq_false h2,decide_eq_false h1,decide_eq_false h3,decide_eq_true h4,h5];rfl
 have e2:iA .i64 f n=f+n:=by rw[iA,MB (by omega) (by omega)]
 have e3:(decide (0≤f)&&decide (f≤f+n)&&decide (f+n≤(b.length:Int)))=true:=by simp;omega
 have h5:(decide (f>(b.length:Int))||decide (n>(b.length:Int) - f))=false:=by simp;omega
 rw[decide_eq_false h1,decide_eq_false h2,decide_eq_false h3,decide_eq_false h4,h5];simp only[cond_false,e2];rw[e3,show f+n - f=n by omega];have:((b.drop f.toNat).take n.toNat).length≤bA:=by rw[List.length_take,List.length_drop];omega
 rw[List.length_nil,Nat.zero_add,decide_eq_true this];rfl
def IS.ok{x}(hb:xA [.sl .byte, .v .int, .v .int] x){r}:yJ x.1 x.2.1 x.2.2=some r→Pj x.1 x.2.1 x.2.2=some r:=TA λh=>
 zrw x.1 x.2.1 x.2.2 h (sO hb.2.1 0 (by decide) rfl) (sO hb.2.2 0 (by decide) rfl)
end Go.D

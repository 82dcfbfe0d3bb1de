/-
 The reference's machine comes to an end, and what it gives is small.
-/
import Derived.Test.YthmhafeaiaigoaaGreatN8
set_option linter.all false
namespace Go.D
def zaY{a0 a1 a2 a3}(ha:wt a1≤1000000000):Ok (Ce a0 a1 a2 a3) λr=>r.length≤40∧(0<r.length→a1.length=12):=by
 unfold Ce
 refine .j (λy1:Bool=>y1=false→a1.length=12) (λy1 qW=> .c (λh1=> .s ?_)
  λh1=>have i2:=qW h1; .g ?_ (.b (JG ?_) λr3 pW=> .b (JG ?_) λr4 WV=> .s ?_))
  λk2 KV=> .c (λ_=>KV _ nofun)
  λh3=> .c (λ_=>KV _ nofun)
  λh4=> .c (λ_=>KV _ nofun)
  λh5=>KV _ λq6=>?_
 all_goals (try simp only[NB]at *)<;>omega
def zqk{a0 a1 a2}(ha:wt a1≤1000000000):Ok (Gk a0 a1 a2) λr=>r.length≤32∧(0≤a2∧a2≤6∧a1.length≤100∧a0.length≤1048576→r.length=32):=by
 try simp only[N]at ha
 have hL:=CB;unfold Gk;refine Ok.join (λy1:Bool=>(y1=true∧¬(0≤a2∧a2≤6∧a1.length≤100))∨(y1=false∧a1.length≤100)) (λy1 qW=>?_) (λk2 KV=>?_)
 ·rcases qW with⟨rfl,h⟩ | ⟨rfl,h⟩
  ·exact Ok.some' ⟨Nat.zero_le _,λk=>absurd ⟨k.1,k.2.1,k.2.2.1⟩ h⟩
  ·refine Ok.guard ?_ ?_
   ·simp only[N];omega
   refine Ok.bind (JG ?_) (λr3 pW=>?_)
   ·simp only[N];omega
   simp only[N]at pW;exact Ok.some' ⟨mL _ _,λk=>JH k.2.2.2 (by omega)⟩
 refine Ok.cond' (λh2=>?_) (λh2=>?_)
 ·simp only[B]at h2;exact KV _ (.inl ⟨rfl,λk=>h2 ⟨k.1,k.2.1⟩⟩)
 ·simp only[B]at h2;refine KV _ ?_
  by_cases h:(a1.length:Int)>100
  ·exact .inl ⟨decide_eq_true h,λk=>by omega⟩
  ·exact .inr ⟨decide_eq_false h,by omega⟩
def ziW{a0 a1 a2}(ha:wt a1≤1000000000):Ok (Fa a0 a1 a2) λr=>r.length≤200∧(0≤a2∧a2≤200∧a1.length≤100∧a0.length≤1048576→(r.length:Int)=a2):=by
 have hL:=CB;unfold Fa;refine Ok.join (λy1:Bool=>(y1=true∧¬(0≤a2∧a2≤200∧a1.length≤100∧a0.length≤1048576))∨(y1=false∧(0≤a2∧a2≤200∧a1.length≤100∧a0.length≤1048576))) (λy1 qW=>?_) (λk2 KV=>?_)
 ·rcases qW with⟨rfl,h⟩ | ⟨rfl,h⟩
  ·exact Ok.some' ⟨Nat.zero_le _,λk=>absurd k h⟩
  ·rw[cond_false];refine Ok.join (λy3:List UInt8=>a2≤(y3.length:Int)∧y3.length≤1000) (λy3 QY=>?_) (λk4 UV=>?_)
   ·refine Ok.chk ?_ ?_
    ·simp only[B];omega
    refine Ok.guard ?_ ?_
    ·simp only[N];omega
    refine Ok.some' ?_;simp only[N];omega
   refine Ok.loop (λx5:(List UInt8)×Int=>0≤x5.2∧x5.2≤7∧(x5.1.length:Int)=32 *x5.2) (λx5=>(7 - x5.2).toNat) (λx5 s9 k6 JW=>?_) ?_ ?_
   ·refine Ok.cond' (λh1=>?_) (λh1=>?_)
    ·simp only[B]at h1;refine Ok.bind (zqk ha) (λr7 MW=>?_);have h7:r7.length=32:=MW.2 (by omega);refine Ok.guard ?_ ?_
     ·simp only[N];omega
     have:=AA (a:=x5.2) (b:=1) (by omega) (by omega);refine JW _ ?_ ?_
     ·simp only[N];omega
     ·simp only[N];omega
    ·simp only[B]at h1;refine UV _ ?_;omega
   ·simp only[N];omega
   ·simp only[N];omega
 refine Ok.cond' (λh2=>?_) (λh2=>?_)
 ·simp only[B]at h2;exact KV _ (.inl ⟨rfl,λk=>h2 ⟨k.1,k.2.1⟩⟩)
 ·simp only[B]at h2;refine Ok.cond' (λh3=>?_) (λh3=>?_)
  ·simp only[B]at h3;exact KV _ (.inl ⟨rfl,λk=>by omega⟩)
  ·simp only[B]at h3;refine KV _ ?_
   by_cases h:(a0.length:Int)>1048576
   ·exact .inl ⟨decide_eq_true h,λk=>by omega⟩
   ·exact .inr ⟨decide_eq_false h,by omega⟩
def zfC{a0 a1 a2}(ha:wt a1≤1000000000)(hb:wt a2≤1000000000):Ok (Ea a0 a1 a2) λr=>r.length≤200:=by
 unfold Ea
 refine .j (λy1:Bool=>y1=false→a2.length≤200∧a1.length≤100∧a0.length≤1048576) (λy1 qW=> .c (λh1=> .s ?_)
  λh1=>have i2:=qW h1; .b (ziW ?_) λr3 pW=> .j (λy4:(List UInt8)=>y4.length≤200) (λy4 rY=> .s ?_)
  λk5 iW=> .l (λx6:(List UInt8)×Int=>0≤x6.2∧x6.2≤(a2.length:Int)∧(x6.1.length:Int)=x6.2) (λx6:(List UInt8)×Int=>((a2.length:Int) - x6.2).toNat) (λx6 n7 k7 VV=> .c (λh3=> .bi ?_ ?_ λe8 W3 V2=> .h ?_ (.bg ?_ λe9 QZ HY=> .g ?_ (VV _ ?_ ?_)))
  λh3=>iW _ ?_) ?_ ?_)
  λk2 KV=> .c (λ_=>KV _ nofun)
  λh4=> .c (λ_=>KV _ nofun)
  λh5=>KV _ λq6=>?_
 all_goals (try simp only[NB]at *)<;>(try simp(disch:=omega) only[AA,IA]at *)<;>omega
def oN{a0 a1}(ha:wt a1≤1000000000):Ok (Bv a0 a1) λr=>r.length≤160:=by
 unfold Bv
 refine .j (λy1:Bool=>y1=false→wt a1≤112) (λy1 qW=> .c (λh1=> .s ?_)
  λh1=>have i2:=qW h1; .b (zaY ?_) λr3 pW=> .g ?_ (.g ?_ (.g ?_ (.s ?_))))
  λk2 KV=> .c (λ_=>KV _ nofun)
  λh3=> .c (λ_=>KV _ nofun)
  λh4=>have f5:=rD (nf h4);KV _ λq6=>?_
 all_goals (try simp only[NB]at *)<;>omega
def dV{a0 a1}:Ok (Ct a0 a1) λr=>r.length≤16:=by
 unfold Ct;refine have hm:=mL a0 a1;
 .c (λh1=> .s ?_)
  λh1=> .h ?_ (.g ?_ (.s ?_))
 all_goals (try simp only[NB]at *)<;>omega
def zfq{a0 a1 a2 a3 a4 a5 a6}(ha:wt a0≤1000000000)(hb:wt a2≤1000000000)(hc:wt a6≤1000000000):Ok (Eb a0 a1 a2 a3 a4 a5 a6) λr=>(wt r.1≤300)∧(r.2=true→a2.length=12∧a0.length=32):=by
 unfold Eb
 refine .b (zaY ?_) λr1 PV=> .j (λy2:Bool=>y2=false→a2.length=12∧a0.length=32) (λy2 wW=> .c (λh1=> .s ⟨?_,nofun⟩)
  λh1=>have i2:=wW h1; .g ?_ (.b (zfC ?_ ?_) λr4 WV=> .j (λy5:Ab=>wt y5≤280) (λy5 W2=> .b (oN ?_) λr9 UW=> .b dV λr10 sW=> .s ⟨?_,λq3=>?_⟩)
  λk6 JW=> .l (λx7:Int×Ab=>0≤x7.1∧x7.1≤16∧x7.2.Tag.length=x7.1∧wt x7.2≤212+x7.1) (λx7:Int×Ab=>(16 - x7.1).toNat) (λx7 hx7 k8 uW=> .c (λh4=> .g ?_ (uW _ ?_ ?_))
  λh4=>JW _ ?_) ?_ ?_))
  λk3 LV=> .c (λ_=>LV _ nofun)
  λh5=> .c (λ_=>LV _ nofun)
  λh6=> .c (λ_=>LV _ nofun)
  λh7=>LV _ λq8=>?_
 all_goals (try simp only[NB]at *)<;>(try simp(disch:=omega) only[AA,IA]at *)<;>omega
def zrD{a0 a1 a2 a3 a4 a5 a6 a7}(ha:wt a0≤1000000000)(hb:wt a3≤1000000000)(hc:wt a7≤1000000000):Ok (Iv a0 a1 a2 a3 a4 a5 a6 a7) λr=>wt r≤1000:=by
 unfold Iv
 refine .b (zfq ?_ ?_ ?_) λr1 ⟨PV,Z4⟩=> .j (λy2:Bool=>y2=false→a3.length=12) (λy2 wW=> .c (λh1=> .s ?_)
  λh1=>have i2:=wW h1; .g ?_ (.b (JG ?_) λr4 WV=> .b (JG ?_) λr5 TV=> .b (oN ?_) λr6 xW=> .g ?_ (.s ?_)))
  λk3 LV=> .c (λ_=>LV _ nofun)
  λh3=>have i4:=Z4 (nf h3);LV _ λq5=>?_
 all_goals (try simp only[NB]at *)<;>omega
def zeQ{a0}(ha:wt a0≤1000000000):Ok (Bj a0) λr=>r.length≤200:=by
 unfold Bj
 refine .c (λh1=> .s ?_)
  λh1=>have f2:=rD (nf h1); .j (λy1:(List UInt8)=>y1.length≤200) (λy1 qW=> .s ?_)
  λk2 KV=> .c (λh3=> .g ?_ (.g ?_ (.j (λy4:(List UInt8)=>y4.length≤200) (λy4 rY=>KV _ ?_)
  λk5 iW=> .l (λx6:(List UInt8)×Int=>0≤x6.2∧x6.2≤20∧x6.1.length≤140+x6.2) (λx6:(List UInt8)×Int=>(20 - x6.2).toNat) (λx6 n7 k7 VV=> .c (λh4=> .g ?_ (VV _ ?_ ?_))
  λh4=>iW _ ?_) ?_ ?_)))
  λh3=> .j (λy8:(List UInt8)=>y8.length≤200) (λy8 o7=>KV _ ?_)
  λk9 nX=> .c (λh5=> .g ?_ (.g ?_ (.b (JG ?_) λr11 AW=> .g ?_ (nX _ ?_))))
  λh5=> .j (λy12:(List UInt8)=>y12.length≤200) (λy12 ZX=>nX _ ?_)
  λk13 aW=> .c (λh6=> .g ?_ (.g ?_ (.g ?_ (.b (JG ?_) λr15 SW=> .g ?_ (.g ?_ (aW _ ?_))))))
  λh6=> .g ?_ (.b (JG ?_) λr17 aY=> .b (JG ?_) λr18 bY=> .g ?_ (.g ?_ (aW _ ?_)))
 all_goals (try simp only[NB]at *)<;>(try simp(disch:=omega) only[AA,IA]at *)<;>omega
def zeM{a0 a1 a2}(ha:wt a2≤1000000000):Ok (Ec a0 a1 a2) λr=>wt r≤200:=by
 unfold Ec;refine .b (zeQ ?_) λr1 PV=> .s ?_
 all_goals (try simp only[NB]at *)<;>omega
def ze0{a0 a1}(ha:wt a0≤1000000000)(hb:wt a1≤1000000):Ok (Ed a0 a1) λr=>wt r≤201 *a1.length:=by
 unfold Ed;refine have hw:=tB a1;
 .j (λy1:(List Am)=>wt y1≤201 *a1.length) (λy1 qW=> .s ?_)
  λk2 KV=> .l (λx3:(List Am)×Int=>0≤x3.2∧x3.2≤(a1.length:Int)∧wt x3.1≤201 *x3.2) (λx3:(List Am)×Int=>((a1.length:Int) - x3.2).toNat) (λx3 BY k4 UV=> .c (λh1=> .bi ?_ ?_ λe6 CY wX=> .b (zeM ?_) λr7 MW=> .g ?_ (UV _ ?_ ?_))
  λh1=>KV _ ?_) ?_ ?_
 all_goals (try simp only[NB]at *)<;>(try simp(disch:=omega) only[AA,IA]at *)<;>omega
def ziy{a0}(ha:wt a0≤1000000):Ok (Fd a0) λr=>wt r≤201 *a0.length:=by
 unfold Fd;refine have hw:=tB a0;
 .j (λy1:(List Am)=>wt y1≤201 *a0.length) (λy1 qW=> .s ?_)
  λk2 KV=> .l (λx3:(List Am)×Int=>0≤x3.2∧x3.2≤(a0.length:Int)∧wt x3.1≤201 *x3.2) (λx3:(List Am)×Int=>((a0.length:Int) - x3.2).toNat) (λx3 BY k4 UV=> .c (λh1=> .bi ?_ ?_ λe6 CY wX=> .bi ?_ ?_ λe7 RZ sY=> .b (zeM ?_) λr8 zW=> .g ?_ (UV _ ?_ ?_))
  λh1=>KV _ ?_) ?_ ?_
 all_goals (try simp only[NB]at *)<;>(try simp(disch:=omega) only[AA,IA]at *)<;>omega
def zqE{a0}(ha:wt a0≤1000000000):Ok (Em a0) λr=>True:=by
 unfold Em;refine .b (zeQ ?_) λr1 PV=> .s trivial
 all_goals (try simp only[NB]at *)<;>omega
def zih{a0}(ha:wt a0≤900000000):Ok (Ef a0) λr=>wt r.1≤400:=by
 unfold Ef
 refine .c (λh1=> .s ?_)
  λh1=> .bi ?_ ?_ λe1 PY s7=> .j (λy3:Ab×Ab=>wt y3.2≤a0.length+100) (λy3 QY=> .b (zeQ ?_) λr28 X2=> .e ?_ (.e ?_ (.c (λh2=> .s ?_)
  λh2=>have:=congrArg List.length (eq_of_beq (nf h2)); .s ?_)))
  λk4 UV=> .c (λh3=> .c (λh4=> .s ?_)
  λh4=> .bi ?_ ?_ λe5 EX xX=> .h ?_ (.g ?_ (UV _ ?_)))
  λh3=> .j (λy8:Ab×Ab=>wt y8.2≤a0.length+100) (λy8 o7=>UV _ ?_)
  λk9 nX=> .c (λh5=> .c (λh6=> .s ?_)
  λh6=> .h ?_ (.g ?_ (.h ?_ (.g ?_ (.b (zdv ?_) λr12 BW=> .h ?_ (.g ?_ (nX _ ?_)))))))
  λh5=> .j (λy14:Ab×Ab=>wt y14.2≤a0.length+100) (λy14 z0=>nX _ ?_)
  λk15 HW=> .c (λh7=> .c (λh8=> .s ?_)
  λh8=> .bi ?_ ?_ λe16 xZ SZ=> .h ?_ (.g ?_ (.h ?_ (.g ?_ (.b (zdv ?_) λr20 IY=> .h ?_ (.g ?_ (.h ?_ (.g ?_ (HW _ ?_)))))))))
  λh7=> .c (λh9=> .s ?_)
  λh9=> .h ?_ (.g ?_ (.b (zdv ?_) λr24 yX=> .b (zdv ?_) λr25 zX=> .h ?_ (.g ?_ (.h ?_ (.g ?_ (HW _ ?_))))))
 all_goals (try simp only[NB]at *)<;>(try simp(disch:=omega) only[AA,IA]at *)<;>omega
end Go.D
namespace Go.D
def zqc{a0}:Ok (Hd a0) λr=>True:=by
 unfold Hd
 refine .c (λh1=> .s trivial)
  λh1=> .s trivial
def zi0{a0 a1}:Ok (Br a0 a1) λr=>(True)∧(r=true→a0.Bits.length=32∧0≤a1∧a1≤281474976710655∧ -1≤a0.Top∧a0.Top≤281474976710655):=by
 unfold Br
 refine .j (λy1:Bool=>y1=false→a0.Bits.length=32∧0≤a1∧a1≤281474976710655∧ -1≤a0.Top∧a0.Top≤281474976710655) (λy1 qW=> .c (λh1=> .s ⟨trivial,nofun⟩)
  λh1=>have i2:=qW h1; .jt (λy3=> .s ⟨trivial,λq3=>?_⟩)
  λk4 UV=> .c (λ_=>UV _)
  λh4=> .b zqc λr5 _=> .c (λh5=> .b (zxa ?_) λr6 xW=>UV _)
  λ_=>UV _)
  λk2 KV=> .c (λ_=>KV _ nofun)
  λh6=>have f7:=zgu (nf h6);KV _ λq8=>?_
 all_goals (try simp only[NB]at *)<;>omega
def nT{n:Int}(h0:0≤n):zA .i64 n 1024=n % 1024:=AO h0
def lT{n:Int}(h0:0≤n)(h1:n<1024):EC .i64 n 32=n / 32:=by
 unfold EC;rw[Int.tdiv_eq_ediv_of_nonneg h0,UB (by omega) (by omega)]
def zi4{a0 a1}(ha:wt a0≤1000000000):Ok (Ck a0 a1) λr=>wt r.1≤wt a0∧wt a0≤wt r.1:=by
 have hL:=CB;unfold Ck;simp only[N]at ha;refine Ok.same (pA (p:=wt a0≤bA) ?_) ?_
 ·simp only[N];omega
 refine Ok.bind zi0 (λr2 dW=>?_);refine Ok.cond' (λh=>Ok.some' ?_) (λh=>?_)
 ·simp only[N];omega
 ·simp only[B]at h;have hm:=dW.2 h;have e1:=nT hm.2.1;have e2:=lT (n:=a1 % 1024) (by omega) (by omega);have e3:=AO (a:=a1 % 1024) (b:=32) (by omega);rw[e1,e2,e3];refine Ok.join (λy:Aq=>y.Bits.length=32) (λy hy=>?_) (λk hk=>?_)
  ·refine Ok.chk ?_ ?_
   ·simp only[B];omega
   refine Ok.bind (Ok.get ?_) (λe he=>?_)
   ·omega
   refine Ok.chkn ?_ ?_
   ·simp only[B];omega
   refine Ok.chk ?_ ?_
   ·simp only[B];omega
   refine Ok.bind (Ok.get ?_) (λe' CX=>?_)
   ·omega
   refine Ok.join (λz:Aq=>z.Bits.length=32) (λz hz=>?_) (λk' gX=>?_)
   ·refine Ok.some' ?_;simp only[N];omega
   ·refine Ok.cond' (λ_=>gX _ ?_) (λ_=>gX _ ?_)
    ·simp only[N];exact hy
    ·simp only[N];exact hy
  ·refine Ok.loop (λx:Int×Int×Aq=>0≤x.2.1∧x.2.1≤281474976710656∧0≤x.1∧x.1≤1024∧x.2.2.Bits.length=32) (λx=>(1025 - x.1).toNat) (λx hx k' gX=>?_) ?_ ?_
   ·have f1:=nT hx.1;have f2:=lT (n:=x.2.1 % 1024) (by omega) (by omega);have f3:=AO (a:=x.2.1 % 1024) (b:=32) (by omega);rw[f1,f2,f3];refine Ok.join (λy:Bool=>y=true→x.1<1024∧x.2.1≤a1) (λy hy=>?_) (λk2 KV=>?_)
    ·refine Ok.cond' (λh=>?_) (λ_=>hk _ hx.2.2.2.2);have hy:=hy h;refine Ok.chk ?_ ?_
     ·simp only[B];omega
     refine Ok.bind (Ok.get ?_) (λe he=>?_)
     ·omega
     refine Ok.chkn ?_ ?_
     ·simp only[B];omega
     refine Ok.chk ?_ ?_
     ·simp only[B];omega
     refine Ok.bind (Ok.get ?_) (λe' CX=>?_)
     ·omega
     have g1:=AA (a:=x.1) (b:=1) (by omega) (by omega);have g2:=AA (a:=x.2.1) (b:=1) (by omega) (by omega);refine gX _ ?_ ?_
     ·simp only[N];omega
     ·simp only;omega
    ·refine Ok.cond' (λh=>KV _ λq=>?_) (λ_=>KV _ λq=>nomatch q);simp only[B]at h q;omega
   ·have g:=AA (a:=a0.Top) (b:=1) (by omega) (by omega);simp only;omega
   ·simp only;omega
def ziY:Ok (Fl) λr=>wt r≤32∧32≤wt r:=by
 unfold Fl
 refine .j (λy1:Aq=>wt y1≤32∧32≤wt y1) (λy1 qW=> .s ?_)
  λk2 KV=> .l (λx3:Int×Aq=>0≤x3.1∧x3.1≤32∧x3.2.Bits.length=x3.1) (λx3:Int×Aq=>(32 - x3.1).toNat) (λx3 BY k4 UV=> .c (λh1=> .g ?_ (UV _ ?_ ?_))
  λh1=>KV _ ?_) ?_ ?_
 all_goals (try simp only[NB]at *)<;>(try simp(disch:=omega) only[AA,IA]at *)<;>omega
def zU{a0 a1}(ha:wt a1≤1000000000):Ok (Ca a0 a1) λr=>wt r≤64:=by
 unfold Ca
 refine .j (λy1:Bool=>y1=false→a1.length=32) (λy1 qW=> .c (λh1=> .s ?_)
  λh1=>have i2:=qW h1; .g ?_ (.b ziY λr3 pW=> .s ?_))
  λk2 KV=> .c (λ_=>KV _ nofun)
  λh3=>KV _ λq4=>?_
 all_goals (try simp only[NB]at *)<;>omega
def zeW{a0 a1 a2}(ha:wt a1≤1000000000)(hb:wt a2≤1000000000):Ok (Ei a0 a1 a2) λr=>wt r≤76:=by
 unfold Ei
 refine .j (λy1:Bool=>y1=false→a1.length=12∧a2.length=32) (λy1 qW=> .c (λh1=> .s ?_)
  λh1=>have i2:=qW h1; .g ?_ (.b (zU ?_) λr3 pW=> .s ?_))
  λk2 KV=> .c (λ_=>KV _ nofun)
  λh3=> .c (λ_=>KV _ nofun)
  λh4=>KV _ λq5=>?_
 all_goals (try simp only[NB]at *)<;>omega
def zq6{a0 a1 a2 a3 a4}(ha:wt a0≤1000000000)(hb:wt a2≤1000000000)(hc:wt a4≤1000000000):Ok (Gm a0 a1 a2 a3 a4) λr=>wt r.1≤wt a0∧wt r.2.1≤300:=by
 unfold Gm
 refine .cp ?_ (.jt (λy2=> .c (λh1=> .s ?_)
  λh1=> .jt (λy5=> .c (λh2=> .s ?_)
  λh2=> .c (λh3=> .s ?_)
  λh3=> .b (zfq ?_ ?_ ?_) λr7 ⟨MW,hr7i⟩=> .s ?_)
  λk6 JW=> .c (λ_=>JW _)
  λ_=>JW _)
  λk3 LV=> .c (λ_=>LV _)
  λh5=>have f6:=zaf (nf h5); .b (zaY ?_) λr4 WV=> .c (λ_=>LV _)
  λh7=> .c (λ_=>LV _)
  λ_=>LV _)
 all_goals (try simp only[NB]at *)<;>(try simp(disch:=omega) only[AA,IA]at *)<;>omega
def sP{a0 a1 a2}(ha:wt a0≤1000000000)(hb:wt a2≤1000000000):Ok (Cg a0 a1 a2) λr=>wt r.1≤wt a0∧wt r.2.1≤300:=by
 unfold Cg
 refine .cp ?_ (.b (eK ?_) λr2 dW=> .c (λh1=> .s ?_)
  λh1=>have i2:=dW (nf h1); .b (zq6 ?_ ?_ ?_) λr3 pW=> .j (λy4:Ak=>wt y4≤wt a0) (λy4 rY=> .s ?_)
  λk5 iW=> .c (λh3=>iW _ ?_)
  λh3=>iW _ ?_)
 all_goals (try simp only[NB]at *)<;>omega
def zft{a0 a1}(ha:wt a0≤1000000000)(hb:wt a1≤1000000000):Ok (Ee a0 a1) λr=>wt r≤a0.length+a1.length:=by
 unfold Ee;refine .g ?_ (.g ?_ (.s ?_))
 all_goals (try simp only[NB]at *)<;>omega
def PL{a0 a1}(ha:wt a0≤1000000000)(hb:wt a1≤1000000000):Ok (Bp a0 a1) λr=>wt r≤a0.Cur.Key.length+160:=by
 unfold Bp;refine .b (oN ?_) λr1 PV=> .b (zft ?_ ?_) λr2 dW=> .s ?_
 all_goals (try simp only[NB]at *)<;>omega
def zbx{a0 a1 a2}(ha:wt a0≤1000000000)(hb:wt a1≤1000000000)(hc:wt a2≤1000000000):Ok (Dn a0 a1 a2) λr=>wt r≤a0.length+a1.length+a2.length:=by
 unfold Dn;refine .g ?_ (.g ?_ (.g ?_ (.s ?_)))
 all_goals (try simp only[NB]at *)<;>omega
def zid{a0 a1}(ha:wt a0≤1000000000):Ok (Bw a0 a1) λr=>wt r≤wt a0:=by
 unfold Bw
 refine .cp ?_ (.jt (λy2=> .j (λy5:Ak=>wt y5≤wt a0) (λy5 W2=> .s ?_)
  λk6 JW=> .c (λh1=>JW _ ?_)
  λh1=>JW _ ?_)
  λk3 LV=> .b (eK ?_) λr4 WV=> .c (λh2=>have i3:=WV h2; .c (λh4=> .c (λh5=> .c (λ_=>LV _)
  λ_=>LV _)
  λ_=>LV _)
  λ_=>LV _)
  λ_=>LV _)
 all_goals (try simp only[NB]at *)<;>omega
def zaL{a0}:Ok (Bk a0) λr=>r.length≤6:=by
 unfold Bk
 refine .c (λh1=> .s ?_)
  λh1=> .b (JG ?_) λr1 PV=> .s ?_
 all_goals (try simp only[NB]at *)<;>omega
def zio{a0}(ha:wt a0≤1000000000):Ok (Fe a0) λr=>wt r.1≤wt a0∧wt r.2.1≤300:=by
 unfold Fe
 refine .jt (λy1=> .c (λh1=> .cp ?_ (.s ?_))
  λh1=> .b zaL λr5 TV=> .b (sP ?_ ?_) λr6 xW=> .s ?_)
  λk2 KV=> .b (eK ?_) λr3 pW=> .c (λ_=>KV _)
  λ_=>KV _
 all_goals (try simp only[NB]at *)<;>(try simp(disch:=omega) only[AA,IA]at *)<;>omega
def zkl{a0}(ha:wt a0≤1000000000):Ok (Fn a0) λr=>wt r.1≤wt a0∧wt r.2.1≤300:=by
 unfold Fn
 refine .jt (λy1=> .c (λh1=> .cp ?_ (.s ?_))
  λh1=> .b zaL λr5 TV=> .b (sP ?_ ?_) λr6 xW=> .s ?_)
  λk2 KV=> .b (eK ?_) λr3 pW=> .c (λ_=>KV _)
  λ_=>KV _
 all_goals (try simp only[NB]at *)<;>omega
def zrW{a0}(ha:wt a0≤1000000000):Ok (Dl a0) λr=>wt r.1≤wt a0+32:=by
 unfold Dl
 refine .cp ?_ (.jt (λy2=> .c (λh1=> .s ?_)
  λh1=> .b (uM ?_) λr5 TV=> .s ?_)
  λk3 LV=> .b (eK ?_) λr4 WV=> .c (λ_=>LV _)
  λh2=>have i3:=WV (nf h2); .c (λ_=>LV _)
  λh4=> .c (λ_=>LV _)
  λ_=>LV _)
 all_goals (try simp only[NB]at *)<;>omega
def zsa{a0}(ha:wt a0≤1000000000):Ok (Hf a0) λr=>wt r.1≤wt a0+64:=by
 unfold Hf
 refine .cp ?_ (.jt (λy2=> .c (λh1=> .s ?_)
  λh1=> .b (uM ?_) λr5 TV=> .b (zU ?_) λr6 xW=> .s ?_)
  λk3 LV=> .b (eK ?_) λr4 WV=> .c (λ_=>LV _)
  λh2=>have i3:=WV (nf h2); .c (λ_=>LV _)
  λ_=>LV _)
 all_goals (try simp only[NB]at *)<;>(try simp(disch:=omega) only[AA,IA]at *)<;>omega
def zsk{a0 a1}(ha:a0.length≤1000000000)(hb:a1.length≤1000000000):Ok (Bq a0 a1) λr=>True:=by
 unfold Bq
 refine .c (λh1=> .s trivial)
  λh1=> .jt (λy1=> .s trivial)
  λk2 KV=> .l (λx3:Int×Int=>0≤x3.2∧x3.2≤(a0.length:Int)) (λx3:Int×Int=>((a0.length:Int) - x3.2).toNat) (λx3 BY k4 UV=> .c (λh2=> .bi ?_ ?_ λe5 EX xX=> .bi ?_ ?_ λe6 CY wX=>UV _ ?_ ?_)
  λ_=>KV _) ?_ ?_
 all_goals (try simp only[NB]at *)<;>(try simp(disch:=omega) only[AA,IA]at *)<;>omega
def zeY{a0 a1}(ha:a0.length≤1000000000)(hb:a1.length≤1000000000):Ok (Bm a0 a1) λr=>True:=by
 unfold Bm
 refine .jt (λy1=> .s trivial)
  λk2 KV=> .c (λh1=> .b (zsk ?_ ?_) λr3 _=>KV _)
  λ_=>KV _
 all_goals (try simp only[NB]at *)<;>omega
def zq9{a0 a1 a2}(ha:wt a0≤1000000000)(hb:wt a2≤1000000000):Ok (He a0 a1 a2) λr=>r.1.length≤200:=by
 unfold He
 refine .b (oN ?_) λr1 PV=> .jt (λy2=> .c (λh1=> .s ?_)
  λh1=> .b (zaY ?_) λr6 xW=> .b (zfC ?_ ?_) λr7 MW=> .s ?_)
  λk3 LV=> .c (λ_=>LV _)
  λh2=> .c (λ_=>LV _)
  λh3=> .b dV λr4 WV=> .b (zeY ?_ ?_) λr5 _=>LV _
 all_goals (try simp only[NB]at *)<;>omega
def ze8{a0 a1 a2}(ha:wt a0≤1000000000)(hb:wt a2≤1000000000):Ok (Cz a0 a1 a2) λr=>wt r.1≤wt a0∧r.2.1.length≤200:=by
 unfold Cz
 refine .cp ?_ (.jt (λy2=> .c (λh1=> .s ?_)
  λh1=> .b zi0 λr5 ⟨TV,hr5i⟩=> .c (λh2=> .s ?_)
  λh2=>have i3:=hr5i (nf h2); .b (zq9 ?_ ?_) λr6 xW=> .c (λh4=> .s ?_)
  λh4=> .b (zi4 ?_) λr7 MW=> .s ?_)
  λk3 LV=> .c (λ_=>LV _)
  λh5=>have f6:=zaf (nf h5); .b (oN ?_) λr4 WV=> .c (λ_=>LV _)
  λ_=>LV _)
 all_goals (try simp only[NB]at *)<;>omega
def zic{a0 a1 a2}(ha:wt a0≤1000000000)(hb:wt a2≤1000000000):Ok (Ej a0 a1 a2) λr=>wt r.1≤wt a0+64∧r.2.1.length≤200:=by
 unfold Ej
 refine .cp ?_ (.jt (λy2=> .c (λh1=> .s ?_)
  λh1=> .b (CV ?_) λr5 TV=> .c (λh2=> .s ?_)
  λh2=> .c (λh3=> .b (ze8 ?_ ?_) λr6 xW=> .c (λh4=> .s ?_)
  λh4=> .jt (λy7=> .j (λy9:Ak=>wt y9≤wt a0+64) (λy9 WY=> .s ?_)
  λk10 SV=> .c (λh5=>SV _ ?_)
  λh5=>SV _ ?_)
  λk8 uW=> .c (λ_=>uW _)
  λ_=>uW _)
  λh3=> .jt (λy11=> .c (λh7=> .jt (λy13=> .c (λh8=> .s ?_)
  λh8=> .b (ze8 ?_ ?_) λr15 SW=> .c (λh9=> .s ?_)
  λh9=> .s ?_)
  λk14 RV=> .c (λ_=>RV _)
  λ_=>RV _)
  λh7=> .jt (λy16=> .c (λLW=> .b (zU ?_) λr18 bY=> .b (ze8 ?_ ?_) λr19 HX=> .c (λZW=> .s ?_)
  λZW=> .s ?_)
  λLW=> .s ?_)
  λk17 nW=> .c (λ_=>nW _)
  λ_=>nW _)
  λk12 jW=> .c (λ_=>jW _)
  λ_=>jW _)
  λk3 LV=> .b (eK ?_) λr4 WV=> .c (λ_=>LV _)
  λMY=>have i16:=WV (nf MY); .c (λ_=>LV _)
  λDZ=> .c (λ_=>LV _)
  λ_=>LV _)
 all_goals (try simp only[NB]at *)<;>(try simp(disch:=omega) only[AA,IA]at *)<;>omega
def ziT{a0 a1}(ha:wt a0≤1000000000):Ok (Fo a0 a1) λr=>r.1.length≤wt a0:=by
 unfold Fo
 refine .b (eK ?_) λr1 PV=> .c (λh1=> .s ?_)
  λh1=>have i2:=PV (nf h1); .jt (λy2=> .c (λh3=> .g ?_ (.s ?_))
  λh3=> .c (λh4=> .g ?_ (.s ?_))
  λh4=> .jt (λy4=> .c (λh5=> .g ?_ (.s ?_))
  λh5=> .s ?_)
  λk5 iW=> .c (λ_=>iW _)
  λ_=>iW _)
  λk3 LV=> .c (λ_=>LV _)
  λ_=>LV _
 all_goals (try simp only[NB]at *)<;>(try simp(disch:=omega) only[AA,IA]at *)<;>omega
def zpb{a0 a1 a2}(ha:wt a0≤1000000000)(hb:wt a2≤1000000000):Ok (Hg a0 a1 a2) λr=>wt r.1≤wt a0+64:=by
 unfold Hg
 refine .cp ?_ (.jt (λy2=> .c (λh1=> .s ?_)
  λh1=> .c (λh2=> .b (zsa ?_) λr7 MW=> .c (λh3=> .s ?_)
  λh3=> .s ?_)
  λh2=> .c (λh4=> .s ?_)
  λh4=> .s ?_)
  λk3 LV=> .b (eK ?_) λr4 WV=> .c (λ_=>LV _)
  λh5=>have i6:=WV (nf h5); .c (λ_=>LV _)
  λh7=> .c (λ_=>LV _)
  λh8=> .b zaL λr5 TV=> .b (CV ?_) λr6 xW=>LV _)
 all_goals (try simp only[NB]at *)<;>(try simp(disch:=omega) only[AA,IA]at *)<;>omega
def zqI{a0}(ha:wt a0≤1000000000):Ok (Ho a0) λr=>wt r≤400:=by
 unfold Ho
 refine .b (eK ?_) λr1 PV=> .c (λh1=> .s ?_)
  λh1=>have i2:=PV (nf h1); .j (λy2:(List (List UInt8))=>wt y2≤200) (λy2 wW=> .g ?_ (.g ?_ (.j (λy4:(List (List UInt8))=>wt y4≤400) (λy4 rY=> .s ?_)
  λk5 iW=> .c (λh3=> .g ?_ (.g ?_ (iW _ ?_)))
  λh3=>iW _ ?_)))
  λk3 LV=> .c (λh4=> .g ?_ (.g ?_ (LV _ ?_)))
  λh4=>LV _ ?_
 all_goals (try simp only[NB]at *)<;>omega
def zim{a0 a1}(ha:wt a0≤1000000000):Ok (Bx a0 a1) λr=>wt r≤wt a0+1600:=by
 unfold Bx;refine have hw:=tB a0.Cands;
 .j (λy1:Bool=>y1=false→wt a0≤39∧a0.Cands.length≤3) (λy1 qW=> .c (λh1=> .cp ?_ (.s ?_))
  λh1=>have i2:=qW h1; .j (λy4:Aj=>wt y4≤1600) (λy4 rY=> .s ?_)
  λk5 iW=> .l (λx6:Int×Aj=>0≤x6.1∧x6.1≤(a0.Cands.length:Int)∧wt x6.2≤40 *x6.1) (λx6:Int×Aj=>((a0.Cands.length:Int) - x6.1).toNat) (λx6 n7 k7 VV=> .c (λh3=> .bi ?_ ?_ λe8 W3 V2=> .j (λy9:Aj=>wt y9≤40 *x6.1+40) (λy9 WY=>VV _ ?_ ?_)
  λk10 SV=> .c (λh4=> .bi ?_ ?_ λe11 he11 t7=> .m (pA ?_) (.g ?_ (SV _ ?_)))
  λh4=>SV _ ?_)
  λh3=>iW _ ?_) ?_ ?_)
  λk2 KV=> .c (λ_=>KV _ nofun)
  λh5=>have f6:=hI (nf h5);KV _ λq7=>?_
 all_goals (try simp only[NB]at *)<;>(try simp(disch:=omega) only[AA,IA]at *)<;>omega
def zi8{a0 a1 a2 a3}(ha:wt a0≤1000000000)(hb:wt a3≤1000000000):Ok (Ek a0 a1 a2 a3) λr=>wt r.1≤wt a0+1700:=by
 unfold Ek
 refine .j (λy1:Bool=>y1=false→a3.length=12) (λy1 qW=> .c (λh1=> .cp ?_ (.s ?_))
  λh1=>have i2:=qW h1; .b (zim ?_) λr5 TV=>have hw:=tB r5.Cands; .jt (λy6=> .c (λh3=> .cp ?_ (.s ?_))
  λh3=> .g ?_ (.g ?_ (.s ?_)))
  λk7 VV=> .l (λx8:Int×Aj=>0≤x8.1∧x8.1≤(r5.Cands.length:Int)) (λx8:Int×Aj=>((r5.Cands.length:Int) - x8.1).toNat) (λx8 b5 k9 nX=> .c (λh4=> .h ?_ (.bg ?_ λe10 cY oX=> .c (λh5=> .cp ?_ (.s ?_))
  λh5=>nX _ ?_ ?_))
  λ_=>VV _) ?_ ?_)
  λk2 KV=> .c (λ_=>KV _ nofun)
  λh6=>have f7:=hI (nf h6); .c (λ_=>KV _ nofun)
  λh8=> .c (λ_=>KV _ nofun)
  λh9=>have f10:=EF (nf h9); .c (λ_=>KV _ nofun)
  λLW=>KV _ λq12=>?_
 all_goals (try simp only[NB]at *)<;>(try simp(disch:=omega) only[AA,IA]at *)<;>omega
def zq8{a0 a1 a2 a3}(ha:wt a0≤1000000000)(hb:wt a3≤1000000000):Ok (Fp a0 a1 a2 a3) λr=>wt r.1≤wt a0+1600:=by
 unfold Fp;refine have hw:=tB a0.Cands;
 .b (ztV ?_) λr1 ⟨PV,Z4⟩=> .j (λy2:Bool=>y2=false→wt a0≤39∧a0.Cands.length≤3) (λy2 wW=> .c (λh1=> .cp ?_ (.s ?_))
  λh1=>have i2:=wW h1; .j (λy6:Aj=>wt y6≤1600) (λy6 AX=> .s ?_)
  λk7 VV=> .l (λx8:Int×Aj=>0≤x8.1∧x8.1≤(a0.Cands.length:Int)∧wt x8.2≤40 *x8.1) (λx8:Int×Aj=>((a0.Cands.length:Int) - x8.1).toNat) (λx8 b5 k9 nX=> .c (λh3=> .bi ?_ ?_ λe10 cY oX=> .j (λy12:Aj=>wt y12≤40 *x8.1+40) (λy12 ZX=>nX _ ?_ ?_)
  λk13 aW=> .c (λh4=> .bi ?_ ?_ λe14 A0 XY=> .m (pA ?_) (.g ?_ (aW _ ?_)))
  λh4=>aW _ ?_)
  λh3=>VV _ ?_) ?_ ?_)
  λk3 LV=> .c (λ_=>LV _ nofun)
  λh5=>have i6:=Z4 (nf h5); .c (λ_=>LV _ nofun)
  λh7=> .b (CV ?_) λr4 WV=> .c (λ_=>LV _ nofun)
  λh8=>LV _ λq9=>?_
 all_goals (try simp only[NB]at *)<;>(try simp(disch:=omega) only[AA,IA]at *)<;>omega
def zjt{a0 a1 a2}(ha:wt a0≤1000000000):Ok (Fg a0 a1 a2) λr=>wt r≤wt a0+1:=by
 unfold Fg;refine have hc:=jT a0 a1;
 have hw:=tB a0;
 .g ?_ (.jt (λy1=> .c (λh1=> .s ?_)
  λh1=> .c (λh2=> .c (λh3=> .s ?_)
  λh3=> .g ?_ (.s ?_))
  λh2=> .h ?_ (.bg ?_ λe3 d5 Y2=> .h ?_ (.bg ?_ λe4 yZ YY=> .h (have:=BC ([]++a0) ((oB a0 a1).toNat) (⟨e4.A,iA .i64 e3.Got a2,e4.Sent⟩:Al);?_) (.bg ?_ λe6 CY wX=> .j (λy7:(List Al)=>wt y7≤wt a0+1) (λy7 DY=> .s ?_)
  λk8 uW=> .c (λh4=> .h (have:=BC ([]++a0) ((oB a0 a1).toNat) (⟨e4.A,iA .i64 e3.Got a2,e4.Sent⟩:Al);?_) (.bg ?_ λe9 QZ HY=>uW _ (have:=BC (List.set ([]++a0) ((oB a0 a1).toNat) (⟨e4.A,iA .i64 e3.Got a2,e4.Sent⟩:Al):List Al) ((oB a0 a1).toNat) (⟨e9.A,1000000,e9.Sent⟩:Al);have:=BC ([]++a0) ((oB a0 a1).toNat) (⟨e4.A,iA .i64 e3.Got a2,e4.Sent⟩:Al);?_)))
  λh4=>uW _ (have:=BC ([]++a0) ((oB a0 a1).toNat) (⟨e4.A,iA .i64 e3.Got a2,e4.Sent⟩:Al);?_)))))
  λk2 KV=> .c (λ_=>KV _)
  λh5=>have f6:=NI (nf h5); .c (λ_=>KV _)
  λ_=>KV _)
 all_goals (try simp only[NB]at *)<;>(try simp(disch:=omega) only[AA,IA]at *)<;>omega
def ziv{a0 a1}:Ok (By a0 a1) λr=>True:=by
 unfold By;refine have hc:=jT a0 a1;
 have hw:=tB a0;
 .j (λy1:Bool=>y1=false→0≤oB a0 a1) (λy1 qW=> .c (λh1=> .s trivial)
  λh1=>have i2:=qW h1; .bi ?_ ?_ λe3 d5 Y2=> .bi ?_ ?_ λe4 yZ YY=> .s trivial)
  λk2 KV=> .c (λ_=>KV _ nofun)
  λh3=>have f4:=NI (nf h3);KV _ λq5=>?_
 all_goals (try simp only[NB]at *)<;>(try simp(disch:=omega) only[AA,IA]at *)<;>omega
def zjh{a0 a1 a2}(ha:wt a0≤1000000000):Ok (Do a0 a1 a2) λr=>wt r.1≤wt a0:=by
 unfold Do;refine have hc:=jT a0 a1;
 have hw:=tB a0;
 .g ?_ (.j (λy1:Bool=>y1=false→0≤oB a0 a1) (λy1 qW=> .c (λh1=> .s ?_)
  λh1=>have i2:=qW h1; .h ?_ (.bg ?_ λe4 yZ YY=> .h ?_ (.bg ?_ λe5 EX xX=> .s (have:=BC ([]++a0) ((oB a0 a1).toNat) (⟨e5.A,e5.Got,iA .i64 e4.Sent a2⟩:Al);?_))))
  λk2 KV=> .c (λ_=>KV _ nofun)
  λh3=> .c (λ_=>KV _ nofun)
  λh4=>have f5:=NI (nf h4); .b ziv λr3 _=>KV _ λq6=>?_)
 all_goals (try simp only[NB]at *)<;>(try simp(disch:=omega) only[AA,IA]at *)<;>omega
def zjz{a0 a1}(ha:wt a0≤1000000000):Ok (Dm a0 a1) λr=>True:=by
 unfold Dm;refine have hw:=tB a0.L;
 .jt (λy1=> .s trivial)
  λk2 KV=> .l (λx3:Int=>0≤x3∧x3≤(a0.L.length:Int)) (λx3:Int=>((a0.L.length:Int) - x3).toNat) (λx3 BY k4 UV=> .c (λh1=> .jt (λy5=> .c (λh2=> .s trivial)
  λh2=>UV _ ?_ ?_)
  λk6 JW=> .bi ?_ ?_ λe7 RZ sY=> .c (λh3=> .bi ?_ ?_ λe8 W3 V2=>JW _)
  λ_=>JW _)
  λ_=>KV _) ?_ ?_
 all_goals (try simp only[NB]at *)<;>(try simp(disch:=omega) only[AA,IA]at *)<;>omega
def ziV{a0 a1 a2}(ha:wt a0≤1000000000):Ok (Fh a0 a1 a2) λr=>True:=by
 unfold Fh
 refine .jt (λy1=> .s trivial)
  λk2 KV=> .b (zjz ?_) λr3 _=> .c (λ_=>KV _)
  λh1=> .b ziv λr4 _=>KV _
 all_goals (try simp only[NB]at *)<;>omega
def zqa{a0 a1}(ha:wt a0≤1000000000):Ok (Gx a0 a1) λr=>r.length≤a0.length+12:=by
 unfold Gx
 refine .c (λh1=> .g ?_ (.s ?_))
  λh1=>have f2:=EF (nf h1); .b (JG ?_) λr1 PV=> .b (JG ?_) λr2 dW=> .s ?_
 all_goals (try simp only[NB]at *)<;>omega
def zeP{a0 a1 a2 a3 a4}(ha:wt a2≤1000000000)(hb:wt a3≤1000000000):Ok (Eg a0 a1 a2 a3 a4) λr=>r.length≤60:=by
 unfold Eg
 refine .j (λy1:Bool=>y1=false→a2.length=12∧a3.length=12) (λy1 qW=> .c (λh1=> .s ?_)
  λh1=>have i2:=qW h1; .b (zqa ?_) λr3 pW=> .g ?_ (.g ?_ (.g ?_ (.b (JG ?_) λr5 TV=> .s ?_))))
  λk2 KV=> .c (λ_=>KV _ nofun)
  λh3=>have f4:=EF (nf h3); .c (λ_=>KV _ nofun)
  λh5=> .c (λ_=>KV _ nofun)
  λh6=> .c (λ_=>KV _ nofun)
  λh7=>KV _ λq8=>?_
 all_goals (try simp only[NB]at *)<;>omega
def zjS{a0 a1 a2 a3 a4 a5}(ha:wt a3≤1000000000)(hb:wt a4≤1000000000):Ok (Fi a0 a1 a2 a3 a4 a5) λr=>r.length≤16:=by
 unfold Fi
 refine .b (zeP ?_ ?_) λr1 PV=> .jt (λy2=> .c (λh1=> .s ?_)
  λh1=> .b dV λr4 WV=> .s ?_)
  λk3 LV=> .c (λ_=>LV _)
  λ_=>LV _
 all_goals (try simp only[NB]at *)<;>omega
def zrK{a0 a1}:Ok (Cw a0 a1) λr=>True:=by
 unfold Cw
 refine .jt (λy1=> .s trivial)
  λk2 KV=> .c (λh1=> .c (λ_=>KV _)
  λ_=>KV _)
  λ_=>KV _
def zrh{a0 a1 a2 a3}(ha:wt a3≤1000000000):Ok (Gy a0 a1 a2 a3) λr=>r=0→a3.Kind=3∧1≤a3.Id∧a3.Id≤9:=by
 unfold Gy
 refine .j (λy1:Bool=>y1=false→a3.Kind=3∧1≤a3.Id∧a3.Id≤9) (λy1 qW=> .c (λh1=> .s ?_)
  λh1=>have i2:=qW h1; .b zrK λr3 _=> .c (λh3=> .s ?_)
  λh3=> .b (zjS ?_ ?_) λr4 WV=> .b (zeY ?_ ?_) λr5 _=> .c (λh4=> .s ?_)
  λh4=> .s ?_)
  λk2 KV=> .c (λ_=>KV _ nofun)
  λh5=>have f6:=zdp (nf h5); .c (λ_=>KV _ nofun)
  λh7=> .c (λ_=>KV _ nofun)
  λh8=>have f9:=EF (nf h8); .c (λ_=>KV _ nofun)
  λvW=>have f11:=rD (nf vW);KV _ λq12=>?_
 all_goals (try simp only[NB]at *)<;>omega
def ziB{a0 a1}:Ok (Bz a0 a1) λr=>r.length≤32:=by
 unfold Bz;refine have hm:=mL a0 a1;
 .s ?_
 all_goals (try simp only[NB]at *)<;>omega
def zeJ{a0}:Ok (Bh a0) λr=>r.length≤32:=by
 unfold Bh
 refine .c (λh1=> .s ?_)
  λh1=>have f2:=oL (nf h1); .b ziB λr2 dW=> .b (uM ?_) λr3 pW=> .s ?_
 all_goals (try simp only[NB]at *)<;>omega
def zeH{a0 a1 a2 a3 a4}(ha:wt a1≤1000000000)(hb:wt a2≤1000000000)(hc:wt a4≤1000000000):Ok (Eh a0 a1 a2 a3 a4) λr=>r.length≤60:=by
 unfold Eh
 refine .j (λy1:Bool=>y1=false→a1.length=12∧a2.length=12∧a4.length=16) (λy1 qW=> .c (λh1=> .s ?_)
  λh1=>have i2:=qW h1; .g ?_ (.g ?_ (.b (JG ?_) λr4 WV=> .g ?_ (.s ?_))))
  λk2 KV=> .c (λ_=>KV _ nofun)
  λh3=> .c (λ_=>KV _ nofun)
  λh4=> .c (λ_=>KV _ nofun)
  λh5=> .c (λ_=>KV _ nofun)
  λh6=>KV _ λq7=>?_
 all_goals (try simp only[NB]at *)<;>omega
def zji{a0 a1 a2 a3 a4 a5}(ha:wt a2≤1000000000)(hb:wt a3≤1000000000)(hc:wt a5≤1000000000):Ok (Fj a0 a1 a2 a3 a4 a5) λr=>r.length≤16:=by
 unfold Fj
 refine .b zeJ λr1 PV=> .b (zeH ?_ ?_ ?_) λr2 dW=> .jt (λy3=> .c (λh1=> .s ?_)
  λh1=> .b dV λr5 TV=> .s ?_)
  λk4 UV=> .c (λ_=>UV _)
  λ_=>UV _
 all_goals (try simp only[NB]at *)<;>omega
def zqp{a0 a1}(ha:wt a1≤1000000000):Ok (Gz a0 a1) λr=>True:=by
 unfold Gz
 refine .jt (λy1=> .s trivial)
  λk2 KV=> .c (λh1=>have f2:=rD h1; .c (λh3=> .b (zji ?_ ?_ ?_) λr3 pW=> .b (zeY ?_ ?_) λr4 _=>KV _)
  λ_=>KV _)
  λ_=>KV _
 all_goals (try simp only[NB]at *)<;>omega
def zqj{a0 a1 a2}(ha:wt a1≤1000000000)(hb:wt a2≤1000000000):Ok (Ha a0 a1 a2) λr=>r.length≤32:=by
 unfold Ha
 refine .j (λy1:Bool=>y1=false→a1.length=12∧a2.length=12) (λy1 qW=> .c (λh1=> .s ?_)
  λh1=>have i2:=qW h1; .g ?_ (.g ?_ (.b ziB λr3 pW=> .s ?_)))
  λk2 KV=> .c (λ_=>KV _ nofun)
  λh3=>have f4:=oL (nf h3); .c (λ_=>KV _ nofun)
  λh5=>KV _ λq6=>?_
 all_goals (try simp only[NB]at *)<;>omega
def zpA{a0}:Ok (Cy a0) λr=>r.length≤32:=by
 unfold Cy
 refine .c (λh1=> .s ?_)
  λh1=> .b (uM ?_) λr1 PV=> .s ?_
 all_goals (try simp only[NB]at *)<;>omega
def zrr{a0 a1}(ha:wt a0≤1000000000):Ok (Hb a0 a1) λr=>r.length≤a0.length+32:=by
 unfold Hb
 refine .c (λh1=> .s ?_)
  λh1=> .g ?_ (.j (λy1:(List UInt8)=>y1.length≤a0.length+32) (λy1 qW=> .s ?_)
  λk2 KV=> .l (λx3:(List UInt8)×Int=>0≤x3.2∧x3.2≤64∧x3.1.length≤a0.length+32) (λx3:(List UInt8)×Int=>(64 - x3.2).toNat) (λx3 BY k4 UV=> .c (λh2=> .b (uM ?_) λr5 TV=>UV _ ?_ ?_)
  λh2=>KV _ ?_) ?_ ?_)
 all_goals (try simp only[NB]at *)<;>(try simp(disch:=omega) only[AA,IA]at *)<;>omega
def zii{a0 a1 a2 a3}(ha:wt a1≤1000000000)(hb:wt a2≤1000000000):Ok (Fk a0 a1 a2 a3) λr=>r.length≤64:=by
 unfold Fk
 refine .b (zqj ?_ ?_) λr1 PV=> .b zpA λr2 dW=> .c (λh1=> .s ?_)
  λh1=> .b (zrr ?_) λr3 pW=> .s ?_
 all_goals (try simp only[NB]at *)<;>omega
def zil{a0 a1 a2}(ha:wt a2≤1000000000):Ok (Fq a0 a1 a2) λr=>wt r.1≤200:=by
 unfold Fq
 refine .j (λy1:Bool=>y1=false→wt a2≤112) (λy1 qW=> .c (λh1=> .s ?_)
  λh1=>have i2:=qW h1; .b (zji ?_ ?_ ?_) λr3 pW=> .c (λh3=> .s ?_)
  λh3=> .cp ?_ (.s ?_))
  λk2 KV=> .c (λ_=>KV _ nofun)
  λh4=>have f5:=rD (nf h4);KV _ λq6=>?_
 all_goals (try simp only[NB]at *)<;>omega
end Go.D
namespace Go.D
def nN{a0}:Ok (Bf a0) λr=>True:=by
 unfold Bf
 refine .c (λh1=> .s trivial)
  λh1=> .s trivial
def zoS{a0 a1}:Ok (Cu a0 a1) λr=>True:=by
 unfold Cu
 refine .jt (λy1=> .s trivial)
  λk2 KV=> .c (λh1=> .c (λh2=> .c (λ_=>KV _)
  λ_=>KV _)
  λ_=>KV _)
  λ_=>KV _
def KT{a0 a1}:Ok (Cv a0 a1) λr=>True:=by
 unfold Cv
 refine .b zoS λr1 _=> .c (λh1=> .s trivial)
  λh1=> .c (λh2=> .s trivial)
  λh2=> .jt (λy2=> .s trivial)
  λk3 LV=> .c (λ_=>LV _)
  λ_=>LV _
def ziL{a0}(ha:wt a0≤1000000000):Ok (Fb a0) λr=>wt r≤a0.Cn.length:=by
 unfold Fb;refine .g ?_ (.s ?_)
 all_goals (try simp only[NB]at *)<;>omega
def zaS{a0}(ha:wt a0≤1000000000)(hb:1≤a0.Id∧a0.Id≤9∧1≤a0.Psk.length∧a0.Psk.length≤32∧0≤a0.At.Host∧a0.At.Host≤4294967295∧0≤a0.At.Port∧a0.At.Port≤65535):Ok (Dk a0) λr=>wt r≤wt a0∧r.Id=a0.Id:=by
 unfold Dk;refine .b (zi9 ?_ ?_ ?_ ?_) λr1 PV=> .s ?_
 all_goals (try simp only[NB]at *)<;>omega
def zjy{a0 a1 a2}(ha:wt a0≤1000000000)(hb:wt a2≤1000000000):Ok (Fc a0 a1 a2) λr=>wt r.1≤wt a0+12∧r.1.Id=a0.Id∧r.2.1.length≤1∧wt r.2.1≤400∧wt r.2.2.1≤2000:=by
 unfold Fc
 refine .cp ?_ (.j (λy2:Bool=>y2=false→CF a0∧a2.length=12) (λy2 wW=> .c (λh1=> .s ?_)
  λh1=>have i2:=wW h1; .c (λh3=> .s ?_)
  λh3=> .g ?_ (.b nN λr5 _=> .g ?_ (.b (ziL ?_) λr6 xW=> .s ?_)))
  λk3 LV=> .b (FN ?_) λr4 WV=> .c (λ_=>LV _ nofun)
  λh4=>have i5:=WV (nf h4); .c (λ_=>LV _ nofun)
  λh6=>LV _ λq7=>?_)
 all_goals (try simp only[NB]at *)<;>omega
def zoV{a0 a1 a2}(ha:wt a0≤1000000000)(hb:wt a2≤1000000000):Ok (Gn a0 a1 a2) λr=>wt r.1≤wt a0∧r.1.Id=a0.Id∧r.2.1.length≤1∧wt r.2.1≤400∧wt r.2.2.1≤2000:=by
 unfold Gn
 refine .cp ?_ (.j (λy2:Bool=>y2=false→CF a0∧a2.length≤40) (λy2 wW=> .c (λh1=> .s ?_)
  λh1=>have i2:=wW h1; .c (λh3=> .s ?_)
  λh3=> .b (sP ?_ ?_) λr5 TV=> .c (λh4=> .s ?_)
  λh4=> .g ?_ (.g ?_ (.b (PL ?_ ?_) λr6 xW=> .s ?_)))
  λk3 LV=> .b (FN ?_) λr4 WV=> .c (λ_=>LV _ nofun)
  λh5=>have i6:=WV (nf h5); .c (λ_=>LV _ nofun)
  λh7=>LV _ λq8=>?_)
 all_goals (try simp only[NB]at *)<;>omega
def zoD{a0 a1}(ha:wt a0≤1000000000):Ok (Gw a0 a1) λr=>wt r.1≤wt a0+32∧r.1.Id=a0.Id∧r.2.1.length≤1∧wt r.2.1≤400∧wt r.2.2.1≤2000:=by
 unfold Gw
 refine .cp ?_ (.j (λy2:Bool=>y2=false→CF a0) (λy2 wW=> .c (λh1=> .s ?_)
  λh1=>have i2:=wW h1; .jt (λy5=> .c (λh3=> .s ?_)
  λh3=> .b (zrW ?_) λr7 MW=> .b (zio ?_) λr8 zW=> .jt (λy9=> .c (λh4=> .s ?_)
  λh4=> .b nN λr11 _=> .b (PL ?_ ?_) λr12 BW=> .s ?_)
  λk10 SV=> .c (λ_=>SV _)
  λ_=>SV _)
  λk6 JW=> .c (λ_=>JW _)
  λ_=>JW _)
  λk3 LV=> .b (FN ?_) λr4 WV=> .c (λ_=>LV _ nofun)
  λh7=>have i8:=WV (nf h7);LV _ λq9=>?_)
 all_goals (try simp only[NB]at *)<;>omega
def zoT{a0 a1}(ha:wt a0≤1000000000):Ok (Gr a0 a1) λr=>wt r.1≤wt a0∧r.1.Id=a0.Id∧r.2.1.length≤2∧wt r.2.1≤900∧wt r.2.2≤2000:=by
 unfold Gr
 refine .cp ?_ (.j (λy2:Bool=>y2=false→CF a0) (λy2 wW=> .c (λh1=> .s ?_)
  λh1=>have i2:=wW h1; .c (λh3=> .b KT λr5 _=> .c (λh4=> .b (zaS ?_ ?_) λr6 xW=> .g ?_ (.g ?_ (.s ?_)))
  λh4=> .jt (λy8=> .j (λy10:(List Ab)=>y10.length≤1∧wt y10≤400) (λy10 VW=> .jt (λy13=> .j (λy15:(List Ab)=>y15.length≤2∧wt y15≤900) (λy15 B0=> .s ?_)
  λk16 KW=> .c (λh5=> .cp ?_ (.g ?_ (KW _ ?_)))
  λh5=>KW _ ?_)
  λk14 RV=> .c (λ_=>RV _)
  λ_=>RV _)
  λk11 QV=> .c (λh7=> .b (ziL ?_) λr12 BW=> .g ?_ (QV _ ?_))
  λh7=>QV _ ?_)
  λk9 nX=> .c (λ_=>nX _)
  λ_=>nX _)
  λh3=> .c (λh9=> .b (zaS ?_ ?_) λr18 bY=> .g ?_ (.g ?_ (.s ?_)))
  λh9=> .b (zid ?_) λr20 IY=> .b KT λr21 _=> .c (λvW=> .s ?_)
  λvW=> .j (λy22:Ad=>wt y22≤wt a0∧y22.Id=a0.Id) (λy22 m5=> .b (zio ?_) λr25 zX=> .j (λy26:(List Ab)×(List Ae)×Ad=>y26.1.length≤1∧wt y26.1≤400∧wt y26.2.1≤2000∧wt y26.2.2≤wt a0∧y26.2.2.Id=a0.Id) (λy26 C1=> .s ?_)
  λk27 WW=> .c (λLW=> .g ?_ (.b (PL ?_ ?_) λr28 X2=> .g ?_ (WW _ ?_)))
  λLW=>WW _ ?_)
  λk23 dY=> .c (λZW=> .b nN λr24 _=>dY _ ?_)
  λZW=>dY _ ?_)
  λk3 LV=> .b (FN ?_) λr4 WV=> .c (λ_=>LV _ nofun)
  λrX=>have i14:=WV (nf rX); .c (λ_=>LV _ nofun)
  λMY=>LV _ λq16=>?_)
 all_goals (try simp only[NB]at *)<;>(try simp(disch:=omega) only[AA,IA]at *)<;>omega
def zr9{a0 a1}(ha:wt a0≤1000000000):Ok (Ci a0 a1) λr=>wt r≤wt a0∧r.Id=a0.Id:=by
 unfold Ci
 refine .cp ?_ (.jt (λy2=> .j (λy5:Ad=>wt y5≤wt a0∧y5.Id=a0.Id) (λy5 W2=> .s ?_)
  λk6 JW=> .c (λh1=>JW _ ?_)
  λh1=>JW _ ?_)
  λk3 LV=> .b (FN ?_) λr4 WV=> .c (λ_=>LV _)
  λ_=>LV _)
 all_goals (try simp only[NB]at *)<;>omega
def zrX{a0}(ha:wt a0≤1000000000):Ok (Hm a0) λr=>wt r.1≤wt a0∧r.1.Id=a0.Id∧wt r.2≤500:=by
 unfold Hm
 refine .b (FN ?_) λr1 PV=> .c (λh1=> .cp ?_ (.s ?_))
  λh1=>have i2:=PV (nf h1); .c (λh3=> .b (zaS ?_ ?_) λr3 pW=> .g ?_ (.s ?_))
  λh3=> .b (zaS ?_ ?_) λr5 TV=> .s ?_
 all_goals (try simp only[NB]at *)<;>omega
def zeF{a0 a1 a2}(ha:wt a0≤1000000000)(hb:wt a2≤1000000000):Ok (En a0 a1 a2) λr=>wt r.1≤wt a0+2000∧r.1.Id=a0.Id∧r.2.1.length≤1∧wt r.2.1≤400∧wt r.2.2≤8000:=by
 unfold En
 refine .cp ?_ (.j (λy2:Bool=>y2=false→CF a0∧wt a2≤112) (λy2 wW=> .c (λh1=> .s ?_)
  λh1=>have i2:=wW h1; .jt (λy5=> .c (λh3=> .b (zil ?_) λr8 zW=> .b (zii ?_ ?_) λr9 UW=> .b (zeW ?_ ?_) λr10 sW=> .b nN λr11 _=> .g ?_ (.g ?_ (.g ?_ (.b zeJ λr13 iX=> .b (zeH ?_ ?_ ?_) λr14 qX=> .b (zft ?_ ?_) λr15 SW=> .g ?_ (.cp ?_ (.g ?_ (.s ?_)))))))
  λh3=> .jt (λy17=> .c (λh4=> .s ?_)
  λh4=> .b (zic ?_ ?_) λr19 HX=> .c (λh5=> .s ?_)
  λh5=> .b (ziT ?_) λr20 IY=> .b (oN ?_) λr21 zZ=> .b (zbx ?_ ?_ ?_) λr22 jX=> .g ?_ (.j (λy23:(List Ae)×Ad=>wt y23.1≤2000∧wt y23.2≤wt a0+1000∧y23.2.Id=a0.Id) (λy23 AZ=> .j (λy26:(List Ae)×Ad=>wt y26.1≤3000∧wt y26.2≤wt a0+1000∧y26.2.Id=a0.Id) (λy26 C1=> .j (λy29:(List Ae)=>wt y29≤4000) (λy29 v7=> .j (λy32:(List Ab)×(List Ae)×Ad=>y32.1.length≤1∧wt y32.1≤400∧wt y32.2.1≤8000∧wt y32.2.2≤wt a0+2000∧y32.2.2.Id=a0.Id) (λy32 n5=> .s ?_)
  λk33 eY=> .c (λh6=> .b (sP ?_ ?_) λr34 o5=> .j (λy35:(List Ab)×(List Ae)×Ad=>y35.1.length≤1∧wt y35.1≤400∧wt y35.2.1≤8000∧wt y35.2.2≤wt a0+2000∧y35.2.2.Id=a0.Id) (λy35 z7=>eY _ ?_)
  λk36 tY=> .c (λh7=> .g ?_ (.b (PL ?_ ?_) λr37 s5=> .g ?_ (.g ?_ (.g ?_ (.g ?_ (tY _ ?_))))))
  λh7=>tY _ ?_)
  λh6=>eY _ ?_)
  λk30 uY=> .c (λh8=> .g ?_ (.g ?_ (.g ?_ (uY _ ?_))))
  λh8=>uY _ ?_)
  λk27 WW=> .c (λh9=> .g ?_ (.g ?_ (.g ?_ (WW _ ?_))))
  λh9=>WW _ ?_)
  λk24 cW=> .c (λvW=> .g ?_ (.g ?_ (.g ?_ (.g ?_ (cW _ ?_)))))
  λvW=>cW _ ?_))
  λk18 IW=> .c (λ_=>IW _)
  λ_=>IW _)
  λk6 JW=> .c (λZW=> .c (λrX=> .b (CV ?_) λr7 MW=>JW _)
  λ_=>JW _)
  λ_=>JW _)
  λk3 LV=> .b (FN ?_) λr4 WV=> .c (λ_=>LV _ nofun)
  λLY=>have i15:=WV (nf LY); .c (λ_=>LV _ nofun)
  λRY=>LV _ λq17=>have f18:=rD (nf q17);?_)
 all_goals (try simp only[NB]at *)<;>omega
end Go.D
namespace Go.D
def vR{a0}(ha:wt a0≤1000000000):Ok (Ch a0) λr=>wt r≤wt a0:=by
 unfold Ch
 refine .b (nS ?_) λr1 PV=> .c (λh1=> .cp ?_ (.s ?_))
  λh1=>have i2:=PV (nf h1); .g ?_ (.g ?_ (.s ?_))
 all_goals (try simp only[NB]at *)<;>omega
def zip{a0}:Ok (Cj a0) λr=>wt r≤0:=by
 unfold Cj;refine .s ?_
 all_goals (try simp only[NB]at *)<;>omega
def ziJ{a0 a1 a2 a3}(ha:wt a3≤1000000000):Ok (Fm a0 a1 a2 a3) λr=>wt r≤400:=by
 unfold Fm
 refine .j (λy1:Bool=>y1=false→wt a3≤112) (λy1 qW=> .c (λh1=> .s ?_)
  λh1=>have i2:=qW h1; .g ?_ (.g ?_ (.b (zii ?_ ?_) λr3 pW=> .b (zeW ?_ ?_) λr4 WV=> .b zip λr5 TV=> .s ?_)))
  λk2 KV=> .c (λ_=>KV _ nofun)
  λh3=>have f4:=oL (nf h3); .c (λ_=>KV _ nofun)
  λh5=> .c (λ_=>KV _ nofun)
  λh6=>have f7:=EF (nf h6); .c (λ_=>KV _ nofun)
  λh8=>have f9:=rD (nf h8);KV _ λq10=>?_
 all_goals (try simp only[NB]at *)<;>omega
def ze3{a0 a1}(ha:wt a0≤1000000000)(hb:wt a1≤1000000000):Ok (Bi a0 a1) λr=>wt r.1≤wt a0+wt a1+1∧(r.2=0→0<r.1.L.length)∧r.1.L.length≤a0.L.length+1:=by
 unfold Bi
 refine .cp ?_ (.jt (λy2=> .c (λh1=> .s ?_)
  λh1=> .b (zcL ?_) λr6 xW=> .c (λh2=> .s ?_)
  λh2=> .jt (λy7=> .c (λh3=> .s ?_)
  λh3=> .cp ?_ (.g ?_ (.s ?_)))
  λk8 uW=> .b (zwb ?_) λr9 UW=> .c (λ_=>uW _)
  λ_=>uW _)
  λk3 LV=> .b (zlo ?_) λr4 WV=> .c (λ_=>LV _)
  λh5=>have i6:=WV (nf h5); .b (nS ?_) λr5 TV=> .c (λ_=>LV _)
  λ_=>LV _)
 all_goals (try simp only[NB]at *)<;>omega
def zp4{a0}(ha:wt a0≤1000000000):Ok (Hc a0) λr=>wt r.1≤wt a0∧r.2.1.length≤1∧wt r.2.1≤400∧wt r.2.2≤600:=by
 unfold Hc
 refine .cp ?_ (.j (λy2:Bool=>y2=false→wt a0≤235) (λy2 wW=> .c (λh1=> .s ?_)
  λh1=>have i2:=wW h1; .b (zkl ?_) λr5 TV=> .c (λh3=> .s ?_)
  λh3=> .b (PL ?_ ?_) λr6 xW=> .s ?_)
  λk3 LV=> .b (nS ?_) λr4 WV=> .c (λ_=>LV _ nofun)
  λh4=>have i5:=WV (nf h4); .c (λ_=>LV _ nofun)
  λh6=>LV _ λq7=>?_)
 all_goals (try simp only[NB]at *)<;>omega
def zpJ{a0 a1}(ha:wt a0≤1000000000)(hb:wt a1≤1000000000):Ok (Gp a0 a1) λr=>wt r.1≤wt a0∧r.2.1.length≤1∧wt r.2.1≤400∧wt r.2.2.1≤2000:=by
 unfold Gp
 refine .cp ?_ (.j (λy2:Bool=>y2=false→wt a0≤235∧a1.length≤40) (λy2 wW=> .c (λh1=> .s ?_)
  λh1=>have i2:=wW h1; .c (λh3=> .s ?_)
  λh3=> .b (sP ?_ ?_) λr5 TV=> .c (λh4=> .s ?_)
  λh4=> .g ?_ (.g ?_ (.b (PL ?_ ?_) λr6 xW=> .s ?_)))
  λk3 LV=> .b (nS ?_) λr4 WV=> .c (λ_=>LV _ nofun)
  λh5=>have i6:=WV (nf h5);LV _ λq7=>?_)
 all_goals (try simp only[NB]at *)<;>omega
def zpO{a0 a1}(ha:wt a0≤1000000000):Ok (Gs a0 a1) λr=>wt r≤wt a0+1600:=by
 unfold Gs
 refine .cp ?_ (.jt (λy2=> .c (λh1=> .s ?_)
  λh1=> .c (λh2=> .b (vR ?_) λr5 TV=> .s ?_)
  λh2=> .b (zid ?_) λr6 xW=> .b (zim ?_) λr7 MW=> .s ?_)
  λk3 LV=> .b (nS ?_) λr4 WV=> .c (λ_=>LV _)
  λh3=>have i4:=WV (nf h3); .c (λ_=>LV _)
  λ_=>LV _)
 all_goals (try simp only[NB]at *)<;>(try simp(disch:=omega) only[AA,IA]at *)<;>omega
def zpQ{a0 a1 a2 a3 a4}(ha:wt a0≤1000000000)(hb:wt a3≤1000000000)(hc:wt a4≤1000000000):Ok (Hh a0 a1 a2 a3 a4) λr=>wt r.1≤wt a0+5000∧r.2.1.length≤2∧wt r.2.1≤1000∧wt r.2.2.1≤10000:=by
 unfold Hh
 refine .cp ?_ (.j (λy2:Bool=>y2=false→wt a0≤235) (λy2 wW=> .c (λh1=> .s ?_)
  λh1=>have i2:=wW h1; .b (zic ?_ ?_) λr5 TV=> .c (λh3=> .s ?_)
  λh3=> .b (ziT ?_) λr6 xW=> .b (oN ?_) λr7 MW=> .b (zbx ?_ ?_ ?_) λr8 zW=> .g ?_ (.j (λy9:(List Av)×(List Ae)×Ai=>y9.1.length≤1∧wt y9.1≤400∧wt y9.2.1≤4000∧wt y9.2.2≤wt a0+3000) (λy9 WY=> .b (zi8 ?_ ?_) λr30 C0=> .b (sP ?_ ?_) λr31 t5=> .jt (λy32=> .c (λh4=> .s ?_)
  λh4=> .g ?_ (.b (PL ?_ ?_) λr34 o5=> .g ?_ (.s ?_)))
  λk33 eY=> .c (λ_=>eY _)
  λ_=>eY _)
  λk10 SV=> .c (λh6=> .g ?_ (.g ?_ (.g ?_ (SV _ ?_))))
  λh6=> .j (λy12:(List Av)×(List Ae)×Ai=>y12.1.length≤1∧wt y12.1≤400∧wt y12.2.1≤4000∧wt y12.2.2≤wt a0+3000) (λy12 ZX=>SV _ ?_)
  λk13 aW=> .c (λh7=> .b (zq8 ?_ ?_) λr14 qX=> .j (λy15:(List Ae)×Ai=>wt y15.1≤4000∧wt y15.2≤wt a0+3000) (λy15 B0=>aW _ ?_)
  λk16 KW=> .c (λh8=> .g ?_ (.g ?_ (.g ?_ (KW _ ?_))))
  λh8=>KW _ ?_)
  λh7=> .j (λy18:(List Av)×(List Ae)×Ai=>y18.1.length≤1∧wt y18.1≤400∧wt y18.2.1≤4000∧wt y18.2.2≤wt a0+3000) (λy18 D0=>aW _ ?_)
  λk19 CW=> .c (λh9=> .b (zpb ?_ ?_) λr20 IY=> .j (λy21:(List Av)×(List Ae)×Ai=>y21.1.length≤1∧wt y21.1≤400∧wt y21.2.1≤4000∧wt y21.2.2≤wt a0+3000) (λy21 D1=>CW _ ?_)
  λk22 XW=> .c (λvW=> .j (λy23:(List Ae)=>wt y23≤2000) (λy23 AZ=> .b (zkl ?_) λr26 KX=> .j (λy27:(List Av)×(List Ae)×Ai=>y27.1.length≤1∧wt y27.1≤400∧wt y27.2.1≤4000∧wt y27.2.2≤wt a0+3000) (λy27 v5=>XW _ ?_)
  λk28 eX=> .c (λLW=> .g ?_ (.b (PL ?_ ?_) λr29 BZ=> .g ?_ (eX _ ?_)))
  λLW=>eX _ ?_)
  λk24 cW=> .c (λZW=> .g ?_ (.g ?_ (.g ?_ (cW _ ?_))))
  λZW=>cW _ ?_)
  λvW=>XW _ ?_)
  λh9=>CW _ ?_))
  λk3 LV=> .b (nS ?_) λr4 WV=> .c (λ_=>LV _ nofun)
  λrX=>have i14:=WV (nf rX); .c (λ_=>LV _ nofun)
  λMY=>LV _ λq16=>have f17:=EF (nf q16);?_)
 all_goals (try simp only[NB]at *)<;>omega
def zi5{a0}(ha:wt a0≤1000000000):Ok (Ff a0) λr=>wt r≤wt a0:=by
 unfold Ff;refine .g ?_ (.s ?_)
 all_goals (try simp only[NB]at *)<;>omega
def zqb{a0 a1}(ha:wt a0≤1000000000):Ok (Gt a0 a1) λr=>wt r≤wt a0+60000:=by
 unfold Gt;refine have hw:=tB a0.L;
 .j (λy1:Bool=>y1=false→wt a0≤2832∧a0.L.length≤12) (λy1 qW=> .c (λh1=> .cp ?_ (.s ?_))
  λh1=>have i2:=qW h1; .j (λy5:Ap=>wt y5≤60000) (λy5 W2=> .s ?_)
  λk6 JW=> .l (λx7:Int×Ap=>0≤x7.1∧x7.1≤(a0.L.length:Int)∧wt x7.2≤4500 *x7.1) (λx7:Int×Ap=>((a0.L.length:Int) - x7.1).toNat) (λx7 hx7 k8 uW=> .c (λh3=> .bi ?_ ?_ λe9 QZ HY=> .b (zpO ?_) λr10 sW=> .jt (λy11=> .j (λy13:Ap=>wt y13≤4500 *x7.1+4500) (λy13 kX=>uW _ ?_ ?_)
  λk14 RV=> .c (λh4=> .g ?_ (RV _ ?_))
  λh4=>RV _ ?_)
  λk12 jW=> .c (λ_=>jW _)
  λ_=>jW _)
  λh3=>JW _ ?_) ?_ ?_)
  λk2 KV=> .b (zlo ?_) λr3 pW=> .c (λ_=>KV _ nofun)
  λh6=>have i7:=pW (nf h6);KV _ λq8=>?_
 all_goals (try simp only[NB]at *)<;>(try simp(disch:=omega) only[AA,IA]at *)<;>omega
def zo7{a0 a1 a2 a3}(ha:wt a0≤1000000000)(hb:wt a3≤1000000000):Ok (Gq a0 a1 a2 a3) λr=>wt r.1≤wt a0+4000∧r.2.1.length≤1∧wt r.2.1≤400∧wt r.2.2.1≤2000:=by
 unfold Gq;refine have hw:=tB a0.T.L;
 .cp ?_ (.j (λy2:Bool=>y2=false→SF a0) (λy2 wW=> .c (λh1=> .s ?_)
  λh1=>have i2:=wW h1; .c (λh3=> .s ?_)
  λh3=> .bi ?_ ?_ λe6 CY wX=> .b (zpJ ?_ ?_) λr7 MW=> .j (λy8:Ac=>wt y8≤wt a0+4000) (λy8 o7=> .s ?_)
  λk9 nX=> .c (λh4=> .h ?_ (.bg ?_ λe10 cY oX=>nX _ (have:=BC a0.T.L a2.toNat r7.1;?_)))
  λh4=>nX _ ?_)
  λk3 LV=> .b (LU ?_) λr4 WV=> .c (λ_=>LV _ nofun)
  λh5=>have i6:=WV (nf h5);LV _ λq7=>?_)
 all_goals (try simp only[NB]at *)<;>(try simp(disch:=omega) only[AA,IA]at *)<;>omega
def zoW{a0 a1}(ha:wt a0≤1000000000):Ok (Gu a0 a1) λr=>wt r.1≤wt a0+60000∧wt r.2≤50000:=by
 unfold Gu;refine have hw:=tB a0.T.L;
 .cp ?_ (.j (λy2:Bool=>y2=false→SF a0) (λy2 wW=> .c (λh1=> .s ?_)
  λh1=>have i2:=wW h1; .b (zqb ?_) λr5 TV=> .j (λy6:(List Ae)=>wt y6≤50000) (λy6 AX=> .s ?_)
  λk7 VV=> .l (λx8:(List Ae)×Int=>0≤x8.2∧x8.2≤(a0.T.L.length:Int)∧wt x8.1≤3400 *x8.2) (λx8:(List Ae)×Int=>((a0.T.L.length:Int) - x8.2).toNat) (λx8 b5 k9 nX=> .c (λh3=> .bi ?_ ?_ λe10 cY oX=> .b (zcL ?_) λr11 AW=> .jt (λy12=> .j (λy16:(List Ae)=>wt y16≤3400 *x8.2+3400) (λy16 vY=>nX _ ?_ ?_)
  λk17 nW=> .c (λh4=> .bi ?_ ?_ λe18 z5 E1=> .b (zi5 ?_) λr19 HX=> .g ?_ (nW _ ?_))
  λh4=>nW _ ?_)
  λk13 aW=> .bi ?_ ?_ λe14 A0 XY=> .c (λh5=> .c (λ_=>aW _)
  λh6=> .h ?_ (.bg ?_ λe15 ZY aZ=>aW _))
  λ_=>aW _)
  λh3=>VV _ ?_) ?_ ?_)
  λk3 LV=> .b (LU ?_) λr4 WV=> .c (λ_=>LV _ nofun)
  λh7=>have i8:=WV (nf h7);LV _ λq9=>?_)
 all_goals (try simp only[NB]at *)<;>(try simp(disch:=omega) only[AA,IA]at *)<;>omega
def zqR{a0 a1}(ha:wt a0≤1000000000)(hb:wt a1≤3000)(hc:a1.length≤3):Ok (Hi a0 a1) λr=>r.1.length≤3∧wt r.1≤9100∧wt r.2≤wt a0:=by
 unfold Hi
 refine .j (λy1:(List Av)×Ac=>y1.1.length≤3∧wt y1.1≤9100∧wt y1.2≤wt a0) (λy1 qW=> .s ?_)
  λk2 KV=> .l (λx3:(List Av)×Int×Ac=>0≤x3.2.1∧x3.2.1≤(a1.length:Int)∧(x3.1.length:Int)≤x3.2.1∧wt x3.1≤3001 *x3.2.1∧wt x3.2.2≤wt a0) (λx3:(List Av)×Int×Ac=>((a1.length:Int) - x3.2.1).toNat) (λx3 BY k4 UV=> .c (λh1=> .j (λy5:(List Av)×Ac=>(y5.1.length:Int)≤x3.2.1+1∧wt y5.1≤3001 *x3.2.1+3001∧wt y5.2≤wt a0) (λy5 W2=>UV _ ?_ ?_)
  λk6 JW=> .bi ?_ ?_ λe7 RZ sY=> .b (zjz ?_) λr8 _=> .j (λy9:Ac=>wt y9≤wt a0) (λy9 WY=> .bi ?_ ?_ λe15 ZY aZ=> .g ?_ (JW _ ?_))
  λk10 SV=> .c (λh2=> .bi ?_ ?_ λe11 he11 t7=> .bi ?_ ?_ λe12 he12 A7=> .b (zqE ?_) λr13 _=> .b (zjh ?_) λr14 qX=> .c (λh3=>JW _ ?_)
  λh3=>SV _ ?_)
  λh2=>SV _ ?_)
  λh1=>KV _ ?_) ?_ ?_
 all_goals (try simp only[NB]at *)<;>(try simp(disch:=omega) only[AA,IA]at *)<;>omega
def zsc{a0}(ha:wt a0≤1000000000):Ok (Hl a0) λr=>wt r.1≤wt a0+100∧wt r.2≤200:=by
 unfold Hl
 refine .cp ?_ (.j (λy2:Bool=>y2=false→SF a0) (λy2 wW=> .c (λh1=> .s ?_)
  λh1=>have i2:=wW h1; .b (zdy ?_) λr5 TV=>have hj:=CS r5.2;have ht:=zcs a0.T.Cap;have hn:wt (KE r5.2)=wt r5.2:=(by simp only[KE,jJ,NE,EA,List.length_nil];omega); .m (zaW ?_) (.g ?_ (.s ?_)))
  λk3 LV=> .b (LU ?_) λr4 WV=> .c (λ_=>LV _ nofun)
  λh3=>have i4:=WV (nf h3);LV _ λq5=>?_)
 all_goals (try simp only[NB]at *)<;>omega
def zoA{a0 a1}(ha:wt a0≤1000000000):Ok (Hn a0 a1) λr=>wt r.1≤wt a0+4000∧wt r.2.1≤4000:=by
 unfold Hn;refine have hw:=tB a0.T.L;
 .cp ?_ (.b (LU ?_) λr2 dW=> .c (λh1=> .s ?_)
  λh1=>have i2:=dW (nf h1); .j (λy3:Bool=>y3=false→0≤a1∧a1<(a0.T.L.length:Int)) (λy3 QY=> .c (λh3=> .s ?_)
  λh3=>have i4:=QY h3; .bi ?_ ?_ λe7 RZ sY=> .b (vR ?_) λr8 zW=> .h ?_ (.bg ?_ λe9 QZ HY=> .bi ?_ ?_ λe10 cY oX=> .b (zi5 ?_) λr11 AW=> .s (have:=BC a0.T.L a1.toNat r8;?_)))
  λk4 UV=> .c (λ_=>UV _ nofun)
  λh5=> .bi ?_ ?_ λe6 CY wX=>UV _ λq6=>?_)
 all_goals (try simp only[NB]at *)<;>(try simp(disch:=omega) only[AA,IA]at *)<;>omega
def zoX{a0 a1 a2 a3}(ha:wt a0≤1000000000)(hb:wt a3≤900000000):Ok (Hj a0 a1 a2 a3) λr=>wt r.1≤wt a0+50000∧r.2.1.length≤3∧wt r.2.1≤9100∧wt r.2.2≤20000:=by
 unfold Hj
 refine .cp ?_ (.j (λy2:Bool=>y2=false→SF a0) (λy2 wW=> .c (λh1=> .s ?_)
  λh1=>have i2:=wW h1; .b (zjt ?_) λr5 TV=> .b (zih ?_) λr6 xW=> .c (λh3=> .s ?_)
  λh3=> .j (λy7:(List Av)×(List Ae)×Ac×Ac=>y7.1.length≤3∧wt y7.1≤2000∧wt y7.2.1≤20000∧wt y7.2.2.1≤wt a0+50000) (λy7 DY=> .b (zqR ?_ ?_ ?_) λr65 hr65=> .s ?_)
  λk8 uW=> .c (λh4=> .jt (λy9=> .c (λh5=> .s ?_)
  λh5=> .b (zdy ?_) λr12 BW=>have hn:wt (KE r12.2)=wt r12.2:=(by simp only[KE,jJ,NE,EA,List.length_nil];omega); .g ?_ (.b (zjS ?_ ?_) λr13 iX=> .m (zaW ?_) (.b (zeP ?_ ?_) λr15 SW=> .b (zft ?_ ?_) λr16 fX=> .g ?_ (.g ?_ (uW _ ?_)))))
  λk10 SV=> .c (λ_=>SV _)
  λh6=> .b (ziV ?_) λr11 _=> .c (λ_=>SV _)
  λ_=>SV _)
  λh4=> .j (λy18:(List Av)×(List Ae)×Ac×Ac=>y18.1.length≤3∧wt y18.1≤2000∧wt y18.2.1≤20000∧wt y18.2.2.2≤wt a0+50000) (λy18 D0=>uW _ ?_)
  λk19 CW=> .c (λh8=> .j (λy20:Bool=>y20=false→1≤r6.1.Id∧r6.1.Id≤(a0.Psks.length:Int)) (λy20 JY=> .c (λh9=> .s ?_)
  λh9=>have i10:=JY h9; .b (zcL ?_) λr25 zX=> .j (λy26:(List Ae)×Int×Ac×Ac=>wt y26.1≤8000∧wt y26.2.2.2≤wt a0+10000∧0≤y26.2.1∧y26.2.1<(y26.2.2.2.T.L.length:Int)) (λy26 C1=> .h ?_ (.bg ?_ λe38 he38 he38w=> .jt (λy39=> .j (λy42:(List Av)×(List Ae)×Ac=>y42.1.length≤3∧wt y42.1≤1000∧wt y42.2.1≤15000∧wt y42.2.2≤wt a0+40000) (λy42 Z2=>CW _ ?_)
  λk43 fY=> .c (λLW=> .b (zp4 ?_) λr44 A5=> .h ?_ (.bg ?_ λe45 he45 he45w=> .g ?_ (.g ?_ (fY _ (have:=BC y26.2.2.2.T.L y26.2.1.toNat r44.1;?_)))))
  λLW=>fY _ ?_)
  λk40 E0=> .c (λZW=> .c (λrX=> .b (CV ?_) λr41 F1=>E0 _)
  λ_=>E0 _)
  λ_=>E0 _))
  λk27 WW=> .c (λLY=> .bi ?_ ?_ λe28 he28 B7=> .b (ziJ ?_) λr29 BZ=> .b (ze3 ?_ ?_) λr30 C0=>have hl:=tB r30.1.L; .c (λMY=> .s ?_)
  λMY=> .b (zeP ?_ ?_) λr31 t5=> .b (zbx ?_ ?_ ?_) λr32 hr32=> .g ?_ (.bi ?_ ?_ λe33 he33 he33w=> .b zeJ λr34 o5=> .b (zeH ?_ ?_ ?_) λr35 C7=> .b (zbx ?_ ?_ ?_) λr36 o3=> .g ?_ (.g ?_ (.g ?_ (.g ?_ (.g ?_ (WW _ ?_)))))))
  λLY=>WW _ ?_)
  λk21 oW=> .b (zrh ?_) λr22 jX=> .c (λ_=>oW _ nofun)
  λRY=> .c (λ_=>oW _ nofun)
  λDZ=> .bi ?_ ?_ λe23 D7 X3=> .b (zqp ?_) λr24 _=>oW _ λq18=>?_)
  λh8=> .j (λy46:(List Av)×(List Ae)×Ac×Ac=>y46.1.length≤3∧wt y46.1≤2000∧wt y46.2.1≤20000∧wt y46.2.2.2≤wt a0+50000) (λy46 hy46=>CW _ ?_)
  λk47 I1=> .c (λTZ=> .b (zcL ?_) λr48 hr48=> .j (λy49:Bool=>y49=false→0≤r48) (λy49 E7=> .c (λUZ=> .s ?_)
  λUZ=>have i21:=E7 UZ; .b (zdy ?_) λr52 hr52=> .b (ziV ?_) λr53 _=> .j (λy54:(List UInt8)=>y54.length≤32) (λy54 hy54=>have hn:wt (KE y54)=wt y54:=(by simp only[KE,jJ,NE,EA,List.length_nil];omega); .bi ?_ ?_ λe56 he56 F7=> .b (zpQ ?_ ?_ ?_) λr57 hr57=> .h ?_ (.bg ?_ λe58 he58 G7=> .g ?_ (.j (λy59:(List Ae)×Ac=>wt y59.1≤200∧wt y59.2≤wt a0+40000) (λy59 hy59=> .g ?_ (.j (λy62:(List Ae)=>wt y62≤20000) (λy62 hy62=>I1 _ ?_)
  λk63 H7=> .c (λC2=> .g ?_ (.g ?_ (.g ?_ (H7 _ ?_))))
  λC2=>H7 _ ?_))
  λk60 I7=> .c (λL0=> .m (zaW ?_) (.g ?_ (I7 _ (have:=BC a0.T.L r48.toNat r57.1;?_))))
  λL0=>I7 _ (have:=BC a0.T.L r48.toNat r57.1;?_))))
  λk55 J7=> .c (λD2=>J7 _ ?_)
  λD2=>J7 _ ?_)
  λk50 J1=> .c (λ_=>J1 _ nofun)
  λJ5=> .bi ?_ ?_ λe51 he51 he51w=>J1 _ λq26=>?_)
  λTZ=>I1 _ ?_)
  λk3 LV=> .b (LU ?_) λr4 WV=> .c (λ_=>LV _ nofun)
  λU5=>have i28:=WV (nf U5); .c (λ_=>LV _ nofun)
  λJ8=>LV _ λq30=>have f31:=EF (nf q30);?_)
 all_goals (try simp only[NB]at *)<;>(try simp(disch:=omega) only[AA,IA]at *)<;>omega
end Go.D
namespace Go.D
def zhV{α:Type}[Wt α](l:List α)(i:Nat):Nat:=match l[i]? with
 | some c=>wt c
 | none=>0
def rO{α:Type}[Wt α]{l:List α}{i:Nat}{x:α}(h:l[i]?=some x):zhV l i=wt x:=by unfold zhV;rw[h]
def mS{α:Type}[Wt α]{x y:α}:∀{l:List α} {i:Nat},l[i]?=some y→wt (l.set i x)+wt y=wt l+wt x
 | [],_,h=>by simp at h
 | z :: l,0,h=>by
  rw[List.getElem?_cons_zero]at h;cases h;rw[List.set_cons_zero,jD,jD];omega
 | z :: l,i+1,h=>by
  rw[List.getElem?_cons_succ]at h;have:=mS (x:=x) h;rw[List.set_cons_succ,jD,jD];omega
def zM{e:Ao}(h:sG e=true):1≤e.Kind∧e.Kind≤17∧0≤e.I∧0≤e.J∧0≤e.N∧e.B.length≤200∧e.Ops.length≤16:=by
 simp only[sG,Bool.and_eq_true,OB,decide_eq_true_eq]at h;omega
def zrA{c:Af}(h:lA c):Ok (Ir c) λr=>lA r.2:=by
 unfold Ir;exact(zgG h (by simp)).bind λq hq=> .some' hq.2
def zrj{s a b:List UInt8}{m:Int}(hs:1≤s.length∧s.length≤32)(ha:1≤a.length∧a.length≤32)(hb:1≤b.length∧b.length≤32)(hm:1≤m∧m≤6):LB (IC [a,b] s m)=true:=by
 have e0:eA (s.length:Int) 1 32=true:=bD.2 ⟨by omega,by omega⟩
 have hd:ZB ⟨s,0⟩=true:=by
  show(eA (s.length:Int) 1 32&&eA 0 0 10000)=true
  rw[e0];rfl
 have hr:MC ⟨s,0⟩=(⟨s,iA .i64 0 1⟩,zD s 0):=by
  rw[MC,hd];rfl
 have hl:(zD s 0).length=12:=by
  rw[zD,e0];show(List.take 12 _).length=12
  rw[List.length_take,JH (by omega) (by rw[vV];omega)];rfl
 have hj:PE (eG (zD s 0))=true:=by
  rw[eG,show oA (zD s 0)=true by rw[oA,hl];rfl];show(((yL (zD s 0) [106,97,114]).length:Int)==32)=true
  rw[zkr (by omega) (by decide)];rfl
 have ht:lE m=⟨m,[]⟩:=by rw[lE,bD.2 hm];rfl
 have hp:AC a=true∧AC b=true:=⟨bD.2 (by omega),bD.2 (by omega)⟩
 have hto:QC ⟨m,[]⟩=true:=by
  show(eA m 1 6&&true&&decide ((0:Int)≤m)&&true)=true
  rw[bD.2 hm,decide_eq_true (by omega)];rfl
 have h1:iA .i64 0 1=1:=rfl;show(eA 2 1 9&&PE (eG (MC ⟨s,0⟩).2)&&ZB (MC ⟨s,0⟩).1&&QC (lE m)&&true&&!(!AC a||(!AC b||false))&&!((lE m).L.any λe=>decide (e.Id>2)))=true
 rw[hr,ht,hto,hp.1,hp.2];simp only;rw[hj,h1];show(true&&true&&(eA (s.length:Int) 1 32&&eA 1 0 10000)&&true&&true&&true&&true)=true
 rw[e0];rfl
def zsb{s a b:List UInt8}{m:Int}(h:s.length=8∧a.length=6∧b.length=9)(hm:1≤m∧m≤3):Ok (zcJ s a b m) λr=>wt r≤4000∧TW r:=by
 have hL:=CB;have hw:=zjQ s a b m;rw[EA,EA,EA]at hw;refine kF (by rw[EA,EA,EA];omega) ⟨by omega,?_⟩;have hs:=zrj (s:=s) (a:=a) (b:=b) (m:=m) (by omega) (by omega) (by omega) (by omega);rw[fL,hs];obtain⟨_,ka,kb,_⟩:=zj6 hs;show[MB 1 a (vB 1),MB 2 b (vB 2)].length=2∧(MB 1 a (vB 1)).Id=1∧(MB 2 b (vB 2)).Id=2
 rw[ka,kb];exact⟨rfl,rfl,rfl⟩
def zwJ{b:List UInt8}{f n:Int}(h:b.length≤bA):Ok (GJ b f n) λr=>r.1.length≤b.length:=kF (by rw[EA];exact h) (by
 unfold cut;cases decide (f<0)||(decide (n<0)||(decide (f>(b.length:Int))||decide (n>(b.length:Int) - f)))
 ·rw[cond_false];simp only[List.length_take,List.length_drop];omega
 ·exact Nat.zero_le _)
def zrq(b:List UInt8)(f n:Int)(h:wt b≤bA)(hf:yE .i64 f)(hn:yE .i64 n):Pi b f n=some (cut b f n):=by
 have hl:b.length≤bA:=by rw[←EA];exact h
 have hL:=CB;have hf:=ES hf;have hn:=ES hn;simp only[Pi,aA,cut,List.nil_append]
 by_cases h2:n<0
 ·rw[decide_eq_true h2];cases decide (f<0)<;>rfl
 by_cases h1:f<0
 ·rw[decide_eq_false h2,decide_eq_true h1];rfl
 by_cases h3:n>(b.length:Int)
 ·have h4:(decide (f>(b.length:Int))||decide (n>(b.length:Int) - f))=true:=by simp;omega
  rw[decide_eq_false h2,decide_eq_false h1,decide_eq_true h3,h4];rfl
 have e:qA .i64 (b.length:Int) n=(b.length:Int) - n:=by rw[qA,UB (by omega) (by omega)]
 rw[e]
 by_cases h4:f>(b.length:Int) - n
 ·have h5:(decide (f>(b.length:Int))||decide (n>(b.length:Int) - f))=true:=by simp;omega
  rw[decide_eq_false h2,decide_eq_false h1,decide_eq_false h3,decide_eq_true h4,h5];rfl
 have e2:iA .i64 f n=f+n:=by rw[iA,UB (by omega) (by omega)]
 have e3:(decide (0≤f)&&decide (f≤f+n)&&decide (f+n≤(b.length:Int)))=true:=by simp;omega
 have h5:(decide (f>(b.length:Int))||decide (n>(b.length:Int) - f))=false:=by simp;omega
 rw[decide_eq_false h1,decide_eq_false h2,decide_eq_false h3,decide_eq_false h4,h5];simp only[cond_false,e2];rw[e3,show f+n - f=n by omega];have:((b.drop f.toNat).take n.toNat).length≤bA:=by rw[List.length_take,List.length_drop];omega
 rw[List.length_nil,Nat.zero_add,decide_eq_true this];rfl
def KS.ok{x}(hb:xA [.sl .byte, .v .int, .v .int] x){r}:GJ x.1 x.2.1 x.2.2=some r→Pi x.1 x.2.1 x.2.2=some r:=TA λh=>
 zrq x.1 x.2.1 x.2.2 h (mO hb.2.1 0 (by decide) rfl) (mO hb.2.2 0 (by decide) rfl)
end Go.D

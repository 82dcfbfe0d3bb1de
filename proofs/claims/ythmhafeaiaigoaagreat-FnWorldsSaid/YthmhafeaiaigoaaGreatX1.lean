/-
 Two partial results agree: where both have one, it is the same.
-/
import Derived.Test.YthmhafeaiaigoaaGreatE1
import Derived.Test.YthmhafeaiaigoaaGreatN8
import Derived.Test.YthmhafeaiaigoaaGreatN12
import Derived.Test.YthmhafeaiaigoaaGreatP2
import Derived.Test.YthmhafeaiaigoaaGreatN11
set_option linter.all false
namespace Go.D
open Option renaming bind→ob
def Ag{α:Type}(x y:Option α):Prop:=∀v w,x=some v→y=some w→v=w
class kN{α:Type}(x y:Option α):Prop where h:Ag x y
class MA{α:Type}(y:Option α)(x:outParam (Option α)):Prop where h:Ag x y
instance{α:Type}{x y:Option α}[MA y x]:kN x y:=⟨MA.h⟩
namespace Ag
variable {α β σ τ:Type} {x y:Option α} {c d:Bool}
def r0:Ag x x:=λ_ _ h k=>Option.some.inj (h.symm.trans k)
def nl:Ag none y:=λ_ _ h=>nomatch h
def nr:Ag x none:=λ_ _ _ h=>nomatch h
def s{a b:α}(h:a=b):Ag (some a) (some b):=λ_ _ k l=>(Option.some.inj k).symm.trans (h.trans (Option.some.inj l))
def sy(h:Ag x y):Ag y x:=λv w k l=>(h w v l k).symm
def b{f g:α→Option β}(h:Ag x y)(k:∀v,x=some v→y=some v→Ag (f v) (g v)):Ag (x.bind f) (y.bind g):=by
 cases x with
 | none=>exact nl
 | some v=>cases y with
  | none=>exact nr
  | some w=>cases h v w rfl rfl;exact k v rfl rfl
def bc[kN x y]{f g:α→Option β}(k:∀v,x=some v→y=some v→Ag (f v) (g v)):Ag (x.bind f) (y.bind g):=b kN.h k
def bl{f:α→Option β}{z:Option β}(k:∀v,x=some v→Ag (f v) z):Ag (x.bind f) z:=by
 cases x with
 | none=>exact nl
 | some v=>exact k v rfl
def br{f:α→Option β}{z:Option β}(k:∀v,x=some v→Ag z (f v)):Ag z (x.bind f):=sy (bl λv h=>sy (k v h))
def bd{f g:α→Option β}(i:kN x y)(k:∀v,x=some v→y=some v→Ag (f v) (g v)):Ag (x.bind f) (y.bind g):=b i.h k
def bT{f:α→Option β}{z:Option β}{v:α}(i:MA y x)(h:x=some v)(k:y=some v→Ag z (f v)):Ag z (y.bind f):=br λw hw=>by
 cases i.h v w h hw;exact k hw
def bR{f:α→Option β}{z:Option β}{v:α}(h:x=some v)(k:Ag z (f v)):Ag z (x.bind f):=by subst h;exact k
def cc{p q:Option α}(h:c=true→Ag x p)(k:c=false→Ag y q):Ag (cond c x y) (cond c p q):=by
 cases c
 ·exact k rfl
 ·exact h rfl
def ce{p q:Option α}(e:c=d)(h:c=true→Ag x p)(k:c=false→Ag y q):Ag (cond c x y) (cond d p q):=by subst e;exact cc h k
def cl{z:Option α}(h:c=true→Ag x z)(k:c=false→Ag y z):Ag (cond c x y) z:=by
 cases c
 ·exact k rfl
 ·exact h rfl
def cr{z:Option α}(h:c=true→Ag z x)(k:c=false→Ag z y):Ag z (cond c x y):=by
 cases c
 ·exact k rfl
 ·exact h rfl
def ct{z:Option α}(e:c=true)(h:Ag z x):Ag z (cond c x y):=by subst e;exact h
def cf{z:Option α}(e:c=false)(h:Ag z y):Ag z (cond c x y):=by subst e;exact h
def gl{z:Option α}(h:c=true→Ag x z):Ag (cond c x none) z:=cl h λ_=>nl
def gr{z:Option α}(h:c=true→Ag z x):Ag z (cond c x none):=cr h λ_=>nr
def jj{h h':σ→Option α}{f f':(σ→Option α)→Option α}(a:∀y,Ag (h y) (h' y))(e:∀k k',(∀y,Ag (k y) (k' y))→Ag (f k) (f' k')):Ag (aA h f) (aA h' f'):=e _ _ a
def hj{ρ:Type}(P:(σ→Option ρ)→(τ→Option ρ)→Prop){c:Bool}{t:σ→Option ρ}{t':τ→Option ρ}{b:(σ→Option ρ)→Option ρ}{b':(τ→Option ρ)→Option ρ}{e:Option ρ}(h0:P t t')(h:∀k k',P k k'→Ag (b k) (cond c e (b' k'))):Ag (aA t b) (cond c e (aA t' b')):=h _ _ h0
def jl{z:Option α}{h:σ→Option α}{f:(σ→Option α)→Option α}(a:Ag (f h) z):Ag (aA h f) z:=a
def jr{z:Option α}{h:σ→Option α}{f:(σ→Option α)→Option α}(a:Ag z (f h)):Ag z (aA h f):=a
def ll{f f':σ→(σ→Option α)→Option α}{x0:σ}(e:∀x k k',(∀y,Ag (k y) (k' y))→Ag (f x k) (f' x k')):∀n,Ag (sA n f x0) (sA n f' x0):=by
 intro n;induction n generalizing x0 with
 | zero=>exact nl
 | succ n ih=>exact e _ _ _ λ_=>ih
def lI(I:σ→Prop){f:σ→(σ→Option α)→Option α}{z:Option α}{x0:σ}(h0:I x0)(e:∀x k,I x→(∀y,I y→Ag z (k y))→Ag z (f x k)):∀n,Ag z (sA n f x0):=by
 intro n;induction n generalizing x0 with
 | zero=>exact nr
 | succ n ih=>exact e _ _ h0 λ_ h=>ih h
def lJ(I:σ→Prop){f:σ→(σ→Option α)→Option α}{z:Option α}{x0:σ}(h0:I x0)(e:∀x k,I x→(∀y,I y→Ag (k y) z)→Ag (f x k) z)(n:Nat):Ag (sA n f x0) z:=
 sy (lI I h0 (λx k h l=>sy (e x k h λy hy=>sy (l y hy))) n)
end Ag
instance(priority:=low){α:Type}{x:Option α}:kN x x:=⟨.r0⟩
def zgI{a b:List UInt8}:lD [a,b]=pt (wt [a,b]≤bA) (a++b):=by unfold lD;simp
def zab{a b c d:List UInt8}:lD [a,b,c,d]=pt (wt [a,b,c,d]≤bA) (a++b++c++d):=by unfold lD;simp
def cT{a b c d e:List UInt8}:lD [a,b,c,d,e]=pt (wt [a,b,c,d,e]≤bA) (a++b++c++d++e):=by unfold lD;simp
def zgz{a b c d e f:List UInt8}:lD [a,b,c,d,e,f]=pt (wt [a,b,c,d,e,f]≤bA) (a++b++c++d++e++f):=by unfold lD;simp
def bn{α β:Type}{f:α→Option β}:ob none f=none:=rfl
def bs{α β:Type}{v:α}{f:α→Option β}:ob (some v) f=f v:=rfl
def ba{α β γ:Type}{x:Option α}{f:α→Option β}{g:β→Option γ}:ob (ob x f) g=ob x λv=>ob (f v) g:=by cases x<;>rfl
def bc{α β:Type}{c:Bool}{x y:Option α}{f:α→Option β}:ob (cond c x y) f=cond c (ob x f) (ob y f):=by cases c<;>rfl
def Ag.pl{α β:Type}{p:Prop}{v:α}{f:α→Option β}{z:Option β}(k:p→Ag (f v) z):Ag (ob (pt p v) f) z:=by
 unfold pt
 by_cases h:p
 ·rw[if_pos h];exact k h
 ·rw[if_neg h];exact .nl
def Ag.pr{α β:Type}{p:Prop}{v:α}{f:α→Option β}{z:Option β}(k:p→Ag z (f v)):Ag z (ob (pt p v) f):= .sy (.pl λh=> .sy (k h))
def Ag.jbl{α β σ:Type}{z:Option β}{h:σ→Option α}{f:(σ→Option α)→Option α}{g:α→Option β}(a:Ag (ob (f h) g) z):Ag (ob (aA h f) g) z:=a
def Ag.jbr{α β σ:Type}{z:Option β}{h:σ→Option α}{f:(σ→Option α)→Option α}{g:α→Option β}(a:Ag z (ob (f h) g)):Ag z (ob (aA h f) g):=a
def Ag.kk{α β:Type}{k k':α→Option β}{a b:α}(h:∀y,Ag (k y) (k' y))(e:a=b):Ag (k a) (k' b):=e▸h a
def bx0{α:Type}{x:Option α}:ob x (λv=>some v)=x:=by cases x<;>rfl
def bx{α σ:Type}{h:σ→Option α}{f:(σ→Option α)→Option α}:ob (aA h f) (λv=>some v)=aA h f:=bx0
instance{α:Type}{l:List α}{i:Int}:kN (l[i.toNat]?) (kA l i):=⟨by
 unfold kA;split
 ·exact Ag.r0
 ·exact Ag.nr⟩
instance{α:Type}{l:List α}{i:Int}:kN (kA l i) (l[i.toNat]?):=⟨.sy kN.h⟩
def Ag.bI{α β:Type}{l:List α}{i:Int}{v:α}{f:α→Option β}{z:Option β}(h:kA l i=some v)(k:Ag z (f v)):Ag z (ob (l[i.toNat]?) f):=by
 unfold kA at h;split at h
 ·rw[h];exact k
 ·cases h
def Ag.bJ{α β:Type}{l:List α}{i:Int}{v:α}{f:α→Option β}{z:Option β}(h:l[i.toNat]?=some v)(k:Ag z (f v)):Ag z (ob (kA l i) f):=by
 unfold kA;split
 ·rw[h];exact k
 ·exact .nr
def Ag.jBl{α:Type}{z:Option α}{h:Bool→Option α}{f:(Bool→Option α)→Option α}(a:Ag (f h) z):Ag (aA h f) z:=a
def Ag.jBr{α:Type}{z:Option α}{h:Bool→Option α}{f:(Bool→Option α)→Option α}(a:Ag z (f h)):Ag z (aA h f):=a
def Pc{α:Type}(x:Option α)(Q:α→Prop):Prop:=∀r,x=some r→Q r
namespace Pc
variable {α β σ:Type} {x y:Option α} {d:Bool} {Q:α→Prop}
def n:Pc (none:Option α) Q:=λ_ h=>nomatch h
def s{v:α}(h:Q v):Pc (some v) Q:=λ_ k=>Option.some.inj k▸h
def b{f:α→Option β}{P:β→Prop}(k:∀v,x=some v→Pc (f v) P):Pc (x.bind f) P:=by
 cases x with
 | none=>exact n
 | some v=>exact k v rfl
def p{q:Prop}{v:α}{f:α→Option β}{P:β→Prop}(k:q→Pc (f v) P):Pc (ob (pt q v) f) P:=by
 unfold pt
 by_cases h:q
 ·rw[if_pos h];exact k h
 ·rw[if_neg h];exact n
def g(h:d=true→Pc x Q):Pc (cond d x none) Q:=by
 cases d
 ·exact n
 ·exact h rfl
def c(h:d=true→Pc x Q)(k:d=false→Pc y Q):Pc (cond d x y) Q:=by
 cases d
 ·exact k rfl
 ·exact h rfl
def j{h:σ→Option α}{f:(σ→Option α)→Option α}(a:Pc (f h) Q):Pc (aA h f) Q:=a
def l(I:σ→Prop){f:σ→(σ→Option α)→Option α}{x0:σ}(h0:I x0)(e:∀x k,I x→(∀y,I y→Pc (k y) Q)→Pc (f x k) Q):∀n,Pc (sA n f x0) Q:=by
 intro n;induction n generalizing x0 with
 | zero=>exact Pc.n
 | succ n ih=>exact e _ _ h0 λ_ h=>ih h
def of{r:α}(h:Pc x Q)(k:x=some r):Q r:=h r k
end Pc
def nB:=@Ag.pl
def lC:=@Ag.pr
def AD:=@Ag.gl
def RB:=@Ag.gr
def gB:=@Ag.cc
def DL:=@Ag.ll
def OC:=@Ag.jj
def zhf:=@Ag.jl
def WM:=@Ag.jbl
def zw2:=@Ag.jbr
def qD:=@Ag.bl
def oC:=@Ag.cl
def QG:=@Ag.jr
def FE:=@Ag.br
def fG:=@Ag.cr
def eF:=@Ag.jBl
def iF:=@Ag.jBr
def iG:=@Pc.p
def lH:=@Pc.j
def zaB:=@Pc.g
def YF:=@Pc.c
def CI:=@Pc.b
end Go.D
namespace Go.D
structure DK(a0:Aa)(l:List Am)(w:Aa):Prop where
 ok:iB w=true
 notes:∃m,w.Notes=a0.Notes++m
 seen:w.Seen=a0.Seen
 sz:wt w≤wt a0+120000
 wl:wt l≤1000
 wires:∀x∈l,CE x=true
def evp{a0 w:Aa}{l:List Am}{m:List Ae}(h:iB w=true)(e:w.Notes=a0.Notes++m)(hm:m.length≤10)(hs:w.Seen=a0.Seen)(hl:wt l≤1000)(hw:∀x∈l,CE x=true):DK a0 l w:=by
 refine⟨h,⟨m,e⟩,hs,?_,hl,hw⟩;have h1:=zaw h;have h2:=BE (wE.1 (e▸(qC.1 h).notes)).2;have h3:wt a0.Notes≤wt a0:=by simp only[aG];omega
 have h4:wt w.Notes=wt a0.Notes+wt m:=by rw[e];simp only[N]
 omega
def zxm{w:Aa}{d:Au}{ns:List Ae}(h:iB w=true)(h1:ZB d=true)(h4:dC ns):iB ⟨w.Now,w.Clients,w.S,d,w.Seen,w.Known,w.Notes++ns⟩=true:=by
 have p:=qC.1 h;exact qC.2 ⟨p.now,p.cl,p.srv,p.psl,h1,p.seen,p.kl,p.ci,p.kn,wE.2 ⟨p.notes,h4⟩⟩
def zmO{a:Int}(h:0≤a):0≤zA .i64 a 2∧zA .i64 a 2<2:=MH h (by omega)
def zov{a0 a1}(ha:iB a0=true)(hn:wt a0≤400000000)(he:sG a1=true):Ok (Ks a0 a1) λr=>DK a0 r.2.1 r.1:=by
 unfold Ks;have hL:=CB;have he:=zM he;have hd:=zmO he.2.2.1;have W:=qC.1 ha;have hc:=W.cl;have hN:wt a0.Notes≤wt a0:=by simp only[aG];omega
 refine .h (by simp only[B];omega) (.bg (by omega) λe1 PY s7=>?_);have hk:=(W.ci _ _ PY).1;let Q:List Ab→List Ae→Aa→Ad→Prop:=λf n w c=>f.length≤1∧wt f≤400∧dC n∧n.length≤4∧iB w=true∧w.Clients=a0.Clients∧w.Seen=a0.Seen∧(∃m,w.Notes=a0.Notes++m∧m.length≤1)∧pB c=true∧c.Id=e1.Id∧c.Psk=e1.Psk;have q0:∃m,a0.Notes=a0.Notes++m∧m.length≤1:=⟨[],(List.append_nil _).symm,by decide⟩
 refine .j (λy2:(List Ab)×(List Ae)×Int×Aa×Ad=>Q y2.1 y2.2.1 y2.2.2.2.1 y2.2.2.2.2) (λy2 wW=>?_) λk3 LV=> .c (λh1=>?_) λh1=> .j (λy7:(List Ab)×(List Ae)×Int×Ad=>Q y7.1 y7.2.1 a0 y7.2.2.2) (λy7 DY=>LV _ DY)
  λk8 uW=> .c (λh2=> .b (zeG hk (by omega)) λr9 ⟨p1,p2,p3,p4,p5⟩=>uW _ ⟨p5.1,p5.2,p3,p4,ha,rfl,rfl,q0,p1,p2.1,p2.2.1⟩)
  λh2=> .j (λy7:(List Ab)×(List Ae)×Int×Ad=>Q y7.1 y7.2.1 a0 y7.2.2.2) (λy10 VW=>uW _ VW)
  λk11 QV=> .c (λh3=> .b (zeE hk) λr12 ⟨p1,p2,p3,p4,p5⟩=>QV _ ⟨p5.1,p5.2,p3,p4,ha,rfl,rfl,q0,p1,p2.1,p2.2.1⟩)
  λh3=> .j (λy13:(List Ae)×Int×Ad=>Q [] y13.1 a0 y13.2.2) (λy13 kX=>QV _ kX)
  λk14 RV=> .c (λh4=> .b (zr8 hk) λr16 fX=>RV _ ⟨Nat.zero_le _,Nat.zero_le _,CC,Nat.zero_le _,ha,rfl,rfl,q0,fX.1,fX.2⟩)
  λh4=> .j (λy13:(List Ae)×Int×Ad=>Q [] y13.1 a0 y13.2.2) (λy17 iZ=>RV _ iZ)
  λk18 IW=> .c (λh5=> .jt (λy19=> .b (zfo hk) λr21 ⟨p1,p2,p3,p4⟩=>IW _ ⟨Nat.zero_le _,Nat.zero_le _,p3,(by show r21.2.length≤4;omega),ha,rfl,rfl,q0,p1,p2.1,p2.2.1⟩)
  λk20 iY=> .c (λ_=>iY _)
  λ_=>iY _)
  λh5=>IW _ ⟨Nat.zero_le _,Nat.zero_le _,CC,Nat.zero_le _,ha,rfl,rfl,q0,hk,rfl,rfl⟩
 ·obtain⟨p1,p2,p3,p4,p5,p6,p7,⟨m,p8,p8'⟩,p9,p10,p11⟩:=wW;have hnw:=BE p3;have hw5:=(BE (wE.1 (p8▸(qC.1 p5).notes)).2);have h5:wt y2.2.2.2.1.Notes=wt a0.Notes+wt m:=by rw[p8];simp only[N]
  have v9:=VD p9;refine .h (by simp only[B,p6];omega) (.bg (by rw[p6];omega) λe22 CZ R1=> .g (by omega) (.b (zaK (by have:=v9.1;omega) (by omega)) λr24 yX=> .s ?_));rw[p6]at CZ;cases PY.symm.trans CZ;refine evp (m:=m++y2.2.1) (zfV p5 (by rw[p6];exact PY) p9 p10 p11 p3) (by show y2.2.2.2.1.Notes++y2.2.1=_;rw[p8,List.append_assoc]) (by rw[List.length_append];omega) p7 (by have:=yX.1;show wt r24≤1000;omega) λx hx=>((yX.2 (zd9 p9)).1 x hx).1
 ·have hr:=mJ a0.D;have hds:=W.dice;have hw:=zcM (MC a0.D).2;have ho:=@zb6 (MC a0.D).2 (by omega);have hD:wt a0.D≤wt a0:=by simp only[aG];omega
  have h6:wt [KE (MC a0.D).2]≤200:=by simp only[N]at hw⊢;omega
  refine .m (pA (by omega)) (.m (pA (by simp only[N];omega)) (.g (by omega) (.b (zfs hk (by omega)) λr6 ⟨p1,p2,p3,p4,p5⟩=>LV _ ⟨p5.1,p5.2,p3,p4,zxm ha (hr.2.2.1 hds) (sD.2 ⟨ho,CC⟩),rfl,rfl,⟨[_],rfl,Nat.le_refl _⟩,p1,p2.1,p2.2.1⟩)))
def zou{a0 a1}(ha:iB a0=true)(hn:wt a0≤400000000)(he:sG a1=true):Ok (Le a0 a1) λr=>DK a0 r.2.1 r.1:=by
 unfold Le;have hL:=CB;have he:=zM he;have W:=qC.1 ha;have hN:wt a0.Notes≤wt a0:=by simp only[aG];omega
 have hB:wt a1.B≤300000:=by simp only[N];omega
 let Q:List Ae→Aa→Prop:=λn w=>dC n∧n.length≤4∧∃s,w=⟨a0.Now,a0.Clients,s,a0.D,a0.Seen,a0.Known,a0.Notes⟩∧LB s=true∧s.Psks=a0.S.Psks
 refine .j (λy1:(List Av)×(List Ae)×Bool×Aa=>HE y1.1∧(y1.1.length≤1∧wt y1.1≤400)∧Q y1.2.1 y1.2.2.2) (λy1 qW=>?_)
  λk2 KV=> .c (λh1=> .b (zh8 W.srv hB) λr3 ⟨p1,p2,p3,p4,p5,p6⟩=>KV _ ⟨p3,p4,p5,Nat.le_trans p6 (by decide),_,rfl,p1,p2⟩)
  λh1=> .j (λy4:(List Ae)×Bool×Aa=>Q y4.1 y4.2.2) (λy4 rY=>KV _ ⟨fH,⟨Nat.zero_le _,Nat.zero_le _⟩,rY⟩)
  λk5 iW=> .c (λh2=> .b (zr3 W.srv) λr6 ⟨p1,p2,p3,p4⟩=>iW _ ⟨p3,Nat.le_trans p4 (by decide),_,rfl,p1,p2⟩)
  λh2=> .j (λy4:(List Ae)×Bool×Aa=>Q y4.1 y4.2.2) (λy7 DY=>iW _ DY)
  λk8 uW=> .c (λh3=> .b (zoG W.srv) λr9 ⟨p1,p2,p3,p4⟩=>uW _ ⟨p3,Nat.le_trans p4 (by decide),_,rfl,p1,p2⟩)
  λh3=>uW _ ⟨CC,Nat.zero_le _,_,rfl,W.srv,rfl⟩
 obtain⟨q1,q2,q3,q4,s,q5,q6,q7⟩:=qW;have hnw:=BE q3;have h5:wt y1.2.2.2.Notes=wt a0.Notes:=by rw[q5]
 refine .g (by omega) (.b (zeX (by omega) q1) λr10 sW=> .s ?_);rw[q5];show DK a0 r10 ⟨a0.Now,a0.Clients,s,a0.D,a0.Seen,a0.Known,a0.Notes++y1.2.1⟩
 exact evp (m:=y1.2.1) (zfS ha q6 q7 q3) rfl (by omega) rfl (by have:=sW.1;omega) λx hx=>(sW.2 x hx).1
def zpp{a0 a1}(ha:iB a0=true)(hn:wt a0≤400000000)(he:sG a1=true):Ok (Lf a0 a1) λr=>r.2=true→DK a0 [] r.1:=by
 unfold Lf;have hL:=CB;have he:=zM he;have hd:=zmO he.2.2.1;have W:=qC.1 ha;have hc:=W.cl;have F:=BM ha;simp only[ZO]at F;have hN:wt a0.Notes≤wt a0:=by simp only[aG];omega
 refine .j (λy1:Aa×Ak=>kC y1.2=true) (λy1 qW=>have qW:=VC qW; .b (zqU (by omega)) λr8 zW=> .g (by omega) (.m (pA (by simp only[N]at qW⊢;omega)) (.g (by simp only[N]at qW⊢;omega) (.s λhk=>?_))))
  λk2 KV=> .c (λh1=> .h (by simp only[B];omega) (.bg (by omega) λe3 d5 Y2=> .c (λh2=> .s nofun)
  λh2=>KV _ (zmP (sI ha (List.mem_of_getElem? d5)) (.inr (by simpa using h2))).1))
  λh1=> .j (λy4:Bool=>y4=false→(0≤a1.I∧a1.I<(a0.S.T.L.length:Int))∧∀e,a0.S.T.L[a1.I.toNat]?=some e→e.Dead=false) (λy4 rY=> .c (λh3=> .s nofun)
  λh3=>have i4:=rY h3; .h (by simp only[B];omega) (.bg (by omega) λe7 RZ sY=>KV _ (have hs:=(aF.1 (YE.1 W.srv).tab).el _ (List.mem_of_getElem? RZ);have hd:=i4.2 _ RZ;by show kC e7.C=true;grind [vC])))
  λk5 iW=> .c (λ_=>iW _ nofun)
  λh5=> .h (by simp only[B]at h5⊢;omega) (.bg (by simp only[B]at h5;omega) λe6 CY wX=>iW _ λq6=>⟨by simp only[B]at h5;omega,λe he=>by cases CY.symm.trans he;exact q6⟩)
 simp only[B,List.length_append]at hk;refine evp (m:=[_]) (zvp ha zW.2 (by omega) (sD.2 ⟨?_,CC⟩)) rfl (by simp) rfl (Nat.zero_le _) λx hx=>nomatch hx
 grind [jC,UC,SD,eA,GA]
def ztp{a0:Aa}{a1:Int}{a2:Ah}{a3:List UInt8}:Pc (Bn a0 a1 a2 a3) λr=>r.1.Seen=a0.Seen:=by
 unfold Bn
 ((try simp only[nA,AE]);repeat' (first | (with_reducible first | intro _ | apply iG | apply lH | apply zaB | apply YF | apply CI) | (refine .s ?_;trivial)))
def zgD{a0:Aa}{a1:Int}{a2:Ah}{a3:List UInt8}(ha:iB a0=true)(hn:wt a0≤400000000)(h0:0≤a1)(h2:a1≤2)(hb:wt a3≤900000000):Ok (Bn a0 a1 a2 a3) λr=>DK a0 r.2 r.1:=by
 obtain⟨r,h,p1,p2,p3,p4,p5,p6,_,_⟩:=@zjM a0 a1 a2 a3 (by omega) hb;refine⟨r,h,p1 ha,p2,ztp r h,by omega,p4,λx hx=>?_⟩
 by_cases e:a1=0
 ·exact(p5 ha e x hx).1
 ·have hc:=(qC.1 ha).cl;have e1:qA .i64 a1 1=a1 - 1:=IA (by omega) (by omega);exact((p6 ha _ e (List.getElem?_eq_getElem (by rw[e1];omega))).1 x hx).1
def zoH{a0 a1}(ha:iB a0=true)(hn:wt a0≤400000000)(he:sG a1=true)(hw:wt a1≤300000):Ok (Lb a0 a1) λr=>r.2.2=true→DK a0 r.2.1 r.1:=by
 unfold Lb;have hL:=CB;have he:=zM he;have W:=qC.1 ha;have F:=BM ha;have hF:=F;simp only[ZO]at F;have hl:=W.cl;have hsn:=tB a0.Seen;have hj:0≤zA .i64 a1.J 3∧zA .i64 a1.J 3<3:=MH (by omega) (by omega);have hO:wt a1.Ops≤300000:=by simp only[N]at hw⊢;omega
 refine .c (λh1=> .b (zfk hO (by omega) (by omega)) λr1 PV=> .b (zgD ha hn hj.1 (by omega) (by simp only[N];omega)) λr3 pW=> .s λ_=>pW)
  λh1=> .c (λh2=> .s nofun)
  λh2=>?_
 have hs:0<(a0.Seen.length:Int):=by simp only[B]at h2;omega
 have hd3:=MH (a:=a1.I) (n:=(a0.Seen.length:Int)) (by omega) hs;refine .n h2 (.bi hd3.1 hd3.2 λe4 yZ YY=> .b (zcm (by omega) hF.2.2.2.2.2.1) λr5 TV=>?_);have hb:e4.B.length≤20000:=by simp only[N]at YY F;omega
 refine .m (pA (by simp only[N];omega)) (.j (λy7:Int×Ah×Aa×(List UInt8)=>y7.2.2.2.length≤500000∧y7.1≤2) (λy7 DY=> .c (λh3=> .s nofun)
  λh3=> .b (zgD ha hn (by simp only[B]at h3;omega) DY.2 (by have:=DY.1;simp only[N];omega)) λr18 bY=> .s λ_=>bY)
  λk8 uW=> .c (λh4=>uW _ ⟨by show e4.B.length≤_;omega,by show(0:Int)≤2;omega⟩)
  λh4=> .j (λy10:Int×Aa×(List UInt8)=>y10.2.2.length≤500000∧y10.1≤2) (λy10 VW=>uW _ VW)
  λk11 QV=> .c (λh5=>QV _ ⟨by show e4.B.length≤_;omega,by show zA .i64 a1.J 3≤2;omega⟩)
  λh5=> .j (λy12:Aa×(List UInt8)=>y12.2.length≤500000) (λy12 ZX=>QV _ ⟨ZX,TV.2⟩)
  λk13 aW=> .c (λh6=> .c (λh7=> .s nofun) λh7=>?_)
  λh6=>aW _ (by show e4.B.length≤_;omega))
 have hd4:=MH (a:=a1.N) (n:=(e4.B.length:Int)) (by omega) (by simp only[B]at h7;omega);refine .n h7 (.h (by simp only[B];omega) (.bg (by omega) λe14 A0 XY=> .h (by simp only[B];omega) (.bg (by omega) λe16 xZ SZ=>aW _ (by show(List.set e4.B _ _).length≤_;rw[List.length_set];omega))))
def zq7{a0 a1}(ha:iB a0=true)(hw:wt a0≤500000000)(hb:wt a1≤1000):Ok (Bo a0 a1) λr=>iB r=true∧∃m,r=⟨a0.Now,a0.Clients,a0.S,a0.D,a0.Seen++m,a0.Known,a0.Notes⟩:=by
 unfold Bo;have hL:=CB;have hw1:=tB a1;let Q:Aa→Prop:=λr=>iB r=true∧∃m,r=⟨a0.Now,a0.Clients,a0.S,a0.D,a0.Seen++m,a0.Known,a0.Notes⟩
 refine .cp (by omega) (.j Q (λy2 wW=> .s wW)
  λk3 LV=> .l (λx4:Int×Aa=>(0≤x4.1∧x4.1≤(a1.length:Int))∧Q x4.2) (λx4:Int×Aa=>((a1.length:Int) - x4.1).toNat) (λx4 ⟨hx,nZ,m,BY⟩ k5 iW=> .c (λh1=> .bi hx.1 (by simpa using h1) λe6 CY wX=> .b (zsE (by have:=(zcH (qC.1 nZ).seen).1;omega) (by omega)) λr7 MW=>?_)
  λh1=>LV _ ⟨nZ,m,BY⟩) ⟨⟨by show(0:Int)≤0;omega,by show(0:Int)≤_;omega⟩,ha,[],by simp⟩ (by simp only;omega))
 have h1:x4.1<(a1.length:Int):=by simpa using h1
 have e1:iA .i64 x4.1 1=x4.1+1:=AA (by omega) (by omega);refine iW _ ⟨⟨by simp only[e1];omega,by simp only[e1];omega⟩,?_⟩ (by simp only[e1];omega)
 rcases MW with h | ⟨h,h'⟩
 ·rw[h];exact⟨nZ,m,BY⟩
 ·exact⟨zv0 nZ h',m++[e6],by rw[h,BY,List.append_assoc]⟩
end Go.D
namespace Go.D
def zt2{a0:Aa}:Pc (Cc a0) λr=>r.1.Seen=a0.Seen:=by
 unfold Cc
 (try simp only[nA,AE])
 repeat' (first | (with_reducible first | exact Pc.n | refine Pc.p λ_=>?_ | refine Pc.j ?_ | refine Pc.g λ_=>?_ | refine Pc.c (λ_=>?_) λ_=>?_ | refine Pc.b λ_ _=>?_) | exact .s rfl | exact .s ‹_› | (refine Pc.l (λx=>x.2.2.Seen=a0.Seen) rfl (λx k hx hk=>?_) _) | exact hk _ hx | dsimp only)
def zur{w:Aa}{d:Au}(h:iB w=true)(h1:ZB d=true):iB ⟨w.Now,w.Clients,⟨w.S.Psks,w.S.J,d,w.S.T,w.S.Cr⟩,w.D,w.Seen,w.Known,w.Notes⟩=true:=by
 have p:=qC.1 h;have S:=YE.1 p.srv;exact qC.2 ⟨p.now,p.cl,xJ (d:=⟨w.S.Psks,w.S.J,d,w.S.T,w.S.Cr⟩) p.srv rfl S.jar h1 S.tab S.cr S.id,p.psl,p.dice,p.seen,p.kl,p.ci,p.kn,p.notes⟩
def zlG{a0:Aa}(ha:iB a0=true)(hn:wt a0≤400000000):Ok (Cc a0) λr=>DK a0 r.2 r.1:=by
 obtain⟨r,h,p1,p2,p3,p4,p5,_⟩:=@ziz a0 (by omega);exact⟨r,h,p1 ha,p2,zt2 r h,by omega,p4,λx hx=>(p5 ha x hx).1⟩
structure DoP(a0:Aa)(a1:Ao)(r:Aa×Bool):Prop where
 no:r.2=false→r.1=a0
 yes:r.2=true→iB a0=true∧a0.Notes.length≤500∧sG a1=true∧iB r.1=true∧(∃m,r.1.Notes=a0.Notes++m)∧(∃m,r.1.Seen=a0.Seen++m)
 sz:wt r.1≤wt a0+140000
def zmp{a0:Aa}{a1:Ao}:DoP a0 a1 (a0,false):=⟨λ_=>rfl,nofun,Nat.le_add_right _ _⟩
def zp0{a0 a1}(hn:wt a0≤4000000000)(hw:wt a1≤300000):Ok (Iq a0 a1) (DoP a0 a1):=by
 unfold Iq;have hL:=CB;let Q:List Am→Bool→Aa→Prop:=λl b w=>b=true→DK a0 l w;refine .j (λy1:Bool=>y1=false→iB a0=true∧sG a1=true∧a0.Notes.length≤500) (λy1 qW=> .c (λh1=> .cp (by omega) (.s zmp)) λh1=>?_) λk2 KV=> .m (pA (by omega)) (.c (λ_=>KV _ nofun) λh2=> .c (λ_=>KV _ nofun) λh3=>KV _ λh4=>⟨nf h2,nf h3,by simp only[B]at h4;omega⟩);obtain⟨ha,he,hN⟩:=qW h1;have F:=BM ha;have hn:wt a0≤300000000:=by have:=zaw ha;have:=BE (qC.1 ha).notes;omega
 simp only[ZO]at F
 refine .jt (λy5=> .j (λy13:(List Am)×Bool×Aa=>Q y13.1 y13.2.1 y13.2.2) (λy13 kX=> .c (λh3=> .cp (by omega) (.s zmp)) λh3=>?_)
  λk14 RV=> .c (λh4=> .cp (by omega) (.b (zov ha (by omega) he) λr16 fX=>RV _ λ_=>fX))
  λh4=> .jt (λy17=> .j (λy13:(List Am)×Bool×Aa=>Q y13.1 y13.2.1 y13.2.2) (λy25 A3=>RV _ A3)
  λk26 lY=> .c (λh5=> .b (zoH ha (by omega) he hw) λr27 xY=>lY _ xY)
  λh5=> .jt (λy28=> .j (λy13:(List Am)×Bool×Aa=>Q y13.1 y13.2.1 y13.2.2) (λy32 n5=>lY _ n5)
  λk33 eY=> .c (λh6=> .cp (by omega) (.b (zou ha (by omega) he) λr35 C7=>eY _ λ_=>C7))
  λh6=> .jt (λy36=> .j (λy13:(List Am)×Bool×Aa=>Q y13.1 y13.2.1 y13.2.2) (λy38 D5=>eY _ D5)
  λk39 eZ=> .c (λh7=> .cp (by omega) (.b (zpp ha (by omega) he) λr41 F1=>eZ _ F1))
  λh7=> .j (λy13:(List Am)×Bool×Aa=>Q y13.1 y13.2.1 y13.2.2) (λy42 Z2=>eZ _ Z2)
  λk43 fY=> .c (λh8=> .b (zlG ha (by omega)) λr44 A5=>fY _ λ_=>A5)
  λh8=> .j (λy45:Bool×Aa=>Q [] y45.1 y45.2) (λy45 hy45=>fY _ hy45)
  λk46 G8=> .c (λh9=> .cp (by omega) (.j (λy48:Aa=>DK a0 [] y48) (λy48 hy48=>G8 _ λ_=>hy48)
  λk49 P1=> .c (λvW=> .b (zjL (by simp only[N];omega)) λr50 hr50=>P1 _ ?_)
  λvW=> .b (zjL (by have:=F.2.1;simp only[N]at this⊢;omega)) λr51 t8=>P1 _ ?_))
  λh9=>G8 _ nofun)
  λk37 H8=> .c (λ_=>H8 _)
  λ_=>H8 _)
  λk29 jY=> .c (λ_=>jY _)
  λZW=> .jt (λy30=>jY _)
  λk31 fZ=> .c (λ_=>fZ _)
  λ_=>fZ _)
  λk18 IW=> .c (λ_=>IW _)
  λLY=> .jt (λy19=>IW _)
  λk20 iY=> .c (λ_=>iY _)
  λMY=> .jt (λy21=>iY _)
  λk22 XW=> .c (λ_=>XW _)
  λRY=> .jt (λy23=>XW _)
  λk24 cW=> .c (λ_=>cW _)
  λ_=>cW _)
  λk6 JW=> .c (λ_=>JW _)
  λS1=> .jt (λy7=>JW _)
  λk8 uW=> .c (λ_=>uW _)
  λTZ=> .jt (λy9=>uW _)
  λk10 SV=> .c (λ_=>SV _)
  λUZ=> .jt (λy11=>SV _)
  λk12 jW=> .c (λ_=>jW _)
  λ_=>jW _
 ·have E:=kX (nf h3);refine .b (zq7 E.ok (by have:=E.sz;omega) E.wl) λr53 ⟨q1,m,q2⟩=> .s ⟨nofun,λ_=>⟨ha,hN,he,q1,?_,?_⟩,?_⟩
  ·obtain⟨m2,hm⟩:=E.notes;exact⟨m2,by show r53.Notes=_;rw[q2];exact hm⟩
  ·exact⟨m,by show r53.Seen=_;rw[q2, ←E.seen]⟩
  ·have h5:=E.sz;have h6:=(zcH (qC.1 q1).seen).1;have h7:wt r53+wt y13.2.2.Seen=wt y13.2.2+wt r53.Seen:=by rw[q2];simp only[aG];omega
   show wt r53≤_
   omega
 ·exact evp (m:=[]) (zvI ha (hr50.1 (qC.1 ha).dice)) (List.append_nil _).symm (Nat.zero_le _) rfl (Nat.zero_le _) λx hx=>nomatch hx
 ·exact evp (m:=[]) (zur ha (t8.1 (YE.1 (qC.1 ha).srv).dice)) (List.append_nil _).symm (Nat.zero_le _) rfl (Nat.zero_le _) λx hx=>nomatch hx
end Go.D
namespace Go.D
theorem zh3{c:Ad}(h:pB c=true):MB c.Id c.Psk c.At=⟨c.Id,c.Psk,c.At,0,[],⟨0,0,[],[],0,[],[],0,0,[],[]⟩,⟨0,[],⟨0,[],0,⟨0,[]⟩⟩,⟨0,[],0,⟨0,[]⟩⟩,false,0,[]⟩,⟨false,0,0,0⟩,⟨false,0,0,0⟩,0⟩:=by
 unfold pB at h;simp only[Bool.and_eq_true]at h;unfold MB;rw[h.1.1.1,h.1.1.2,h.1.2];rfl
theorem zfK{a0 a1:List UInt8}{a2:Int}{r:List UInt8}(h:Fa a0 a1 a2=some r)(h0:¬a1.length>100)(h1:0≤a2)(h2:¬a2>200)(h3:¬a0.length>1048576):(r.length:Int)=a2:=by
 obtain⟨s,hs,_,hl⟩:=ziW (a0:=a0) (a1:=a1) (a2:=a2) (by rw[EA];omega);rw[h]at hs;cases hs;exact hl (by omega)
theorem zg8(k:IntKind)(a b:Int):xB k a b=xB k b a:=by unfold xB;rw[BitVec.xor_comm]
theorem zfA{a0:Int}{a1:List UInt8}{a2 a3:Int}{r:List UInt8}(h:Ce a0 a1 a2 a3=some r):(r.length=0↔¬(eA a0 0 1=true∧a1.length=12∧eA a2 0 4294967295=true∧eA a3 0 281474976710655=true)):=by
 revert h;refine(?_:Pc _ (λr:List UInt8=>(r.length=0↔¬(eA a0 0 1=true∧a1.length=12∧eA a2 0 4294967295=true∧eA a3 0 281474976710655=true)))) r
 unfold Ce;((try simp only[VB]);repeat' (first | (with_reducible first | intro _ | apply iG | apply lH | apply zaB | apply YF) | (refine .s ?_;first | trivial | grind [oA,PA,eA,OG])))
theorem zl9{a0:List UInt8}{a1:Int}{a2:List UInt8}{a3 a4 a5:Int}{a6:List UInt8}{r:Ab×Bool}(h:Dq a0 a1 a2 a3 a4 a5 a6=some r):(r.2=true↔a0.length=32∧PA a1=true∧fC a5=true∧a2.length=12∧eA a3 0 4294967295=true∧eA a4 0 281474976710655=true∧dG a5 (a6.length:Int)=true)∧(r.2=true→r.1.Sn=a2∧r.1.Epoch=a3∧r.1.Seq=a4):=by
 revert h;refine(?_:Pc _ (λr:Ab×Bool=>(r.2=true↔a0.length=32∧PA a1=true∧fC a5=true∧a2.length=12∧eA a3 0 4294967295=true∧eA a4 0 281474976710655=true∧dG a5 (a6.length:Int)=true)∧(r.2=true→r.1.Sn=a2∧r.1.Epoch=a3∧r.1.Seq=a4))) r
 unfold Dq;((try simp only[BA,TC]);repeat' (first | (with_reducible first | intro _ | apply iG | apply lH | apply YF | apply CI) | (refine .s ?_;first | trivial | grind [oA,PA,eA,AB])))
theorem zkJ{a0:Ax}{a1:Int}{a2:List UInt8}{a3:Int}{a4:List UInt8}{r:Ax×Ab×Int}(h:Er a0 a1 a2 a3 a4=some r):(r.2.2≠0→r.1=a0)∧(r.2.2=0→r.2.1.Sn=a2∧r.2.1.Epoch=a0.N∧r.2.1.Seq=a0.Seq):=by
 revert h;refine(?_:Pc _ (λr:Ax×Ab×Int=>(r.2.2≠0→r.1=a0)∧(r.2.2=0→r.2.1.Sn=a2∧r.2.1.Epoch=a0.N∧r.2.1.Seq=a0.Seq))) r
 unfold Er;((try simp only[nA]);repeat' (first | (with_reducible first | intro _ | apply iG | apply lH | apply YF | apply CI) | (refine .s ?_;first | trivial | grind [oA,PA,eA, →zl9,YC])))
theorem zfw{a0:Ak}{a1:Int}{a2:List UInt8}{r:Ak×Ab×Int}(h:Bs a0 a1 a2=some r):(r.2.2≠0→r.1=a0)∧(r.2.2=0→r.2.1.Sn=a0.Sn∧r.2.1.Epoch=a0.Cur.N∧r.2.1.Seq=a0.Cur.Seq):=by
 revert h;refine(?_:Pc _ (λr:Ak×Ab×Int=>(r.2.2≠0→r.1=a0)∧(r.2.2=0→r.2.1.Sn=a0.Sn∧r.2.1.Epoch=a0.Cur.N∧r.2.1.Seq=a0.Cur.Seq))) r
 unfold Bs;cases a0;((try simp only[nA,uC]);repeat' (first | (with_reducible first | intro _ | apply iG | apply YF | apply CI) | (refine .s ?_;grind [oA,PA,eA, →zkJ])))
theorem zlw(b:List UInt8)(n k:Int):CD b n k=b++CD [] n k:=by
 unfold CD;cases decide (k<1)||decide (k>6)<;>simp
def zgV{a b c d e f g:List UInt8}:lD [a,b,c,d,e,f,g]=pt (wt [a,b,c,d,e,f,g]≤bA) (a++b++c++d++e++f++g):=by unfold lD;simp
theorem zjp{a0:Aw}{a1:Int}{r:Aw×Int}(h:Dz a0 a1=some r):r.2=0→r.1=a0:=by
 revert h;refine(?_:Pc _ (λr:Aw×Int=>r.2=0→r.1=a0)) r
 unfold Dz;((try simp only);repeat' (first | (with_reducible first | intro _ | apply YF | apply CI) | (refine .s ?_;grind [oA,PA,eA])))
end Go.D
namespace Go.D
def zcA{a0 a1}:Ag (Cs a0 a1) (Br a0 a1):=by
 unfold Cs Br Hd;have h1:=@IA a0.Top 1024;have h2:=@AA (qA .i64 a0.Top 1024) 1;((try simp only[XF,bc,bs]);repeat' (first | (with_reducible first | intro _ | apply eF | apply iF | exact .r0 | apply nB | apply lC | apply gB) | (with_reducible refine Ag.cr (λ_=>?_) (λ_=>?_)<;>try (exfalso;grind (splits:=3) [oA,PA,eA,dD];done)) | with_reducible apply oC | (refine .s ?_;grind [oA,PA,eA,MB,tC,List.length_eq_zero_iff,dD])))
instance{a0:Aq}{a1:Int}:MA (Br a0 a1) (Cs a0 a1):=⟨zcA⟩
def zkz{a0:Aq}{a1:Int}{r:Bool}(h:Cs a0 a1=some r):r=true→dD a0=true:=by
 revert h;refine(?_:Pc _ (λr:Bool=>r=true→dD a0=true)) r
 unfold Cs;((try simp only[XF]);repeat' (first | (with_reducible first | intro _ | apply iG | apply lH | apply YF) | (refine .s ?_;first | trivial | grind [oA,PA,eA])))
def zso{a0:Aq}{a1:Int}{r2:Bool}(h:dD a0=true)(hr:Br a0 a1=some r2):Ok (Ck a0 a1) λr=>r.2=rK a0 a1∧(r.2=false→r.1=a0)∧(r.2=true→BL a0 a1.toNat r.1):=by
 have hL:=CB;have hw:=zcG.1 h;have hwt:wt a0=32:=by have:=hw.words.1;simp only[N];exact this
 unfold Ck;refine Ok.same (pA (p:=wt a0≤bA) (by omega)) ?_;refine Ok.same hr ?_
 have dW:r2=rK a0 a1:=by
  obtain⟨q,hq,e⟩:=ze7 (a1:=a1) h;rw[←e];exact(zcA q r2 hq hr).symm
 rw[←dW];refine Ok.cond' (λe=>Ok.some' ⟨(by simpa using e:r2=false).symm,λ_=>rfl,nofun⟩) (λh'=>?_);simp only[B]at h';have ht:=hw.top
 have hm:True∧0≤a1∧a1≤281474976710655:=by
  rw[dW]at h';simp only[rK,Bool.and_eq_true,OB]at h';exact⟨trivial,h'.1⟩
 rw[h'];clear dW hr;obtain⟨n,rfl⟩:=Int.eq_ofNat_of_zero_le hm.2.1;have e1:=nT (n:=(n:Int)) (by omega);have e2:=lT (n:=(n:Int) % 1024) (by omega) (by omega);have e3:=AO (a:=(n:Int) % 1024) (b:=32) (by omega);rw[e1,e2,e3];have q1:((n:Int) % 1024 / 32).toNat=n % 1024 / 32:=by omega
 have q2:(n:Int) % 1024 % 32=((n % 1024 % 32:Nat):Int):=by omega
 refine Ok.join (λy:Aq=>QF y.Bits∧y.Top=a0.Top∧∀i,cD y i=true↔cD a0 i=true∧¬VH (a0.Top+1) ((n:Int)+1) i) (λy hy=>?_) (λk hk=>?_)
 ·obtain⟨w1,w2,w3⟩:=hy;obtain⟨m,m1,m2⟩:=w1.get (j:=n % 1024 / 32) (by omega);have hl:=w1.1;refine Ok.chk ?_ ?_
  ·simp only[B];omega
  rw[q1,m2,Option.bind_some];refine Ok.chkn ?_ ?_
  ·simp only[B];omega
  refine Ok.chk ?_ ?_
  ·simp only[B];omega
  rw[Option.bind_some,q2,(zap m1 (by omega)).1];refine Ok.join (λz:Aq=>BL a0 n z) (λz hz=>Ok.some' ⟨rfl,nofun,λ_=>hz⟩) (λk' gX=>?_)
  have key:∀t:Int,t=BG a0.Top (n:Int)→BL a0 n ⟨t,y.Bits.set (n % 1024 / 32) ((m|||2^(n % 1024 % 32):Nat):Int)⟩:=λt ht=>
   ⟨ht,w1.set _ (zap m1 (by omega)).2,λi=>by rw[zlf (w:=y) (t:=t) w1 m1 m2,Bool.or_eq_true,w3,zdD]⟩
  refine Ok.cond' (λh3=>gX _ (key _ ?_)) (λh3=>gX _ (key _ ?_))
  ·simp only[B]at h3;unfold BG;rw[if_pos h3]
  ·simp only[B]at h3;unfold BG;rw[if_neg h3,w2]
 ·refine Ok.loop (λx:Int×Int×Aq=>(0≤x.2.1∧x.2.1≤281474976710656∧0≤x.1∧x.1≤1024∧a0.Top+1+x.1=x.2.1∧(x.1=0∨x.2.1≤(n:Int)+1))∧QF x.2.2.Bits∧x.2.2.Top=a0.Top∧∀i,cD x.2.2 i=true↔cD a0 i=true∧¬VH (a0.Top+1) x.2.1 i)
   (λx=>(1025 - x.1).toNat) (λx hx k' gX=>?_) ?_ ?_
  ·obtain⟨x0,x1,x2,x3⟩:=hx;obtain⟨p,hp⟩:=Int.eq_ofNat_of_zero_le x0.1;have f1:=nT x0.1;have f2:=lT (n:=x.2.1 % 1024) (by omega) (by omega);have f3:=AO (a:=x.2.1 % 1024) (b:=32) (by omega);rw[f1,f2,f3];have p1:(x.2.1 % 1024 / 32).toNat=p % 1024 / 32:=by omega
   have p2:x.2.1 % 1024 % 32=((p % 1024 % 32:Nat):Int):=by omega
   refine Ok.join (λy:Bool=>(y=true→x.1<1024∧x.2.1≤(n:Int))∧(y=false→1024≤x.1∨(n:Int)<x.2.1)) (λy hy=>?_) (λk2 KV=>?_)
   ·refine Ok.cond' (λh=>?_) (λh=>hk _ ⟨x1,x2,λi=>?_⟩)
    ·have hy:=hy.1 h;obtain⟨m,m1,m2⟩:=x1.get (j:=p % 1024 / 32) (by omega);have hl:=x1.1;refine Ok.chk ?_ ?_
     ·simp only[B];omega
     rw[p1,m2,Option.bind_some];refine Ok.chkn ?_ ?_
     ·simp only[B];omega
     refine Ok.chk ?_ ?_
     ·simp only[B];omega
     rw[Option.bind_some,p2];obtain⟨c,c1,c2,c3⟩:=zkA (k:=p % 1024 % 32) m1 (by omega);rw[c1];have g1:=AA (a:=x.1) (b:=1) (by omega) (by omega);have g2:=AA (a:=x.2.1) (b:=1) (by omega) (by omega);refine gX _ ?_ ?_
     ·refine⟨by simp only;omega,x1.set _ c2,x2,λi=>?_⟩;show cD ⟨x.2.2.Top,_⟩ i=true↔_∧¬VH _ (iA .i64 x.2.1 1) i
      rw[g2,zkE x1 m1 m2 c2 c3,Bool.and_eq_true,x3,zlB (by omega),Bool.not_eq_true', ←Bool.not_eq_true,zdD,hp,not_or,and_assoc,eq_comm (a:=(i:Int) % 1024)]
     ·simp only;omega
    ·rw[x3]
     rcases hy.2 h with h | h
     ·exact⟨λk=>absurd (zmb (by omega)) k.2,λk=>absurd (zmb (by omega)) k.2⟩
     ·rcases x0.2.2.2.2.2 with e | e
      ·exact and_congr_right λ_=>not_congr ⟨λc=>absurd c (qO (by omega)),λc=>absurd c (qO (by omega))⟩
      ·rw[show x.2.1=(n:Int)+1 by omega]
   ·refine Ok.cond' (λh=>KV _ ⟨λq=>?_,λq=>?_⟩) (λh=>KV _ ⟨λq=>(nomatch q),λ_=>?_⟩)
    ·simp only[B]at h q;omega
    ·simp only[B]at h q;omega
    ·simp only[B]at h;omega
  ·have g:=AA (a:=a0.Top) (b:=1) (by have:=hw.top;omega) (by have:=hw.top;omega);have ht:=hw.top;exact⟨⟨by simp only;omega,by simp only;omega,Int.le_refl _,by show(0:Int)≤1024;decide,by simp only;omega, .inl rfl⟩,hw.words,rfl,λi=>⟨λh=>⟨h,qO (by show iA .i64 a0.Top 1≤_;omega)⟩,λh=>h.1⟩⟩
  ·simp only;omega
def ztv{a0 a1}:Ag (Df a0 a1) (Ck a0 a1):=by
 cases h:dD a0
 ·unfold Df Ck;refine .pl λ_=> .pr λ_=> .bd inferInstance λv hv _=> .cc (λ_=> .r0) λe=>?_;have:=zkz hv (by simpa using e);rw[h]at this;cases this
 ·cases hk:Br a0 a1 with
  | none=>
   unfold Ck;refine .pr λ_=>?_;rw[hk];exact .nr
  | some m=>
   obtain⟨r,hr,r1,r2,r3⟩:=zso h hk;obtain⟨q,hq,q1,q2,q3,_⟩:=ze9 (a1:=a1) h;intro x y hx hy;cases hq.symm.trans hx;cases hr.symm.trans hy;obtain⟨u,b⟩:=r;obtain⟨v,c⟩:=q;have e:b=c:=r1.trans q1.symm;subst e;cases b
   ·rw[show u=a0 from r2 rfl,show v=a0 from q2 rfl]
   ·have:=(r3 rfl).same (q3 rfl);rw[show u=v from this]
theorem zsG{a0:Aq}{a1:Int}{r:Aq×Bool}{m:Bool}(h:Df a0 a1=some r)(k:Br a0 a1=some m):r.2=m:=by
 cases e:dD a0
 ·unfold Df at h
  revert h;refine(?_:Pc _ (λr:Aq×Bool=>r.2=m)) r
  refine .p λ_=> .b λv hv=> .c (λhn=> .s ?_) λhn=>?_
  ·rw[←zcA v m hv k];simpa using hn.symm
  ·have:=zkz hv (by simpa using hn);rw[e]at this;cases this
 ·obtain⟨q,hq,q1,_⟩:=ze9 (a1:=a1) e;obtain⟨p,hp,e2⟩:=ze7 (a1:=a1) e;rw[←zcA p m hp k,e2];cases hq.symm.trans h;exact q1
end Go.D
namespace Go.D
def zjP{a0 a1}:Ag (Dh a0 a1) (Bx a0 a1):=by
 unfold Dh Bx Du;((try simp only[nA,ba,bx,DH]);repeat' ((with_reducible first | intro _ | exact .r0 | apply nB | apply lC | refine .bd inferInstance ?_ | apply AD | apply RB | apply gB | apply DL | apply OC | (apply_assumption;done) | refine .bR ‹_› ?_)))
instance{a0:Aj}{a1:Int}:MA (Bx a0 a1) (Dh a0 a1):=⟨zjP⟩
def zwf{p:Aj}{n:Int}(h:sC p=true)(k:eA n 0 1000000=true):Ag (Du p n) (Bx p n):=λv w hv hw=>by
 refine zjP v w ?_ hw;unfold Dh aA;rw[h,k,hv];rfl
def zvx{α:Type}{p:Aj}{a:Ah}{z:Option α}{x y:Option α}{s0:Aj}{n:Nat}(hw:wt p≤bA)(h1:0≤DE p a→Ag z x)(h2:DE p a<0→Ag z y):Ag z (sA n (λ(x8:Int×Aj) k9=>
  cond (decide (x8.1<(p.Cands.length:Int)))
   (cond (decide (0≤x8.1)&&decide (x8.1<(p.Cands.length:Int))) (Option.bind (p.Cands[x8.1.toNat]?) fun e10=>
    cond (cond (e10.A.Host==a.Host) (cond (e10.A.Port==a.Port) (true) false) false) x (k9 ((iA .i64 x8.1 1),x8.2))) none)
   y) (0,s0)):=by
 rcases zbm p a with⟨e,h⟩ | ⟨i,c,e,hi,hs⟩
 ·refine Ag.lI (λ_=>True) trivial (λx k _ hk=> .cr (λ_=> .gr λ_=> .br λc hc=> .cr (λhx=>?_) λ_=>hk _ trivial) λ_=>h2 (by omega)) n;rw[VN,h c (List.mem_of_getElem? hc)]at hx;cases hx
 ·refine Ag.lI (λx:Int×Aj=>0≤x.1∧x.1≤i) ⟨Int.le_refl _,by simp only;omega⟩ (λx k hx hk=> .cr (λ_=> .gr λhg=> .br λd hd=> .cr (λ_=>h1 (by omega)) λT6=>hk _ ?_) λtW=>?_) n
  ·by_cases he:x.1=(i:Int)
   ·rw[he,Int.toNat_natCast,hi]at hd;cases hd;rw[VN,hs]at T6;cases T6
   ·simp only;have:=(List.getElem?_eq_some_iff.1 hi).1;have hL:=CB;have:=tB p.Cands;rw[eJ]at hw;rw[AA (by omega) (by omega)];omega
  ·have:=(List.getElem?_eq_some_iff.1 hi).1;simp only[B]at tW;omega
def zuD{a0 a1 a2 a3}:Ag (Gf a0 a1 a2 a3) (Ek a0 a1 a2 a3):=by
 unfold Gf Ek;cases h1:sC a0
 ·((try simp only[nA,BA,hJ,List.nil_append]);repeat' (first | (with_reducible first | intro _ | apply eF | apply iF | exact .r0 | apply nB | apply AD | apply gB) | (with_reducible refine Ag.cr (λ_=>?_) (λ_=>?_)<;>try (exfalso;grind (splits:=3) [oA,PA,eA];done)) | (with_reducible first | apply qD | apply oC | apply QG | apply FE) | (exfalso;grind [oA,PA,eA])))
 cases h2:eA a1 0 1000000
 ·((try simp only[nA,BA,hJ,List.nil_append]);repeat' (first | (with_reducible first | intro _ | apply eF | apply iF | exact .r0 | apply nB | apply AD | apply gB) | (with_reducible refine Ag.cr (λ_=>?_) (λ_=>?_)<;>try (exfalso;grind (splits:=3) [oA,PA,eA];done)) | (with_reducible first | apply qD | apply oC | apply QG | apply FE) | (exfalso;grind [oA,PA,eA])))
 haveI:MA (Bx a0 a1) (Du a0 a1):=⟨zwf h1 h2⟩
 ((try simp only[nA,BA,hJ,List.nil_append]);repeat' (first | (with_reducible first | intro _ | apply eF | apply iF | exact .r0 | apply nB | apply lC | refine .bd inferInstance ?_ | apply AD | apply gB) | (with_reducible refine Ag.cr (λ_=>?_) (λ_=>?_)<;>try (exfalso;grind (splits:=3) [oA,PA,eA];done)) | (with_reducible first | apply qD | apply oC | apply QG | apply FE) | (refine .s ?_;grind [oA,PA,eA,MB,tC,List.length_eq_zero_iff]) | (exfalso;grind [oA,PA,eA]) | dsimp only[cond_true,cond_false]))
 all_goals (refine zvx ‹_› (λ_=>?_) (λ_=>?_)<;>(repeat' (first | (with_reducible first | intro _ | exact .r0 | apply lC | apply RB | refine .ct ‹_› ?_ | refine .cf ‹_› ?_) | (with_reducible refine Ag.cr (λ_=>?_) (λ_=>?_)<;>try (exfalso;grind (splits:=3) [oA,PA,eA];done)) | (refine .s ?_;grind [oA,PA,eA,MB,tC,List.length_eq_zero_iff]))))
def zvu{p:Aj}{a:Ah}{i:Nat}{c:Az}(h:sC p=true)(hi:p.Cands[i]?=some c)(hs:wB c.A a=true):uK p a=(c,true)∧p.Cands.filter (λe=>!wB e.A a)=p.Cands.take i++p.Cands.drop (i+1):=by
 have hp:=UJ.1 h;obtain⟨h1,rfl⟩:=List.getElem?_eq_some_iff.1 hi
 have sp:p.Cands=p.Cands.take i++p.Cands[i] :: p.Cands.drop (i+1):=by
  rw[←List.drop_eq_getElem_cons h1,List.take_append_drop]
 have h2:=hp.two;rw[sp]at h2;have h3:=List.pairwise_append.1 h2
 have OV:∀e∈p.Cands.take i,wB e.A a=false:=λe he=>by
  have:=h3.2.2 e he _ List.mem_cons_self;rwa [lV.1 hs]at this
 have hgt:∀e∈p.Cands.drop (i+1),wB e.A a=false:=λe he=>by
  have:=(List.pairwise_cons.1 h3.2.1).1 e he;rw[lV.1 hs,zsL]at this;exact this
 constructor
 ·have hf:p.Cands.find? (λe=>wB e.A a)=some p.Cands[i]:=by
   rw[List.find?_eq_some_iff_append];exact⟨hs,_,_,sp,λe he=>by rw[OV e he];rfl⟩
  unfold uK;rw[h,hf];rfl
 ·conv=>lhs;rw[sp]
  rw[List.filter_append,List.filter_cons_of_neg (by rw[hs];decide),List.filter_eq_self.2 λe he=>by rw[OV e he];rfl,List.filter_eq_self.2 λe he=>by rw[hgt e he];rfl]
def zwu{α:Type}{l:List Az}{a:Ah}{z:Option α}{K:Aj→Option α}{c:List Az→Az→Bool}{n:Nat}(hl:l.length≤3)(h:Ag z (K ⟨a,l.filter λe=>!wB e.A a⟩)):Ag z (sA n (λ(x8:Int×Aj) k9=>
  cond (decide (x8.1<(l.length:Int)))
   (Option.bind (kA l x8.1) fun e10=>aA (fun (y12:Aj)=>k9 ((iA .i64 x8.1 1),y12)) fun k13=>
    cond (!(cond (e10.A.Host==a.Host) (cond (e10.A.Port==a.Port) (true) false) false))
     (Option.bind (kA l x8.1) λe14=>Option.bind (pt (wt e14≤bA) e14) λr15=>cond (c x8.2.Cands r15) (k13 (⟨x8.2.At,x8.2.Cands++[r15]⟩:Aj)) none)
     (k13 x8.2))
   (K x8.2)) (0,(⟨a,[]⟩:Aj))):=by
 refine Ag.lI (λx=>∃i:Nat,x=((i:Int),(⟨a,(l.take i).filter λe=>!wB e.A a⟩:Aj))∧i≤l.length) ⟨0,rfl,by omega⟩ (λx k hx hk=>?_) n;obtain⟨i,hx,h2⟩:=hx;subst hx;refine .cr (λhc=> .br λe he=> .jr ?_) λhc=>?_
 ·simp only[B]at hc;have hi:iA .i64 (i:Int) 1=((i+1:Nat):Int):=by rw[AA (by omega) (by omega)];omega
  have CX:l[i]?=some e:=by rw[kA,if_pos (by omega),Int.toNat_natCast]at he;exact he
  have ht:(l.take (i+1)).filter (λe=>!wB e.A a)=(l.take i).filter (λe=>!wB e.A a)++(if(!wB e.A a)=true then[e]else[]):=by
   rw[List.take_succ,CX,List.filter_append];cases hq:wB e.A a<;>simp[hq]
  rw[VN];refine .cr (λh3=> .bR he (.pr λ_=> .gr λ_=>hk _ ⟨i+1,?_,by omega⟩)) λh3=>hk _ ⟨i+1,?_,by omega⟩
  ·rw[ht,if_pos h3,hi]
  ·rw[ht,if_neg (by rw[h3];decide),hi,List.append_nil]
 ·simp only[B]at hc;rw[List.take_of_length_le (by omega)];exact h
def zti{a0 a1 a2 a3}:Ag (Ge a0 a1 a2 a3) (Fp a0 a1 a2 a3):=by
 unfold Ge Fp;cases h1:sC a0
 ·have:(uK a0 a2).2=false:=by unfold uK;rw[h1];rfl
  ((try simp only[nA,hJ,FB,OM,DH]);repeat' (first | (with_reducible first | intro _ | apply eF | apply iF | exact .r0 | apply nB | apply lC | apply AD) | (with_reducible refine Ag.cr (λ_=>?_) (λ_=>?_)<;>try (exfalso;grind (splits:=3) [oA,PA,eA];done)) | (with_reducible first | apply qD | apply oC) | (refine .s ?_;grind [oA,PA,eA,MB,tC,List.length_eq_zero_iff])))
 have hl:=(UJ.1 h1).len
 rcases zbm a0 a2 with⟨e,h⟩ | ⟨i,c,e,hi,hs⟩
 ·have:(uK a0 a2).2=false:=by
   unfold uK;rw[h1,List.find?_eq_none.2 λc hc=>by rw[h c hc];decide];rfl
  ((try simp only[nA,hJ,FB,OM,DH]);repeat' (first | (with_reducible first | intro _ | apply eF | apply iF | exact .r0 | apply nB | apply lC | apply AD) | (with_reducible refine Ag.cr (λ_=>?_) (λ_=>?_)<;>try (exfalso;grind (splits:=3) [oA,PA,eA];done)) | (with_reducible first | apply qD | apply oC) | (refine .s ?_;grind [oA,PA,eA,MB,tC,List.length_eq_zero_iff])))
 ·obtain⟨hc,hf⟩:=zvu h1 hi hs;have hx:kA a0.Cands (i:Int)=some c:=by rw[kA,if_pos (by omega),Int.toNat_natCast];exact hi
  have hn:=(List.getElem?_eq_some_iff.1 hi).1;have ha:=@AA i 1;simp only[hJ,OM,hc,e]
  ((try simp only[nA,hJ,FB,OM,DH]);repeat' (first | (with_reducible first | intro _ | apply eF | apply iF | exact .r0 | apply nB | apply lC | apply AD | apply gB) | (with_reducible refine Ag.cr (λ_=>?_) (λ_=>?_)<;>try (exfalso;grind (splits:=3) [oA,PA,eA];done)) | (with_reducible first | apply qD | apply oC | apply QG) | (refine .s ?_;grind [oA,PA,eA,MB,tC,List.length_eq_zero_iff]) | (exfalso;grind [oA,PA,eA]) | dsimp only[cond_true,cond_false]))
  all_goals (with_reducible refine zwu (a:=a2) (K:=λp=>some (p,true)) (c:=λl e=>decide (l.length+[e].length≤bA)) hl ?_)
  rw[hf,ha (by omega) (by omega),show((i:Int) - 0).toNat=i by omega,show((i:Int)+1).toNat=i+1 by omega,List.take_of_length_le (l:=a0.Cands.drop (i+1)) (by rw[List.length_drop];omega)];exact .r0
end Go.D
namespace Go.D
theorem zfm{a0:Ai}{a1:List UInt8}{r:Ai×List Av×List Ae×Int}(h:Dy a0 a1=some r):(r.2.2.2≠0→r.2.1=[]∧r.2.2.1=[])∧(vC a0=true→a1.length>40→r.1=a0):=by
 revert h;refine(?_:Pc _ (λr:Ai×List Av×List Ae×Int=>(r.2.2.2≠0→r.2.1=[]∧r.2.2.1=[])∧(vC a0=true→a1.length>40→r.1=a0))) r
 unfold Dy;((try simp only[nA,BA,KD]);repeat' (first | (with_reducible first | intro _ | apply iG | apply lH | apply YF | apply CI) | (refine .s ?_;first | trivial | grind [oA,PA,eA])))
def zsf{a0:Ai}{a1:List UInt8}{r:Ai×List Av×List Ae×Int}(h:Dy a0 a1=some r)(hs:vC a0=true):WE a0 r.1:=by
 by_cases hl:a1.length≤40
 ·obtain⟨q,hq,h1,_⟩:=zij (a1:=a1) hs (by rw[EA];omega);cases hq.symm.trans h;exact h1
 ·rw[(zfm h).2 hs (by omega)];exact eO hs
def zcg{t:Ap}{i:Int}{e s:Ai}{r:Ap×Bool}(h:Bu t i s=some r)(ht:QC t=true)(he:kA t.L i=some e)(hs:WE e s):r=(⟨t.Cap,t.L.set i.toNat s⟩,true):=by
 have h0:0≤i:=by unfold kA at he;split at he<;>first | assumption | cases he
 rw[kA,if_pos h0]at he;have hk:=zvA ht he hs;have hn:=(List.getElem?_eq_some_iff.1 he).1
 revert h;refine(?_:Pc _ (λr:Ap×Bool=>r=(⟨t.Cap,t.L.set i.toNat s⟩,true))) r
 unfold Bu;((try simp only[nA,uG]);repeat' (first | (with_reducible first | intro _ | apply iG | apply lH | apply zaB | apply YF | apply CI) | (refine .s ?_;first | trivial | grind [oA,PA,eA])))
def zdR{s:Ac}{i:Int}{e:Ai}(hs:LB s=true)(he:kA s.T.L i=some e):QC s.T=true∧vC e=true:=by
 have ht:=(YE.1 hs).tab;unfold kA at he;split at he
 ·exact⟨ht,(aF.1 ht).el _ (List.mem_of_getElem? he)⟩
 ·cases he
theorem zmh{s:Ac}{i:Int}{e:Ai}{b:List UInt8}{r:Ai×List Av×List Ae×Int}{t:Ap×Bool}(h1:Dy e b=some r)(h2:Bu s.T i r.1=some t)(he:kA s.T.L i=some e)(hs:LB s=true):t=(⟨s.T.Cap,s.T.L.set i.toNat r.1⟩,true):=
 zcg h2 (zdR hs he).1 he (zsf h1 (zdR hs he).2)
theorem zl1{s:Ac}{i:Int}{e r:Ai}{t:Ap×Bool}(h1:Ez e=some r)(h2:Bu s.T i r=some t)(he:kA s.T.L i=some e)(hs:LB s=true):t=(⟨s.T.Cap,s.T.L.set i.toNat r⟩,true):=
 zcg h2 (zdR hs he).1 he (by
  obtain⟨q,hq,h,_⟩:=zfj (zdR hs he).2;cases hq.symm.trans h1;exact h)
def zmE{s:Ac}(h:LB s=true):qA .i64 (s.T.L.length:Int) 1=(s.T.L.length:Int) - 1:=by
 have:=(aF.1 (YE.1 h).tab).len;exact IA (by omega) (by omega)
end Go.D
namespace Go.D
def zuK(u v:UInt8):xB .u8 ((u.toNat:Nat):Int) ((v.toNat:Nat):Int)=(((u^^^v).toNat:Nat):Int):=by
 unfold xB;show IntKind.wrap .u8 (((BitVec.ofInt 8 ((u.toNat:Nat):Int)^^^BitVec.ofInt 8 ((v.toNat:Nat):Int)).toNat:Nat):Int)=_
 rw[BitVec.ofInt_natCast,BitVec.ofInt_natCast];have:(BitVec.ofNat 8 u.toNat^^^BitVec.ofNat 8 v.toNat)=(u^^^v).toBitVec:=by simp
 rw[this];have h:(u^^^v).toNat<256:=UInt8.toNat_lt _;show IntKind.wrap .u8 (((u^^^v).toNat:Nat):Int)=_
 generalize (u^^^v).toNat=n at h;simp[IntKind.wrap,IntKind.bits,IntKind.signed];omega
def zmg{m n:Nat}(hm:m<256)(hn:n<256):CK .i64 (m:Int) (n:Int)=((m|||n:Nat):Int)∧m|||n<256:=by
 have h2:m|||n<2^8:=Nat.or_lt_two_pow hm hn
 refine⟨?_,h2⟩;unfold CK;show IntKind.wrap .i64 (((BitVec.ofInt 64 (m:Int)|||BitVec.ofInt 64 (n:Int)).toNat:Nat):Int)=_
 rw[BitVec.ofInt_natCast,BitVec.ofInt_natCast,BitVec.toNat_or,BitVec.toNat_ofNat,BitVec.toNat_ofNat,Nat.mod_eq_of_lt (by omega),Nat.mod_eq_of_lt (by omega)];exact UB (by omega) (by omega)
theorem zlO{a b:List UInt8}{r:Int}(h:Bq a b=some r)(hl:a.length≤1000000):r=0↔a=b:=by
 revert h;refine(?_:Pc _ (λr:Int=>r=0↔a=b)) r
 unfold Bq;refine .c (λh=> .s ?_) λh=> .j ?_
 ·simp only[bne_iff_ne,ne_eq]at h;exact⟨λk=>by omega,λk=>by rw[k]at h;omega⟩
 have h:a.length=b.length:=by simp at h;omega
 refine Pc.l (λx=>∃i m:Nat,x=((m:Int),(i:Int))∧m<256∧i≤a.length∧(m=0↔a.take i=b.take i)) ⟨0,0,rfl,by decide,by omega,by simp⟩ (λx k hx hk=>?_) _;obtain⟨i,m,hx,h1,h2,h3⟩:=hx;subst hx;refine .c (λhc=> .b λe he=> .b λf hf=>?_) λhc=> .s ?_
 ·simp only[B]at hc;rw[kA,if_pos (by omega),Int.toNat_natCast]at he hf;have hx:(e^^^f).toNat<256:=UInt8.toNat_lt _;dsimp only;rw[zuK,UB (by omega) (by omega),(zmg h1 hx).1,AA (by omega) (by omega)];refine hk _ ⟨i+1,m|||(e^^^f).toNat,rfl,(zmg h1 hx).2,by omega,?_⟩;rw[Nat.or_eq_zero_iff,h3,List.take_add_one,List.take_add_one,he,hf]
  have hz:(e^^^f).toNat=0↔e=f:=by
   rw[←UInt8.toNat_zero,UInt8.toNat_inj];exact UInt8.xor_eq_zero_iff
  rw[hz];constructor
  ·rintro⟨p,rfl⟩;rw[p]
  ·intro p;have:=List.append_inj p (by rw[List.length_take,List.length_take,h]);exact⟨this.1,by simpa using this.2⟩
 ·simp only[B]at hc;have e:i=a.length:=by omega
  rw[e,List.take_length,h,List.take_length]at h3;rw[←h3];dsimp only;omega
def zsv{a0 a1 a2}(hE:∀e:Ax,∀r f,Ag (Ew e r f) (Cz e r f))(hN:∀n k,Ag (De n k) (Ca n k)):Ag (Dg a0 a1 a2) (Ej a0 a1 a2):=by
 haveI:∀e r f,MA (Cz e r f) (Ew e r f):=λe r f=>⟨hE e r f⟩
 haveI:∀n k,MA (Ca n k) (De n k):=λn k=>⟨hN n k⟩
 unfold Dg Ej
 (try simp only[nA,uC,TC,FB])
 refine .pl λ_=> .pr λ_=> .jBl (.jBr (.pl λ_=> .pr λ_=> .cc (λ_=> .r0) λh1=> .cc (λ_=> .r0) λh2=>?_));cases hs:fC a2.Kind<;>cases hf:AB a2<;>simp only[Bool.not_true,Bool.not_false,cond_true,cond_false]
 ·exact .r0
 ·exact .r0
 ·exact .pl λ_=> .r0
 have hc:kC a0=true:=by simpa using h1
 have cn:=VC hc;have fl:=(rD hf).2.1;have ha:=AA (a:=a0.Cur.N) (b:=1) (by omega) (by omega);have hb:=IA (a:=a0.Cur.N) (b:=1) (by omega) (by omega)
 have ho:a0.HasOld=true→a0.Old.N=a0.Cur.N - 1:=λh=>by
  simp only[kC,SG,h,cond_true,Bool.and_eq_true,beq_iff_eq]at hc;rw[hc.1.2.1.2,hb]
 rw[ha]
 have hd:∀r,Bq a2.Sn a0.Sn=some r→(r !=0)= !(a2.Sn==a0.Sn):=λr h=>by
  have:=zlO h (by omega)
  grind
 have f1:(a2.Epoch==a0.Cur.N)=true→(a2.Epoch==a0.Cur.N+1)=false:=λh=>by
  rw[beq_iff_eq]at h;exact beq_eq_false_iff_ne.2 (by omega)
 have f2:(a2.Epoch==a0.Cur.N)=true→a0.HasOld=true→(a2.Epoch==a0.Old.N)=false:=λh k=>by
  rw[beq_iff_eq]at h;have:=ho k;exact beq_eq_false_iff_ne.2 (by omega)
 have f3:(a2.Epoch==a0.Old.N)=true→a0.HasOld=true→(a2.Epoch==a0.Cur.N+1)=false:=λh k=>by
  rw[beq_iff_eq]at h;have:=ho k;exact beq_eq_false_iff_ne.2 (by omega)
 refine .pl λ_=>?_;generalize (a2.Epoch==a0.Cur.N)=p at *;generalize (a2.Epoch==a0.Old.N)=q at *;generalize (a2.Epoch==a0.Cur.N+1)=x at *;generalize decide ((a0.Next.length:Int)>0)=n at *
 cases h0:a0.HasOld<;>cases p<;>cases q<;>cases x<;>cases n<;>first
  | exact absurd (f1 rfl) (by decide)
  | exact absurd (f2 rfl h0) (by decide)
  | exact absurd (f3 rfl h0) (by decide)
  | (simp only [aA,cond_true,cond_false,Bool.not_true,Bool.not_false]
     refine .bl λr hr=> .pr λ_=>?_;rw[hd r hr];cases(a2.Sn==a0.Sn)<;>simp only[cond_true,cond_false,Bool.not_true,Bool.not_false]
     ·exact .r0
     ·first
      | exact .r0
      | exact .bd inferInstance λ_ _ _=> .cc (λ_=> .r0) λ_=> .r0
      | exact .bd inferInstance λ_ _ _=> .bd inferInstance λ_ _ _=> .cc (λ_=> .r0) λ_=> .r0
      | (repeat' ((with_reducible first | intro _ | exact .r0 | refine .bd inferInstance ?_ | apply gB))))
end Go.D
namespace Go.D
open Option renaming bind→ob
def zsr{a0}:Ag (Bg a0) (Bj a0):=by
 unfold Bg Bj;simp only[zgV];((try simp only[TC,zab,VB,cT,zgz]);repeat' (first | (with_reducible first | intro _ | exact .r0 | apply nB | apply lC | apply RB | apply gB | refine .ct ‹_› ?_ | refine .cf ‹_› ?_) | (with_reducible first | apply oC | apply QG) | (refine .s ?_;grind [oA,PA,eA,MB,tC,List.length_eq_zero_iff,zlw]) | dsimp only[cond_true,cond_false]));(refine Ag.lI (λx=>∃i:Nat,x=(λi:Nat=>([UInt8.ofNat (IntKind.u8.wrap a0.Kind).toNat]++[UInt8.ofNat (IntKind.u8.wrap a0.Id).toNat]++a0.Cn++List.replicate i 0,(i:Int))) i∧i≤20) ⟨0,by first | rfl | simp,by decide⟩ (λx k hx hk=>?_) _;obtain⟨i,hx,h2⟩:=hx;have hi:(i:Int)<20→iA .i64 (i:Int) 1=((i+1:Nat):Int):=λh=>(by rw[AA (by omega) (by omega)];omega);subst hx;refine .cr (λhc=> .gr λ_=>hk _ ⟨i+1,?_,?_⟩) λhc=>?_;(· simp only[B]at hc;simp[hi hc,List.replicate_succ']);(· simp only[B]at hc;omega);have he:i=20:=(by simp only[B]at hc;omega);subst he;try dsimp only);(repeat' ((refine .s ?_;grind [oA,PA,eA,MB,tC,List.length_eq_zero_iff])))
instance{a0:Ab}:MA (Bj a0) (Bg a0):=⟨zsr⟩
def zjv{F:Ab}(h:AB F=true):(F.Kind=1∧F.Cn.length=12)∨(F.Kind=2∧F.Cn.length=12∧F.Sn.length=12∧F.Cookie.length=16)∨(F.Kind=3∧F.Cn.length=12∧F.Sn.length=12∧F.Cookie.length=16∧F.Proof.length=16)∨(fC F.Kind=true∧F.Sn.length=12∧F.Tag.length=16∧F.Body.length≤40):=by
 have hb:=(rD h).2.2.2.2.1;unfold AB at h;cases hs:fC F.Kind
 ·simp only[hs,cond_false,Bool.and_eq_true,beq_iff_eq]at h;obtain⟨⟨_,h1⟩,h⟩:=h
  by_cases k1:F.Kind=1
  ·exact .inl ⟨k1,by omega⟩
  ·by_cases k2:F.Kind=2
   ·simp only[k2,show((2:Int)==1)=false from rfl,beq_self_eq_true,cond_true,cond_false,Bool.and_eq_true,beq_iff_eq]at h;exact .inr (.inl ⟨k2,by omega⟩)
   ·simp only[beq_eq_false_iff_ne.2 k1,beq_eq_false_iff_ne.2 k2,cond_false,Bool.and_eq_true,beq_iff_eq]at h;exact .inr (.inr (.inl ⟨h.1.1.1.1.1,by omega⟩))
 ·simp only[hs,cond_true,Bool.and_eq_true,beq_iff_eq]at h;exact .inr (.inr (.inr ⟨rfl,by omega,by omega,hb⟩))
def zwh{F:Ab}{r:List UInt8}(h:Bg F=some r):(AB F=false→r=[])∧(AB F=true→(F.Kind=1∧r.length=34)∨(F.Kind=2∧r.length=45)∨(F.Kind=3∧r.length=62)∨(fC F.Kind=true∧r.length=39+F.Body.length∧F.Body.length≤40)):=by
 revert h;refine(?_:Pc _ (λr:List UInt8=>(AB F=false→r=[])∧(AB F=true→(F.Kind=1∧r.length=34)∨(F.Kind=2∧r.length=45)∨(F.Kind=3∧r.length=62)∨(fC F.Kind=true∧r.length=39+F.Body.length∧F.Body.length≤40)))) r
 have hk:=@zjv F;unfold Bg;simp only[zgV];have l4:∀n,(CD [] n 4).length=4:=λn=>(OG [] n 4).2;have l6:∀n,(CD [] n 6).length=6:=λn=>(OG [] n 6).2
 ((try simp only[TC,zab,VB,cT,zgz]);repeat' (first | (with_reducible first | intro _ | apply iG | apply YF) | (refine .s ?_;grind [oA,PA,eA,fC,List.length_append,List.length_replicate,List.length_cons,List.length_nil])))
def zvo{b:List UInt8}{n:Int}{v:List UInt8×List UInt8}(hn:0≤n)(h:Bl b n=some v):v=(b.take n.toNat,b.drop n.toNat):=by
 revert h;refine(?_:Pc _ (λv:List UInt8×List UInt8=>v=(b.take n.toNat,b.drop n.toNat))) v
 unfold Bl;refine .g λ_=>?_;dsimp only;refine .p λ_=> .g λ_=> .s ?_;unfold aE;split
 ·rw[Int.sub_zero,Int.toNat_natCast,List.drop_zero,List.take_length,List.drop_length,List.take_of_length_le (l:=b) (i:=n.toNat) (by omega),List.drop_eq_nil_of_le (as:=b) (i:=n.toNat) (by omega)];simp
 ·rw[Int.sub_zero,List.drop_zero,List.take_of_length_le (l:=b.drop n.toNat) (by rw[List.length_drop];omega)]
def yI{α:Type}{b:List UInt8}{n:Int}{f:List UInt8×List UInt8→Option α}{z:Option α}(hn:0≤n)(k:Ag (f (b.take n.toNat,b.drop n.toNat)) z):Ag (ob (Bl b n) f) z:= .bl λv hv=>by
 rw[zvo hn hv];exact k
def KO{α:Type}{b:List UInt8}{n:Int}{f:Int×List UInt8→Option α}{z:Option α}(hn:0≤n)(k:Ag (f ((pH (b.take n.toNat) 0 n).1,b.drop n.toNat)) z):Ag (ob (Cq b n) f) z:=by
 unfold Cq;rw[ba];refine yI hn ?_;rw[ba];exact .pl λ_=>k
def zdO{a0:List UInt8}{F:Ab}{z:Option (Ab×Bool)}(hf:AB F=false)(h:Ag (some ((⟨0,0,[],[],0,[],[],0,0,[],[]⟩:Ab),false)) z):Ag (ob (TC F) λr29=>cond (!r29) (some ((⟨0,0,[],[],0,[],[],0,0,[],[]⟩:Ab),false)) (ob (Bg F) λr30=>ob (FB r30 a0) λr31=>cond (!r31) (some ((⟨0,0,[],[],0,[],[],0,0,[],[]⟩:Ab),false)) (some (F,true)))) z:=
 .pl λ_=>by rw[hf];exact h
def zhc{a0:List UInt8}{K:Ab}(h:a0≠[])(hf:AB K=false):Ag (some ((⟨0,0,[],[],0,[],[],0,0,[],[]⟩:Ab),false)) (ob (Bj K) λr28=>cond (Nat.ble r28.length bA) (cond (Nat.ble a0.length bA) (cond (!(r28==a0)) (some ((⟨0,0,[],[],0,[],[],0,0,[],[]⟩:Ab),false)) (some (K,true))) none) none):=by
 have:Bj K=some []:=by unfold Bj;rw[hf];rfl
 rw[this]
 ((try simp only[bs]);repeat' (first | (with_reducible first | intro _ | exact .r0 | apply RB) | (with_reducible refine Ag.cr (λ_=>?_) (λ_=>?_)<;>try (exfalso;grind (splits:=3) [oA,PA,eA];done))))
def zdt{a0:List UInt8}{F:Ab}(h:∀r,Bg F=some r→AB F=true→r≠a0):Ag (ob (TC F) λr29=>cond (!r29) (some ((⟨0,0,[],[],0,[],[],0,0,[],[]⟩:Ab),false)) (ob (Bg F) λr30=>ob (FB r30 a0) λr31=>cond (!r31) (some ((⟨0,0,[],[],0,[],[],0,0,[],[]⟩:Ab),false)) (some (F,true)))) (some ((⟨0,0,[],[],0,[],[],0,0,[],[]⟩:Ab),false)):=by
 ((try simp only[TC,FB]);repeat' (first | (with_reducible first | intro _ | exact .r0 | apply nB) | (with_reducible first | apply qD | apply oC) | (refine .s ?_;grind [oA,PA,eA,MB,tC,List.length_eq_zero_iff])))
def zcY{a0:List UInt8}{F K:Ab}(h:a0≠[])(e:F=K):Ag (ob (TC F) λr29=>cond (!r29) (some ((⟨0,0,[],[],0,[],[],0,0,[],[]⟩:Ab),false)) (ob (Bg F) λr30=>ob (FB r30 a0) λr31=>cond (!r31) (some ((⟨0,0,[],[],0,[],[],0,0,[],[]⟩:Ab),false)) (some (F,true))))
  (ob (Bj K) λr28=>cond (Nat.ble r28.length bA) (cond (Nat.ble a0.length bA) (cond (!(r28==a0)) (some ((⟨0,0,[],[],0,[],[],0,0,[],[]⟩:Ab),false)) (some (K,true))) none) none):=by
 subst e;cases hf:AB F
 ·exact zdO hf (zhc h hf)
 ·((try simp only[TC,FB]);repeat' (first | (with_reducible first | intro _ | exact .r0 | apply nB | refine .bd inferInstance ?_ | apply RB) | (with_reducible refine Ag.cr (λ_=>?_) (λ_=>?_)<;>try (exfalso;grind (splits:=3) [oA,PA,eA];done)) | (with_reducible first | apply oC | apply FE)))
def zmA{e:UInt8}{t:List UInt8}:(pH ((e :: t).take 1) 0 1).1=(e.toNat:Int):=by
 show iA .i64 (XB .i64 0 256) (IntKind.wrap .i64 ((e.toNat:Nat):Int))=_
 have h:=UInt8.toNat_lt e;rw[UB (by omega) (by omega),show XB .i64 0 256=0 from rfl,AA (by omega) (by omega)];omega
def zc2{a:List UInt8}{p:Nat}{k:Int}(hk:1≤k∧k≤6)(h:(p:Int)+k≤a.length):(pH ((a.drop p).take k.toNat) 0 k).1=(pH a (p:Int) k).1:=by
 unfold pH;rw[decide_eq_false (by omega),decide_eq_false (by omega),decide_eq_false (by omega),decide_eq_false (by rw[List.length_take,List.length_drop];omega),decide_eq_false (by omega),decide_eq_false (by omega)];show MG ((((a.drop p).take k.toNat).drop (0:Int).toNat).take k.toNat)=MG ((a.drop (p:Int).toNat).take k.toNat)
 rw[show((0:Int).toNat)=0 from rfl,List.drop_zero,List.take_take,Nat.min_self,Int.toNat_natCast]
def zmK{a:List UInt8}{p:Nat}{e:UInt8}(h:kA a (p:Int)=some e):(pH ((a.drop p).take 1) 0 1).1=IntKind.wrap .i64 (e.toNat:Int):=by
 rw[kA,if_pos (by omega),Int.toNat_natCast]at h;obtain⟨h1,rfl⟩:=List.getElem?_eq_some_iff.1 h;have hn:=UInt8.toNat_lt a[p];rw[List.drop_eq_getElem_cons h1,zmA,UB (by omega) (by omega)]
def zrZ{a0}:Ag (Db a0) (Ef a0):=by
 unfold Db Ef;refine KO (by decide) ?_;cases a0 with
 | nil=>
  rw[show(pH (List.take (1:Int).toNat []) 0 1).1=0 from rfl];exact zdO rfl .r0
 | cons e t=>
  rw[show(1:Int).toNat=1 from rfl,zmA];refine .cr (λh=>?_) λ_=> .br λe1 he=>?_
  ·simp only[B,List.length_cons]at h;omega
  cases he.symm.trans (show kA (e :: t) 0=some e from rfl);have hn:=UInt8.toNat_lt e;dsimp only;rw[UB (by omega) (by omega)];generalize ha:e :: t=a;have h0:a≠[]:=by rw[←ha];exact List.cons_ne_nil _ _
  generalize hk:(e.toNat:Int)=k
  have no:∀F:Ab,F.Kind=k→(k=1→a.length≠34)→(k=2→a.length≠45)→(k=3→a.length≠62)→(fC k=true→a.length<39)→∀r,Bg F=some r→AB F=true→r≠a:=λF q p1 p2 p3 p4 r hr hf e=>by
   subst e
   rcases(zwh hr).2 hf with h | h | h | h
   ·exact p1 (q▸h.1) h.2
   ·exact p2 (q▸h.1) h.2
   ·exact p3 (q▸h.1) h.2
   ·have:=p4 (q▸h.1);omega
  by_cases k1:k=1
  ·subst k1;simp only[aA,cond_true,beq_self_eq_true];refine KO (by decide) (yI (by decide) (.cr (λhl=>zdt (no _ rfl (λ_=>?_) ?_ ?_ ?_)) λhl=> .br λe5 EX=> .gr λ_=> .gr λ_=>zcY h0 ?_))
   ·simp only[B]at hl;omega
   ·omega
   ·omega
   ·intro h;cases h
   ·simp only[List.nil_append];have:=zmK (p:=1) EX;rw[show(1:Int).toNat=1 from rfl,this,show(12:Int).toNat=12 from rfl,List.drop_drop]
  by_cases k2:k=2
  ·subst k2;simp only[aA,cond_true,cond_false,beq_self_eq_true,show((2:Int)==1)=false from rfl,show((2:Int)==3)=false from rfl];refine yI (by decide) (yI (by decide) (KO (by decide) (yI (by decide) (.cr (λhl=>zdt (no _ rfl ?_ (λ_=>?_) ?_ ?_)) λhl=> .gr λ_=> .gr λ_=> .gr λ_=> .gr λ_=> .pr λ_=> .gr λ_=> .gr λ_=>zcY h0 ?_))))
   ·omega
   ·simp only[B]at hl;omega
   ·omega
   ·intro h;cases h
   ·simp only[B]at hl;have:=zc2 (a:=a) (p:=25) (k:=4) (by decide) (by omega);simp only[List.nil_append,List.drop_drop,show(1:Int).toNat=1 from rfl,show(12:Int).toNat=12 from rfl,show(4:Int).toNat=4 from rfl,show(16:Int).toNat=16 from rfl]at this⊢;rw[this,show((a.length:Int) - 29).toNat=16 by omega];rfl
  by_cases k3:k=3
  ·subst k3;simp only[aA,cond_true,cond_false,beq_self_eq_true,show((3:Int)==1)=false from rfl,show((3:Int)==2)=false from rfl];refine KO (by decide) (yI (by decide) (yI (by decide) (KO (by decide) (yI (by decide) (yI (by decide) (.cr (λhl=>zdt (no _ rfl ?_ ?_ (λ_=>?_) ?_)) λhl=> .br λe5 EX=> .gr λ_=> .gr λ_=> .gr λ_=> .gr λ_=> .pr λ_=> .gr λ_=> .gr λ_=> .gr λ_=> .gr λ_=>zcY h0 ?_))))))
   ·omega
   ·omega
   ·simp only[B]at hl;omega
   ·intro h;cases h
   ·simp only[B]at hl;have h1:=zmK (p:=1) EX;have:=zc2 (a:=a) (p:=26) (k:=4) (by decide) (by omega);simp only[List.nil_append,List.drop_drop,show(1:Int).toNat=1 from rfl,show(12:Int).toNat=12 from rfl,show(4:Int).toNat=4 from rfl,show(16:Int).toNat=16 from rfl]at this h1⊢;rw[this,h1,show((a.length:Int) - 46).toNat=16 by omega];rfl
  simp only[aA,cond_false,beq_eq_false_iff_ne.2 k1,beq_eq_false_iff_ne.2 k2,beq_eq_false_iff_ne.2 k3]
  have bad:∀F:Ab,F.Kind=k→fC k=false→AB F=false:=λF q hs=>by
   cases hf:AB F
   ·rfl
   ·rcases zjv hf with h | h | h | h
    ·exact absurd (q▸h.1) k1
    ·exact absurd (q▸h.1) k2
    ·exact absurd (q▸h.1) k3
    ·rw[q,hs]at h;cases h.1
  cases hs:fC k
  ·simp only[cond_false];exact zdO (bad _ rfl hs) (.cr (λ_=> .r0) λ_=> .gr λ_=> .gr λ_=> .pr λ_=> .pr λ_=> .gr λ_=> .gr λ_=> .gr λ_=> .gr λ_=>zhc h0 (bad _ rfl hs))
  ·simp only[cond_true];refine yI (by decide) (KO (by decide) (KO (by decide) (yI (by decide) (yI (by decide) (.cr (λhl=>zdt (no _ rfl ?_ ?_ ?_ (λ_=>?_))) λhl=> .gr λ_=> .gr λ_=> .pr λ_=> .pr λ_=> .gr λ_=> .gr λ_=> .gr λ_=> .gr λ_=>?_)))))
   ·omega
   ·omega
   ·omega
   ·simp only[B]at hl;omega
   ·simp only[B]at hl
    by_cases hb:a.length≤79
    ·refine zcY h0 ?_;have g1:=zc2 (a:=a) (p:=13) (k:=4) (by decide) (by omega);have g2:=zc2 (a:=a) (p:=17) (k:=6) (by decide) (by omega);simp only[List.nil_append,List.drop_drop,show(1:Int).toNat=1 from rfl,show(12:Int).toNat=12 from rfl,show(4:Int).toNat=4 from rfl,show(6:Int).toNat=6 from rfl,show(16:Int).toNat=16 from rfl,show(41:Int).toNat=41 from rfl]at g1 g2⊢;rw[g1,g2,List.take_of_length_le (l:=a.drop _) (i:=41) (by rw[List.length_drop];omega),List.take_of_length_le (l:=a.drop 39) (i:=((a.length:Int) - 39).toNat) (by rw[List.length_drop];omega)];rfl
    ·have DT:∀F:Ab,F.Kind=k→41≤F.Body.length→AB F=false:=λF q hb=>by
      cases hf:AB F
      ·rfl
      ·have:=(rD hf).2.2.2.2.1;omega
     refine zdO (DT _ rfl ?_) (zhc h0 (DT _ rfl ?_))
     ·simp only[List.drop_drop,List.length_take,List.length_drop,show(1:Int).toNat=1 from rfl,show(12:Int).toNat=12 from rfl,show(4:Int).toNat=4 from rfl,show(6:Int).toNat=6 from rfl,show(16:Int).toNat=16 from rfl,show(41:Int).toNat=41 from rfl];omega
     ·simp only[List.nil_append,List.length_take,List.length_drop];omega
end Go.D
namespace Go.D
def zrw{p r:List UInt8}(h:Bh p=some r)(k:AC p=true):r.length=32:=by
 revert h;refine(?_:Pc _ (λr:List UInt8=>r.length=32)) r
 unfold Bh Bz;rw[k];refine .c nofun λ_=>?_;dsimp only;refine .b λv hv=>?_;cases hv;refine .p λ_=> .s (DM ?_ (by decide));have:=mL [UInt8.ofNat (114:Int).toNat,UInt8.ofNat (111:Int).toNat,UInt8.ofNat (97:Int).toNat,UInt8.ofNat (109:Int).toNat] p;omega
def zrS{i t:Int}{c s k r:List UInt8}(h:Dd i c s t k=some r)(h1:eA i 1 9=true)(h2:c.length=12)(h3:s.length=12)(h4:eA t 0 1000000=true)(h5:k.length=16):r.length=46:=by
 revert h;refine(?_:Pc _ (λr:List UInt8=>r.length=46)) r
 unfold Dd;have l4:∀n,(CD [] n 4).length=4:=λn=>(OG [] n 4).2
 ((try simp only[VB,cT]);repeat' (first | (with_reducible first | intro _ | apply iG | apply lH | apply YF) | (refine .s ?_;first | trivial | grind [oA,PA,eA,List.length_append,List.length_cons,List.length_nil])))
theorem zwB{a b r:List UInt8}(h:Cb a b=some r)(h1:a.length=32)(h2:b.length≤100):r.length=16:=by
 revert h;refine(?_:Pc _ (λr:List UInt8=>r.length=16)) r
 have:=JH (k:=a) (b:=b) (by omega) (by omega);unfold Cb;dsimp only
 ((try simp only[BA]);repeat' (first | (with_reducible first | intro _ | apply iG | apply zaB | apply YF) | (refine .s ?_;grind [oA,PA,eA,List.length_take,List.length_drop])))
theorem zjO{p:List UInt8}{i:Int}{f:Ab}{r:Ab×Bool}(h:Ey p i f=some r)(hp:AC p=true)(hi:eA i 1 9=true)(hf:AB f=true)(hk:f.Kind=2):r.2=true:=by
 revert h;refine(?_:Pc _ (λr:Ab×Bool=>r.2=true)) r
 have T5:=zak hf hk;have ht:eA f.Tick 0 1000000=true:=OB.2 ⟨T5.2.2.1,T5.2.2.2.1⟩
 have hpr:∀q,Ds p i f.Cn f.Sn f.Tick f.Cookie=some q→q.length=16:=λq h=>by
  revert h;refine(?_:Pc _ (λq:List UInt8=>q.length=16)) q
  unfold Ds;refine .b λv hv=> .b λw hw=>?_;have h1:=zrw hv hp;have h2:=zrS hw hi T5.1 T5.2.1 ht T5.2.2.2.2.1
  (repeat' (first | (with_reducible first | intro _ | apply iG | apply lH | apply YF | apply CI) | (refine .s ?_;first | trivial | grind [oA,PA,eA, →zwB])))
 unfold Ey
 ((try simp only[BA,TC]);repeat' (first | (with_reducible first | intro _ | apply iG | apply lH | apply YF | apply CI) | (refine .s ?_;first | trivial | grind [oA,PA,eA])))
set_option maxHeartbeats 1000000 in
theorem zjK{a0:Ak}{a1:Int}{a2:Ab}{r:Ak×List UInt8×Int}(h:Dg a0 a1 a2=some r):r.2.2=0→a2.Sn=a0.Sn∧r.1.Sn=a2.Sn:=by
 revert h;refine(?_:Pc _ (λr:Ak×List UInt8×Int=>r.2.2=0→a2.Sn=a0.Sn∧r.1.Sn=a2.Sn)) r
 have fl:=λh=>(@rD a2 h).2.1;unfold Dg
 ((try simp only[nA,uC,TC]);repeat' (first | (with_reducible first | intro _ | apply iG | apply lH | apply YF | apply CI) | (refine .s ?_;first | trivial | grind [oA,PA,eA, →zlO])))
end Go.D
namespace Go.D
open Option renaming bind→ob
def zxt{c:Ad}(h:pB c=true):AC c.Psk=true∧eA c.Id 1 9=true∧(c.St=0∨c.St=1∨c.St=2∨c.St=3):=by
 unfold pB at h;simp only[Bool.and_eq_true]at h;refine⟨h.1.1.2,h.1.1.1,?_⟩;have h:=h.2
 by_cases h0:c.St=0
 ·exact .inl h0
 by_cases h1:c.St=1
 ·exact .inr (.inl h1)
 by_cases h2:c.St=2
 ·exact .inr (.inr (.inl h2))
 ·simp only[beq_eq_false_iff_ne.2 h0,beq_eq_false_iff_ne.2 h1,beq_eq_false_iff_ne.2 h2,cond_false,Bool.and_eq_true,beq_iff_eq]at h;omega
def Ag.lB{α β σ:Type}{f:σ→(σ→Option α)→Option α}{f':σ→(σ→Option β)→Option β}{g:β→Option α}(e:∀x k k',(∀y,Ag (k y) (ob (k' y) g))→Ag (f x k) (ob (f' x k') g)):∀(n:Nat) (x:σ),Ag (sA n f x) (ob (sA n f' x) g):=by
 intro n;induction n with
 | zero=>exact λ_=>Ag.nl
 | succ n ih=>exact λx=>e _ _ _ λ_=>ih _
def zvy{o:List Av}{n:List Ae}{s:Ac}{z:Option (Ac×List Av×List Ae)}{f:List Av×Int×Ac→(List Av×Int×Ac→Option (Ac×List Av×List Ae))→Option (Ac×List Av×List Ae)}(ho:o=[])(h:Ag (some (s,[],n)) z):Ag (sA FU (λx k=>cond (decide (x.2.1<(o.length:Int))) (f x k) (some (x.2.2,x.1,n))) ([],0,s)) z:=by
 subst ho;refine Ag.lJ (λx=>x=([],0,s)) rfl (λx k hx _=>?_) _;subst hx;exact h
def zw5{o:List Av}{n:List Ae}{s:Ac}(hA:∀t a,Ag (Dc t a) (Dm t a))(hZ:∀f,Ag (Dv f) (Em f))(hP:∀c a n,Ag (Dw c a n) (Do c a n)):Ag (aA (λ(y18:(List Av)×Ac)=>
 some (y18.2,y18.1,n)) λk19=>
 sA FU (λ(x20:(List Av)×Int×Ac) k21=>
 cond (decide (x20.2.1<(o.length:Int)))
 (aA (λ(y22:(List Av)×Ac)=>
 k21 (y22.1,(iA .i64 x20.2.1 1),y22.2)) λk23=>
 cond (decide (0≤x20.2.1)&&decide (x20.2.1<(o.length:Int))) (ob (o[x20.2.1.toNat]?) λe24=>
 ob (Dc x20.2.2.T e24.To) λr25=>
 aA (λ(y26:Ac)=>
 cond (decide (x20.1.length+[e24].length≤bA)) (k23 ((x20.1++[e24]),y26)) none) λk27=>
 cond (!r25)
 (ob (Dv e24.F) λr28=>
 ob (Dw x20.2.2.Cr e24.To r28) λr29=>
 cond (!r29.2)
 (k23 (x20.1,x20.2.2))
 (k27 (⟨x20.2.2.Psks,x20.2.2.J,x20.2.2.D,x20.2.2.T,r29.1⟩:Ac)))
 (k27 x20.2.2)) none)
 (k19 (x20.1,x20.2.2))) ([],0,s)) (ob (Hi s o) λr65=>some (r65.2,r65.1,n)):=by
 haveI:∀t a,MA (Dm t a) (Dc t a):=λt a=>⟨hA t a⟩
 haveI:∀f,MA (Em f) (Dv f):=λf=>⟨hZ f⟩
 haveI:∀c a n,MA (Do c a n) (Dw c a n):=λc a n=>⟨hP c a n⟩
 unfold Hi;refine .jl (.jbr (Ag.lB (λx k k' hk=>?_) _ _));simp only[ba,bc,bs,bn]
 (repeat' (first | (with_reducible first | intro _ | exact .r0 | refine .bd inferInstance ?_ | apply AD | apply RB | apply gB | (apply_assumption;done) | refine .ct ‹_› ?_ | refine .cf ‹_› ?_) | (with_reducible first | apply zhf | (apply zw2;simp only[ba,bc,bs,bn]) | apply qD | apply oC | refine .bT inferInstance ‹_› ?_ | refine .bR ‹_› ?_)))
end Go.D
namespace Go.D
def zfH{t:Ap}{s:Ai}{r:Ap×Int}(h:Bi t s=some r):r.2=0→r.1=⟨t.Cap,t.L++[s]⟩∧OE t s.Sn<0∧QC t=true∧vC s=true:=by
 revert h;refine(?_:Pc _ (λr:Ap×Int=>r.2=0→r.1=⟨t.Cap,t.L++[s]⟩∧OE t s.Sn<0∧QC t=true∧vC s=true)) r
 unfold Bi;((try simp only[nA,ID,wJ,uG,KD]);repeat' (first | (with_reducible first | intro _ | apply iG | apply lH | apply zaB | apply YF) | (refine .s ?_;first | trivial | grind [oA,PA,eA])))
def ztw{t:Ap}{s:Ai}(h:OE t s.Sn<0):OE ⟨t.Cap,t.L++[s]⟩ s.Sn=(t.L.length:Int):=by
 unfold OE at h⊢
 rcases SJ t.L.length (xG t s.Sn)with⟨h1,_⟩ | ⟨m,_,_,_,h4⟩
 ·rcases SJ (t.L++[s]).length (xG ⟨t.Cap,t.L++[s]⟩ s.Sn)with⟨h3,h4⟩ | ⟨m,h5,h6,_,h4⟩
  ·have:=yS (i:=t.L.length) (by rw[h3];rfl) (by simp);simp[xG]at this
  ·rw[h4];have:=dH.1 h1 m;rw[List.length_append]at h5;simp only[List.length_cons,List.length_nil]at h5
   by_cases hm:m<t.L.length
   ·have:=this hm;unfold xG at this h6;rw[List.getElem?_append_left hm]at h6;rw[h6]at this;cases this
   ·omega
 ·omega
def zs1{t:Ap}{s:Ai}{r:Ap×Int}(h:Bi t s=some r)(h0:r.2=0):OE r.1 s.Sn=qA .i64 (r.1.L.length:Int) 1:=by
 obtain⟨e,h1,h2,_⟩:=zfH h h0;have:=(aF.1 h2).len;rw[e,ztw h1,List.length_append,IA (by simp only[List.length_cons,List.length_nil];omega) (by simp only[List.length_cons,List.length_nil];omega)];simp only[List.length_cons,List.length_nil];omega
def zs8{p:List UInt8}{n:Int}{a:Ah}{f:Ab}{s:Ai}(h:Eu p n a f=some s)(hs:vC s=true):s.Sn=f.Sn:=by
 revert hs
 revert h;refine(?_:Pc _ (λs:Ai=>vC s=true→s.Sn=f.Sn)) s
 have:vC (⟨0,[],[],(⟨0,[],(⟨0,[],0,(⟨0,[]⟩:Aq)⟩:Ax),(⟨0,[],0,(⟨0,[]⟩:Aq)⟩:Ax),false,0,[]⟩:Ak),(⟨(⟨0,0⟩:Ah),[]⟩:Aj),0,0,false⟩:Ai)=false:=by
  unfold vC;rfl
 unfold Eu;((try simp only[BA,TC]);repeat' (first | (with_reducible first | intro _ | apply iG | apply lH | apply YF | apply CI) | (refine .s ?_;first | trivial | grind [oA,PA,eA])))
def zsW{a0:Ai}{r:Ai×List Av×List Ae}(h:Ev a0=some r)(hs:vC a0=true):WE a0 r.1:=by
 obtain⟨q,hq,h1,_⟩:=ziH hs;cases hq.symm.trans h;exact h1
def zlY{t:Ap}{i:Int}{e:Ai}(ht:QC t=true)(he:kA t.L i=some e):vC e=true:=by
 unfold kA at he;split at he
 ·exact(aF.1 ht).el _ (List.mem_of_getElem? he)
 ·cases he
theorem eT{t:Ap}{i:Int}{e:Ai}{r:Ai×List Av×List Ae}{p:Ap×Bool}(h1:Ev e=some r)(h2:Bu t i r.1=some p)(he:kA t.L i=some e)(ht:QC t=true):p=(⟨t.Cap,t.L.set i.toNat r.1⟩,true):=
 zcg h2 ht he (zsW h1 (zlY ht he))
def zs3{t:Ap}{s:Ai}{r:Ap×Int}(h:Bi t s=some r)(h0:r.2=0):QC r.1=true:=by
 obtain⟨_,_,h2,h3⟩:=zfH h h0;obtain⟨q,hq,h1,_⟩:=ziK (a1:=s) h2 (by have:=jF h3;omega);cases hq.symm.trans h;exact h1
def Pc.jj{α σ:Type}{Q:α→Prop}{h:σ→Option α}{f:(σ→Option α)→Option α}(a:∀y,Pc (h y) Q)(e:∀k,(∀y,Pc (k y) Q)→Pc (f k) Q):Pc (aA h f) Q:=e _ a
def zsy{b:List UInt8}{r:Ab×Bool}(h:Db b=some r):r.2=true→AB r.1=true:=by
 revert h;refine(?_:Pc _ (λr:Ab×Bool=>r.2=true→AB r.1=true)) r
 unfold Db;refine .b λ_ _=>Pc.jj (λy=>?_) λk hk=>?_
 ·((try simp only[TC,FB]);repeat' (first | (with_reducible first | intro _ | apply iG | apply lH | apply YF | apply CI) | (refine .s ?_;first | trivial | grind [oA,PA,eA])))
 ·repeat' first
   | exact hk _
   | apply_assumption
   | refine Pc.b λ_ _=>?_
   | refine Pc.c (λ_=>?_) λ_=>?_
   | refine Pc.jj (λ_=>?_) λ_ _=>?_
theorem ZS{t:Ap}{i n:Int}{e:Ai}{a:Ah}{f:Ab}{b:List UInt8}{r:Ai×List Av×List Ae×Bool}{p:Ap×Bool}(h1:Gg e n a f b=some r)(h2:Bu t i r.1=some p)(he:kA t.L i=some e)(ht:QC t=true)(hf:AB f=true)(hb:b.length≤100):p=(⟨t.Cap,t.L.set i.toNat r.1⟩,true):=
 zcg h2 ht he (by
  obtain⟨q,hq,h,_⟩:=zig (a1:=n) (a2:=a) (zlY ht he) hf hb;cases hq.symm.trans h1;exact h)
end Go.D

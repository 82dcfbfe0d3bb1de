/-
 Two partial results agree: where both have one, it is the same.
-/
import Derived.Test.YtfealdecpglcnaaGreatE1
import Derived.Test.YtfealdecpglcnaaGreatN8
import Derived.Test.YtfealdecpglcnaaGreatN12
import Derived.Test.YtfealdecpglcnaaGreatP2
import Derived.Test.YtfealdecpglcnaaGreatN11
set_option linter.all false
namespace Go.D
open Option renaming bind→ob
def Ag{α:Type}(x y:Option α):Prop:=∀v w,x=some v→y=some w→v=w
class uN{α:Type}(x y:Option α):Prop where h:Ag x y
class LA{α:Type}(y:Option α)(x:outParam (Option α)):Prop where h:Ag x y
instance{α:Type}{x y:Option α}[LA y x]:uN x y:=⟨LA.h⟩
namespace Ag
variable {α β σ τ:Type} {x y:Option α} {c d:Bool}
def r0:Ag x x:=λ_ _ h k=>Option.some.inj (h.symm.trans k)
def nl:Ag none y:=λ_ _ h=>nomatch h
def nr:Ag x none:=λ_ _ _ h=>nomatch h
def s{a b:α}(h:a=b):Ag (some a) (some b):=λ_ _ k l=>(Option.some.inj k).symm.trans (h.trans (Option.some.inj l))
def sy(h:Ag x y):Ag y x:=λv w k l=>(h w v l k).symm
def b{f g:α→Option β}(h:Ag x y)(k:∀v,x=some v→y=some v→Ag (f v) (g v)):Ag (x.bind f) (y.bind g):=by
 cases x with
 | none=>exact nl
 | some v=>cases y with
  | none=>exact nr
  | some w=>cases h v w rfl rfl;exact k v rfl rfl
def bc[uN x y]{f g:α→Option β}(k:∀v,x=some v→y=some v→Ag (f v) (g v)):Ag (x.bind f) (y.bind g):=b uN.h k
def bl{f:α→Option β}{z:Option β}(k:∀v,x=some v→Ag (f v) z):Ag (x.bind f) z:=by
 cases x with
 | none=>exact nl
 | some v=>exact k v rfl
def br{f:α→Option β}{z:Option β}(k:∀v,x=some v→Ag z (f v)):Ag z (x.bind f):=sy (bl λv h=>sy (k v h))
def bd{f g:α→Option β}(i:uN x y)(k:∀v,x=some v→y=some v→Ag (f v) (g v)):Ag (x.bind f) (y.bind g):=b i.h k
def bT{f:α→Option β}{z:Option β}{v:α}(i:LA y x)(h:x=some v)(k:y=some v→Ag z (f v)):Ag z (y.bind f):=br λw hw=>by
 cases i.h v w h hw;exact k hw
def bR{f:α→Option β}{z:Option β}{v:α}(h:x=some v)(k:Ag z (f v)):Ag z (x.bind f):=by subst h;exact k
def cc{p q:Option α}(h:c=true→Ag x p)(k:c=false→Ag y q):Ag (cond c x y) (cond c p q):=by
 cases c
 ·exact k rfl
 ·exact h rfl
def ce{p q:Option α}(e:c=d)(h:c=true→Ag x p)(k:c=false→Ag y q):Ag (cond c x y) (cond d p q):=by subst e;exact cc h k
def cl{z:Option α}(h:c=true→Ag x z)(k:c=false→Ag y z):Ag (cond c x y) z:=by
 cases c
 ·exact k rfl
 ·exact h rfl
def cr{z:Option α}(h:c=true→Ag z x)(k:c=false→Ag z y):Ag z (cond c x y):=by
 cases c
 ·exact k rfl
 ·exact h rfl
def ct{z:Option α}(e:c=true)(h:Ag z x):Ag z (cond c x y):=by subst e;exact h
def cf{z:Option α}(e:c=false)(h:Ag z y):Ag z (cond c x y):=by subst e;exact h
def gl{z:Option α}(h:c=true→Ag x z):Ag (cond c x none) z:=cl h λ_=>nl
def gr{z:Option α}(h:c=true→Ag z x):Ag z (cond c x none):=cr h λ_=>nr
def jj{h h':σ→Option α}{f f':(σ→Option α)→Option α}(a:∀y,Ag (h y) (h' y))(e:∀k k',(∀y,Ag (k y) (k' y))→Ag (f k) (f' k')):Ag (aA h f) (aA h' f'):=e _ _ a
def hj{ρ:Type}(P:(σ→Option ρ)→(τ→Option ρ)→Prop){c:Bool}{t:σ→Option ρ}{t':τ→Option ρ}{b:(σ→Option ρ)→Option ρ}{b':(τ→Option ρ)→Option ρ}{e:Option ρ}(h0:P t t')(h:∀k k',P k k'→Ag (b k) (cond c e (b' k'))):Ag (aA t b) (cond c e (aA t' b')):=h _ _ h0
def jl{z:Option α}{h:σ→Option α}{f:(σ→Option α)→Option α}(a:Ag (f h) z):Ag (aA h f) z:=a
def jr{z:Option α}{h:σ→Option α}{f:(σ→Option α)→Option α}(a:Ag z (f h)):Ag z (aA h f):=a
def ll{f f':σ→(σ→Option α)→Option α}{x0:σ}(e:∀x k k',(∀y,Ag (k y) (k' y))→Ag (f x k) (f' x k')):∀n,Ag (uA n f x0) (uA n f' x0):=by
 intro n;induction n generalizing x0 with
 | zero=>exact nl
 | succ n ih=>exact e _ _ _ λ_=>ih
def lI(I:σ→Prop){f:σ→(σ→Option α)→Option α}{z:Option α}{x0:σ}(h0:I x0)(e:∀x k,I x→(∀y,I y→Ag z (k y))→Ag z (f x k)):∀n,Ag z (uA n f x0):=by
 intro n;induction n generalizing x0 with
 | zero=>exact nr
 | succ n ih=>exact e _ _ h0 λ_ h=>ih h
def lJ(I:σ→Prop){f:σ→(σ→Option α)→Option α}{z:Option α}{x0:σ}(h0:I x0)(e:∀x k,I x→(∀y,I y→Ag (k y) z)→Ag (f x k) z)(n:Nat):Ag (uA n f x0) z:=sy (lI I h0 (λx k h l=>sy (e x k h λy hy=>sy (l y hy))) n)
end Ag
instance(priority:=low){α:Type}{x:Option α}:uN x x:=⟨.r0⟩
def zgo{a b:List UInt8}:aD [a,b]=pt (wt [a,b]≤bA) (a++b):=by unfold aD;simp
def OO{a b c d:List UInt8}:aD [a,b,c,d]=pt (wt [a,b,c,d]≤bA) (a++b++c++d):=by unfold aD;simp
def kT{a b c d e:List UInt8}:aD [a,b,c,d,e]=pt (wt [a,b,c,d,e]≤bA) (a++b++c++d++e):=by unfold aD;simp
def zc2{a b c d e f:List UInt8}:aD [a,b,c,d,e,f]=pt (wt [a,b,c,d,e,f]≤bA) (a++b++c++d++e++f):=by unfold aD;simp
def bn{α β:Type}{f:α→Option β}:ob none f=none:=rfl
def bs{α β:Type}{v:α}{f:α→Option β}:ob (some v) f=f v:=rfl
def ba{α β γ:Type}{x:Option α}{f:α→Option β}{g:β→Option γ}:ob (ob x f) g=ob x λv=>ob (f v) g:=by cases x<;>rfl
def bc{α β:Type}{c:Bool}{x y:Option α}{f:α→Option β}:ob (cond c x y) f=cond c (ob x f) (ob y f):=by cases c<;>rfl
def Ag.pl{α β:Type}{p:Prop}{v:α}{f:α→Option β}{z:Option β}(k:p→Ag (f v) z):Ag (ob (pt p v) f) z:=by
 unfold pt
 by_cases h:p
 ·rw[if_pos h];exact k h
 ·rw[if_neg h];exact .nl
def Ag.pr{α β:Type}{p:Prop}{v:α}{f:α→Option β}{z:Option β}(k:p→Ag z (f v)):Ag z (ob (pt p v) f):= .sy (.pl λh=> .sy (k h))
def Ag.jbl{α β σ:Type}{z:Option β}{h:σ→Option α}{f:(σ→Option α)→Option α}{g:α→Option β}(a:Ag (ob (f h) g) z):Ag (ob (aA h f) g) z:=a
def Ag.jbr{α β σ:Type}{z:Option β}{h:σ→Option α}{f:(σ→Option α)→Option α}{g:α→Option β}(a:Ag z (ob (f h) g)):Ag z (ob (aA h f) g):=a
def Ag.kk{α β:Type}{k k':α→Option β}{a b:α}(h:∀y,Ag (k y) (k' y))(e:a=b):Ag (k a) (k' b):=e▸h a
def bx0{α:Type}{x:Option α}:ob x (λv=>some v)=x:=by cases x<;>rfl
def bx{α σ:Type}{h:σ→Option α}{f:(σ→Option α)→Option α}:ob (aA h f) (λv=>some v)=aA h f:=bx0
instance{α:Type}{l:List α}{i:Int}:uN (l[i.toNat]?) (jA l i):=⟨by
 unfold jA;split
 ·exact Ag.r0
 ·exact Ag.nr⟩
instance{α:Type}{l:List α}{i:Int}:uN (jA l i) (l[i.toNat]?):=⟨.sy uN.h⟩
def Ag.bI{α β:Type}{l:List α}{i:Int}{v:α}{f:α→Option β}{z:Option β}(h:jA l i=some v)(k:Ag z (f v)):Ag z (ob (l[i.toNat]?) f):=by
 unfold jA at h;split at h
 ·rw[h];exact k
 ·cases h
def Ag.bJ{α β:Type}{l:List α}{i:Int}{v:α}{f:α→Option β}{z:Option β}(h:l[i.toNat]?=some v)(k:Ag z (f v)):Ag z (ob (jA l i) f):=by
 unfold jA;split
 ·rw[h];exact k
 ·exact .nr
def Ag.jBl{α:Type}{z:Option α}{h:Bool→Option α}{f:(Bool→Option α)→Option α}(a:Ag (f h) z):Ag (aA h f) z:=a
def Ag.jBr{α:Type}{z:Option α}{h:Bool→Option α}{f:(Bool→Option α)→Option α}(a:Ag z (f h)):Ag z (aA h f):=a
def Pc{α:Type}(x:Option α)(Q:α→Prop):Prop:=∀r,x=some r→Q r
namespace Pc
variable {α β σ:Type} {x y:Option α} {d:Bool} {Q:α→Prop}
def n:Pc (none:Option α) Q:=λ_ h=>nomatch h
def s{v:α}(h:Q v):Pc (some v) Q:=λ_ k=>Option.some.inj k▸h
def b{f:α→Option β}{P:β→Prop}(k:∀v,x=some v→Pc (f v) P):Pc (x.bind f) P:=by
 cases x with
 | none=>exact n
 | some v=>exact k v rfl
def p{q:Prop}{v:α}{f:α→Option β}{P:β→Prop}(k:q→Pc (f v) P):Pc (ob (pt q v) f) P:=by
 unfold pt
 by_cases h:q
 ·rw[if_pos h];exact k h
 ·rw[if_neg h];exact n
def g(h:d=true→Pc x Q):Pc (cond d x none) Q:=by
 cases d
 ·exact n
 ·exact h rfl
def c(h:d=true→Pc x Q)(k:d=false→Pc y Q):Pc (cond d x y) Q:=by
 cases d
 ·exact k rfl
 ·exact h rfl
def j{h:σ→Option α}{f:(σ→Option α)→Option α}(a:Pc (f h) Q):Pc (aA h f) Q:=a
def l(I:σ→Prop){f:σ→(σ→Option α)→Option α}{x0:σ}(h0:I x0)(e:∀x k,I x→(∀y,I y→Pc (k y) Q)→Pc (f x k) Q):∀n,Pc (uA n f x0) Q:=by
 intro n;induction n generalizing x0 with
 | zero=>exact Pc.n
 | succ n ih=>exact e _ _ h0 λ_ h=>ih h
def of{r:α}(h:Pc x Q)(k:x=some r):Q r:=h r k
end Pc
def mB:=@Ag.pl
def iC:=@Ag.pr
def vD:=@Ag.gl
def MB:=@Ag.gr
def iB:=@Ag.cc
def VL:=@Ag.ll
def HC:=@Ag.jj
def zg2:=@Ag.jl
def dN:=@Ag.jbl
def zwV:=@Ag.jbr
def iD:=@Ag.bl
def mC:=@Ag.cl
def VG:=@Ag.jr
def zE:=@Ag.br
def iG:=@Ag.cr
def ZE:=@Ag.jBl
def cF:=@Ag.jBr
def lG:=@Pc.p
def nH:=@Pc.j
def zaB:=@Pc.g
def YF:=@Pc.c
def NI:=@Pc.b
end Go.D
namespace Go.D
structure QK(a0:Aa)(l:List Al)(w:Aa):Prop where
 ok:NA w=true
 notes:∃m,w.Notes=a0.Notes++m
 seen:w.Seen=a0.Seen
 sz:wt w≤wt a0+120000
 wl:wt l≤1000
 wires:∀x∈l,tD x=true
def evp{a0 w:Aa}{l:List Al}{m:List Ad}(h:NA w=true)(e:w.Notes=a0.Notes++m)(hm:m.length≤10)(hs:w.Seen=a0.Seen)(hl:wt l≤1000)(hw:∀x∈l,tD x=true):QK a0 l w:=by
 refine⟨h,⟨m,e⟩,hs,?_,hl,hw⟩;have h1:=XO h;have h2:=eE (sE.1 (e▸(UB.1 h).notes)).2;have h3:wt a0.Notes≤wt a0:=by simp only[cG];omega
 have h4:wt w.Notes=wt a0.Notes+wt m:=by rw[e];simp only[N]
 omega
def zxh{w:Aa}{d:Ar}{ns:List Ad}(h:NA w=true)(h1:YB d=true)(h4:WB ns):NA ⟨w.Now,w.Clients,w.S,d,w.Seen,w.Known,w.Notes++ns⟩=true:=by
 have p:=UB.1 h;exact UB.2 ⟨p.now,p.cl,p.srv,p.psl,h1,p.seen,p.kl,p.ci,p.kn,sE.2 ⟨p.notes,h4⟩⟩
def zmu{a:Int}(h:0≤a):0≤xA .i64 a 2∧xA .i64 a 2<2:=zI h (by omega)
def znS{a0 a1}(ha:NA a0=true)(hn:wt a0≤400000000)(he:xG a1=true):Ok (Jm a0 a1) λr=>QK a0 r.2.1 r.1:=by
 unfold Jm;have hL:=yB;have he:=sO he;have hd:=zmu he.2.2.1;have W:=UB.1 ha;have hc:=W.cl;have hN:wt a0.Notes≤wt a0:=by simp only[cG];omega
 refine .h (by simp only[B];omega) (.bg (by omega) λe1 pY m7=>?_);have hk:=(W.ci _ _ pY).1;let Q:List Ab→List Ad→Aa→Ae→Prop:=λf n w c=>f.length≤1∧wt f≤400∧WB n∧n.length≤4∧NA w=true∧w.Clients=a0.Clients∧w.Seen=a0.Seen∧(∃m,w.Notes=a0.Notes++m∧m.length≤1)∧fB c=true∧c.Id=e1.Id∧c.Psk=e1.Psk;have q0:∃m,a0.Notes=a0.Notes++m∧m.length≤1:=⟨[],(List.append_nil _).symm,by decide⟩
 refine .j (λy2:(List Ab)×(List Ad)×Int×Aa×Ae=>Q y2.1 y2.2.1 y2.2.2.2.1 y2.2.2.2.2) (λy2 lW=>?_) λk3 CV=> .c (λh1=>?_) λh1=> .j (λy7:(List Ab)×(List Ad)×Int×Ae=>Q y7.1 y7.2.1 a0 y7.2.2.2) (λy7 MY=>CV _ MY)
  λk8 eW=> .c (λh2=> .b (zaE hk (by omega)) λr9 ⟨p1,p2,p3,p4,p5⟩=>eW _ ⟨p5.1,p5.2,p3,p4,ha,rfl,rfl,q0,p1,p2.1,p2.2.1⟩)
  λh2=> .j (λy7:(List Ab)×(List Ad)×Int×Ae=>Q y7.1 y7.2.1 a0 y7.2.2.2) (λy10 VX=>eW _ VX)
  λk11 cW=> .c (λh3=> .b (zej hk) λr12 ⟨p1,p2,p3,p4,p5⟩=>cW _ ⟨p5.1,p5.2,p3,p4,ha,rfl,rfl,q0,p1,p2.1,p2.2.1⟩)
  λh3=> .j (λy13:(List Ad)×Int×Ae=>Q [] y13.1 a0 y13.2.2) (λy13 CY=>cW _ CY)
  λk14 GV=> .c (λh4=> .b (ziT hk) λr16 WX=>GV _ ⟨Nat.zero_le _,Nat.zero_le _,rC,Nat.zero_le _,ha,rfl,rfl,q0,WX.1,WX.2⟩)
  λh4=> .j (λy13:(List Ad)×Int×Ae=>Q [] y13.1 a0 y13.2.2) (λy17 D1=>GV _ D1)
  λk18 eX=> .c (λh5=> .jt (λy19=> .b (ze1 hk) λr21 ⟨p1,p2,p3,p4⟩=>eX _ ⟨Nat.zero_le _,Nat.zero_le _,p3,(by show r21.2.length≤4;omega),ha,rfl,rfl,q0,p1,p2.1,p2.2.1⟩)
  λk20 GY=> .c (λ_=>GY _)
  λ_=>GY _)
  λh5=>eX _ ⟨Nat.zero_le _,Nat.zero_le _,rC,Nat.zero_le _,ha,rfl,rfl,q0,hk,rfl,rfl⟩
 ·obtain⟨p1,p2,p3,p4,p5,p6,p7,⟨m,p8,p8'⟩,p9,p10,p11⟩:=lW;have D9:=eE p3;have hw5:=(eE (sE.1 (p8▸(UB.1 p5).notes)).2);have h5:wt y2.2.2.2.1.Notes=wt a0.Notes+wt m:=by rw[p8];simp only[N]
  have A9:=RD p9;refine .h (by simp only[B,p6];omega) (.bg (by rw[p6];omega) λe22 KZ P3=> .g (by omega) (.b (zaG (by have:=A9.1;omega) (by omega)) λr24 UX=> .s ?_));rw[p6]at KZ;cases pY.symm.trans KZ;refine evp (m:=m++y2.2.1) (zb9 p5 (by rw[p6];exact pY) p9 p10 p11 p3) (by show y2.2.2.2.1.Notes++y2.2.1=_;rw[p8,List.append_assoc]) (by rw[List.length_append];omega) p7 (by have:=UX.1;show wt r24≤1000;omega) λx hx=>((UX.2 (zdO p9)).1 x hx).1
 ·have hr:=SH a0.D;have hds:=W.dice;have hw:=zcm (uC a0.D).2;have ho:=@zbI (uC a0.D).2 (by omega);have hD:wt a0.D≤wt a0:=by simp only[cG];omega
  have h6:wt [VE (uC a0.D).2]≤200:=by simp only[N]at hw⊢;omega
  refine .m (nA (by omega)) (.m (nA (by simp only[N];omega)) (.g (by omega) (.b (ze5 hk (by omega)) λr6 ⟨p1,p2,p3,p4,p5⟩=>CV _ ⟨p5.1,p5.2,p3,p4,zxh ha (hr.2.2.1 hds) (lD.2 ⟨ho,rC⟩),rfl,rfl,⟨[_],rfl,Nat.le_refl _⟩,p1,p2.1,p2.2.1⟩)))
def znR{a0 a1}(ha:NA a0=true)(hn:wt a0≤400000000)(he:xG a1=true):Ok (Jr a0 a1) λr=>QK a0 r.2.1 r.1:=by
 unfold Jr;have hL:=yB;have he:=sO he;have W:=UB.1 ha;have hN:wt a0.Notes≤wt a0:=by simp only[cG];omega
 have hB:wt a1.B≤300000:=by simp only[N];omega
 let Q:List Ad→Aa→Prop:=λn w=>WB n∧n.length≤4∧∃s,w=⟨a0.Now,a0.Clients,s,a0.D,a0.Seen,a0.Known,a0.Notes⟩∧wB s=true∧s.Psks=a0.S.Psks
 refine .j (λy1:(List Aq)×(List Ad)×Bool×Aa=>CE y1.1∧(y1.1.length≤1∧wt y1.1≤400)∧Q y1.2.1 y1.2.2.2) (λy1 XV=>?_)
  λk2 BV=> .c (λh1=> .b (zek W.srv hB) λr3 ⟨p1,p2,p3,p4,p5,p6⟩=>BV _ ⟨p3,p4,p5,Nat.le_trans p6 (by decide),_,rfl,p1,p2⟩)
  λh1=> .j (λy4:(List Ad)×Bool×Aa=>Q y4.1 y4.2.2) (λy4 TZ=>BV _ ⟨iH,⟨Nat.zero_le _,Nat.zero_le _⟩,TZ⟩)
  λk5 BW=> .c (λh2=> .b (ziP W.srv) λr6 ⟨p1,p2,p3,p4⟩=>BW _ ⟨p3,Nat.le_trans p4 (by decide),_,rfl,p1,p2⟩)
  λh2=> .j (λy4:(List Ad)×Bool×Aa=>Q y4.1 y4.2.2) (λy7 MY=>BW _ MY)
  λk8 eW=> .c (λh3=> .b (zhH W.srv) λr9 ⟨p1,p2,p3,p4⟩=>eW _ ⟨p3,Nat.le_trans p4 (by decide),_,rfl,p1,p2⟩)
  λh3=>eW _ ⟨rC,Nat.zero_le _,_,rfl,W.srv,rfl⟩
 obtain⟨q1,q2,q3,q4,s,q5,q6,q7⟩:=XV;have D9:=eE q3;have h5:wt y1.2.2.2.Notes=wt a0.Notes:=by rw[q5]
 refine .g (by omega) (.b (zeB (by omega) q1) λr10 tW=> .s ?_);rw[q5];show QK a0 r10 ⟨a0.Now,a0.Clients,s,a0.D,a0.Seen,a0.Known,a0.Notes++y1.2.1⟩
 exact evp (m:=y1.2.1) (zfy ha q6 q7 q3) rfl (by omega) rfl (by have:=tW.1;omega) λx hx=>(tW.2 x hx).1
def zoz{a0 a1}(ha:NA a0=true)(hn:wt a0≤400000000)(he:xG a1=true):Ok (Js a0 a1) λr=>r.2=true→QK a0 [] r.1:=by
 unfold Js;have hL:=yB;have he:=sO he;have hd:=zmu he.2.2.1;have W:=UB.1 ha;have hc:=W.cl;have F:=tL ha;simp only[pP]at F;have hN:wt a0.Notes≤wt a0:=by simp only[cG];omega
 refine .j (λy1:Aa×Aj=>rB y1.2=true) (λy1 XV=>have XV:=SC XV; .b (zpX (by omega)) λr8 RW=> .g (by omega) (.m (nA (by simp only[N]at XV⊢;omega)) (.g (by simp only[N]at XV⊢;omega) (.s λhk=>?_))))
  λk2 BV=> .c (λh1=> .h (by simp only[B];omega) (.bg (by omega) λe3 d5 O2=> .c (λh2=> .s nofun)
  λh2=>BV _ (zmw (zK ha (List.mem_of_getElem? d5)) (.inr (by simpa using h2))).1))
  λh1=> .j (λy4:Bool=>y4=false→(0≤a1.I∧a1.I<(a0.S.T.L.length:Int))∧∀e,a0.S.T.L[a1.I.toNat]?=some e→e.Dead=false) (λy4 TZ=> .c (λh3=> .s nofun)
  λh3=>have i4:=TZ h3; .h (by simp only[B];omega) (.bg (by omega) λe7 UZ yY=>BV _ (have hs:=(JE.1 (nE.1 W.srv).tab).el _ (List.mem_of_getElem? UZ);have hd:=i4.2 _ UZ;by show rB e7.C=true;grind [TB])))
  λk5 BW=> .c (λ_=>BW _ nofun)
  λh5=> .h (by simp only[B]at h5⊢;omega) (.bg (by simp only[B]at h5;omega) λe6 jY kX=>BW _ λq6=>⟨by simp only[B]at h5;omega,λe he=>by cases jY.symm.trans he;exact q6⟩)
 simp only[B,List.length_append]at hk;refine evp (m:=[_]) (zu1 ha RW.2 (by omega) (lD.2 ⟨?_,rC⟩)) rfl (by simp) rfl (Nat.zero_le _) λx hx=>nomatch hx
 grind [gC,RC,ND,eA,EA]
def zsN{a0:Aa}{a1:Int}{a2:Af}{a3:List UInt8}:Pc (Be a0 a1 a2 a3) λr=>r.1.Seen=a0.Seen:=by
 unfold Be
 ((try simp only[kA,pE]);repeat' (first|(with_reducible first|intro _|apply lG|apply nH|apply zaB|apply YF|apply NI)|(refine .s ?_;trivial)))
def zc9{a0:Aa}{a1:Int}{a2:Af}{a3:List UInt8}(ha:NA a0=true)(hn:wt a0≤400000000)(h0:0≤a1)(h2:a1≤2)(hb:wt a3≤900000000):Ok (Be a0 a1 a2 a3) λr=>QK a0 r.2 r.1:=by
 obtain⟨r,h,p1,p2,p3,p4,p5,p6,_,_⟩:=@zi6 a0 a1 a2 a3 (by omega) hb;refine⟨r,h,p1 ha,p2,zsN r h,by omega,p4,λx hx=>?_⟩
 by_cases e:a1=0
 ·exact(p5 ha e x hx).1
 ·have hc:=(UB.1 ha).cl;have e1:oA .i64 a1 1=a1 - 1:=RA (by omega) (by omega);exact((p6 ha _ e (List.getElem?_eq_getElem (by rw[e1];omega))).1 x hx).1
def zn0{a0 a1}(ha:NA a0=true)(hn:wt a0≤400000000)(he:xG a1=true)(hw:wt a1≤300000):Ok (Jq a0 a1) λr=>r.2.2=true→QK a0 r.2.1 r.1:=by
 unfold Jq;have hL:=yB;have he:=sO he;have W:=UB.1 ha;have F:=tL ha;have hF:=F;simp only[pP]at F;have hl:=W.cl;have uZ:=QB a0.Seen;have hj:0≤xA .i64 a1.J 3∧xA .i64 a1.J 3<3:=zI (by omega) (by omega);have hO:wt a1.Ops≤300000:=by simp only[N]at hw⊢;omega
 refine .c (λh1=> .b (zeW hO (by omega) (by omega)) λr1 LV=> .b (zc9 ha hn hj.1 (by omega) (by simp only[N];omega)) λr3 sW=> .s λ_=>sW)
  λh1=> .c (λh2=> .s nofun)
  λh2=>?_
 have hs:0<(a0.Seen.length:Int):=by simp only[B]at h2;omega
 have hd3:=zI (a:=a1.I) (n:=(a0.Seen.length:Int)) (by omega) hs;refine .n h2 (.bi hd3.1 hd3.2 λe4 YY zY=> .b (TU (by omega) hF.2.2.2.2.2.1) λr5 MV=>?_);have hb:e4.B.length≤20000:=by simp only[N]at zY F;omega
 refine .m (nA (by simp only[N];omega)) (.j (λy7:Int×Af×Aa×(List UInt8)=>y7.2.2.2.length≤500000∧y7.1≤2) (λy7 MY=> .c (λh3=> .s nofun)
  λh3=> .b (zc9 ha hn (by simp only[B]at h3;omega) MY.2 (by have:=MY.1;simp only[N];omega)) λr18 xY=> .s λ_=>xY)
  λk8 eW=> .c (λh4=>eW _ ⟨by show e4.B.length≤_;omega,by show(0:Int)≤2;omega⟩)
  λh4=> .j (λy10:Int×Aa×(List UInt8)=>y10.2.2.length≤500000∧y10.1≤2) (λy10 VX=>eW _ VX)
  λk11 cW=> .c (λh5=>cW _ ⟨by show e4.B.length≤_;omega,by show xA .i64 a1.J 3≤2;omega⟩)
  λh5=> .j (λy12:Aa×(List UInt8)=>y12.2.length≤500000) (λy12 wY=>cW _ ⟨wY,MV.2⟩)
  λk13 TV=> .c (λh6=> .c (λh7=> .s nofun) λh7=>?_)
  λh6=>TV _ (by show e4.B.length≤_;omega))
 have hd4:=zI (a:=a1.N) (n:=(e4.B.length:Int)) (by omega) (by simp only[B]at h7;omega);refine .n h7 (.h (by simp only[B];omega) (.bg (by omega) λe14 P0 sZ=> .h (by simp only[B];omega) (.bg (by omega) λe16 b5 O3=>TV _ (by show(List.set e4.B _ _).length≤_;rw[List.length_set];omega))))
def zis{a0 a1}(ha:NA a0=true)(hw:wt a0≤500000000)(hb:wt a1≤1000):Ok (Bg a0 a1) λr=>NA r=true∧∃m,r=⟨a0.Now,a0.Clients,a0.S,a0.D,a0.Seen++m,a0.Known,a0.Notes⟩:=by
 unfold Bg;have hL:=yB;have hw1:=QB a1;let Q:Aa→Prop:=λr=>NA r=true∧∃m,r=⟨a0.Now,a0.Clients,a0.S,a0.D,a0.Seen++m,a0.Known,a0.Notes⟩
 refine .cp (by omega) (.j Q (λy2 lW=> .s lW)
  λk3 CV=> .l (λx4:Int×Aa=>(0≤x4.1∧x4.1≤(a1.length:Int))∧Q x4.2) (λx4:Int×Aa=>((a1.length:Int) - x4.1).toNat) (λx4 ⟨hx,nZ,m,aY⟩ k5 BW=> .c (λh1=> .bi hx.1 (by simpa using h1) λe6 jY kX=> .b (zrO (by have:=(zci (UB.1 nZ).seen).1;omega) (by omega)) λr7 IW=>?_)
  λh1=>CV _ ⟨nZ,m,aY⟩) ⟨⟨by show(0:Int)≤0;omega,by show(0:Int)≤_;omega⟩,ha,[],by simp⟩ (by simp only;omega))
 have h1:x4.1<(a1.length:Int):=by simpa using h1
 have e1:fA .i64 x4.1 1=x4.1+1:=DA (by omega) (by omega);refine BW _ ⟨⟨by simp only[e1];omega,by simp only[e1];omega⟩,?_⟩ (by simp only[e1];omega)
 rcases IW with h|⟨h,h'⟩
 ·rw[h];exact⟨nZ,m,aY⟩
 ·exact⟨zvM nZ h',m++[e6],by rw[h,aY,List.append_assoc]⟩
end Go.D
namespace Go.D
def ztw{a0:Aa}:Pc (Ds a0) λr=>r.1.Seen=a0.Seen:=by
 unfold Ds
 (try simp only[kA,pE])
 repeat' (first|(with_reducible first|exact Pc.n|refine Pc.p λ_=>?_|refine Pc.j ?_|refine Pc.g λ_=>?_|refine Pc.c (λ_=>?_) λ_=>?_|refine Pc.b λ_ _=>?_)|exact .s rfl|exact .s ‹_› | (refine Pc.l (λx=>x.2.2.Seen=a0.Seen) rfl (λx k hx hk=>?_) _)|exact hk _ hx|dsimp only)
def ztZ{w:Aa}{d:Ar}(h:NA w=true)(h1:YB d=true):NA ⟨w.Now,w.Clients,⟨w.S.Psks,w.S.J,d,w.S.T,w.S.Cr⟩,w.D,w.Seen,w.Known,w.Notes⟩=true:=by
 have p:=UB.1 h;have S:=nE.1 p.srv;exact UB.2 ⟨p.now,p.cl,VH (d:=⟨w.S.Psks,w.S.J,d,w.S.T,w.S.Cr⟩) p.srv rfl S.jar h1 S.tab S.cr S.id,p.psl,p.dice,p.seen,p.kl,p.ci,p.kn,p.notes⟩
def zli{a0:Aa}(ha:NA a0=true)(hn:wt a0≤400000000):Ok (Ds a0) λr=>QK a0 r.2 r.1:=by
 obtain⟨r,h,p1,p2,p3,p4,p5,_⟩:=@zpn a0 (by omega);exact⟨r,h,p1 ha,p2,ztw r h,by omega,p4,λx hx=>(p5 ha x hx).1⟩
structure DoP(a0:Aa)(a1:Am)(r:Aa×Bool):Prop where
 no:r.2=false→r.1=a0
 yes:r.2=true→NA a0=true∧a0.Notes.length≤500∧xG a1=true∧NA r.1=true∧(∃m,r.1.Notes=a0.Notes++m)∧(∃m,r.1.Seen=a0.Seen++m)
 sz:wt r.1≤wt a0+140000
def zl3{a0:Aa}{a1:Am}:DoP a0 a1 (a0,false):=⟨λ_=>rfl,nofun,Nat.le_add_right _ _⟩
def zpf{a0 a1}(hn:wt a0≤4000000000)(hw:wt a1≤300000):Ok (Iv a0 a1) (DoP a0 a1):=by
 unfold Iv;have hL:=yB;let Q:List Al→Bool→Aa→Prop:=λl b w=>b=true→QK a0 l w;refine .j (λy1:Bool=>y1=false→NA a0=true∧xG a1=true∧a0.Notes.length≤500) (λy1 XV=> .c (λh1=> .cp (by omega) (.s zl3)) λh1=>?_) λk2 BV=> .m (nA (by omega)) (.c (λ_=>BV _ nofun) λh2=> .c (λ_=>BV _ nofun) λh3=>BV _ λh4=>⟨nf h2,nf h3,by simp only[B]at h4;omega⟩);obtain⟨ha,he,hN⟩:=XV h1;have F:=tL ha;have hn:wt a0≤300000000:=by have:=XO ha;have:=eE (UB.1 ha).notes;omega
 simp only[pP]at F
 refine .jt (λy5=> .j (λy13:(List Al)×Bool×Aa=>Q y13.1 y13.2.1 y13.2.2) (λy13 CY=> .c (λh3=> .cp (by omega) (.s zl3)) λh3=>?_)
  λk14 GV=> .c (λh4=> .cp (by omega) (.b (znS ha (by omega) he) λr16 WX=>GV _ λ_=>WX))
  λh4=> .jt (λy17=> .j (λy13:(List Al)×Bool×Aa=>Q y13.1 y13.2.1 y13.2.2) (λy25 hy25=>GV _ hy25)
  λk26 E1=> .c (λh5=> .b (zn0 ha (by omega) he hw) λr27 bZ=>E1 _ bZ)
  λh5=> .jt (λy28=> .j (λy13:(List Al)×Bool×Aa=>Q y13.1 y13.2.1 y13.2.2) (λy32 v7=>E1 _ v7)
  λk33 AY=> .c (λh6=> .cp (by omega) (.b (znR ha (by omega) he) λr35 E7=>AY _ λ_=>E7))
  λh6=> .jt (λy36=> .j (λy13:(List Al)×Bool×Aa=>Q y13.1 y13.2.1 y13.2.2) (λy38 z8=>AY _ z8)
  λk39 C1=> .c (λh7=> .cp (by omega) (.b (zoz ha (by omega) he) λr41 R2=>C1 _ R2))
  λh7=> .j (λy13:(List Al)×Bool×Aa=>Q y13.1 y13.2.1 y13.2.2) (λy42 Q2=>C1 _ Q2)
  λk43 LX=> .c (λh8=> .b (zli ha (by omega)) λr44 z5=>LX _ λ_=>z5)
  λh8=> .j (λy45:Bool×Aa=>Q [] y45.1 y45.2) (λy45 hy45=>LX _ hy45)
  λk46 H8=> .c (λh9=> .cp (by omega) (.j (λy48:Aa=>QK a0 [] y48) (λy48 hy48=>H8 _ λ_=>hy48)
  λk49 A1=> .c (λgW=> .b (zi5 (by simp only[N];omega)) λr50 hr50=>A1 _ ?_)
  λgW=> .b (zi5 (by have:=F.2.1;simp only[N]at this⊢;omega)) λr51 A8=>A1 _ ?_))
  λh9=>H8 _ nofun)
  λk37 I8=> .c (λ_=>I8 _)
  λ_=>I8 _)
  λk29 B1=> .c (λ_=>B1 _)
  λFW=> .jt (λy30=>B1 _)
  λk31 J8=> .c (λ_=>J8 _)
  λ_=>J8 _)
  λk18 eX=> .c (λ_=>eX _)
  λXX=> .jt (λy19=>eX _)
  λk20 GY=> .c (λ_=>GY _)
  λlY=> .jt (λy21=>GY _)
  λk22 JX=> .c (λ_=>JX _)
  λqY=> .jt (λy23=>JX _)
  λk24 LW=> .c (λ_=>LW _)
  λ_=>LW _)
  λk6 pW=> .c (λ_=>pW _)
  λJ1=> .jt (λy7=>pW _)
  λk8 eW=> .c (λ_=>eW _)
  λwZ=> .jt (λy9=>eW _)
  λk10 IV=> .c (λ_=>IV _)
  λxZ=> .jt (λy11=>IV _)
  λk12 kW=> .c (λ_=>kW _)
  λ_=>kW _
 ·have E:=CY (nf h3);refine .b (zis E.ok (by have:=E.sz;omega) E.wl) λr53 ⟨q1,m,q2⟩=> .s ⟨nofun,λ_=>⟨ha,hN,he,q1,?_,?_⟩,?_⟩
  ·obtain⟨m2,hm⟩:=E.notes;exact⟨m2,by show r53.Notes=_;rw[q2];exact hm⟩
  ·exact⟨m,by show r53.Seen=_;rw[q2, ←E.seen]⟩
  ·have h5:=E.sz;have h6:=(zci (UB.1 q1).seen).1;have h7:wt r53+wt y13.2.2.Seen=wt y13.2.2+wt r53.Seen:=by rw[q2];simp only[cG];omega
   show wt r53≤_
   omega
 ·exact evp (m:=[]) (zvo ha (hr50.1 (UB.1 ha).dice)) (List.append_nil _).symm (Nat.zero_le _) rfl (Nat.zero_le _) λx hx=>nomatch hx
 ·exact evp (m:=[]) (ztZ ha (A8.1 (nE.1 (UB.1 ha).srv).dice)) (List.append_nil _).symm (Nat.zero_le _) rfl (Nat.zero_le _) λx hx=>nomatch hx
end Go.D
namespace Go.D
theorem zhD{c:Ae}(h:fB c=true):jC c.Id c.Psk c.At=⟨c.Id,c.Psk,c.At,0,[],⟨0,0,[],[],0,[],[],0,0,[],[]⟩,⟨0,[],⟨0,[],0,⟨0,[]⟩⟩,⟨0,[],0,⟨0,[]⟩⟩,false,0,[]⟩,⟨false,0,0,0⟩,⟨false,0,0,0⟩,0⟩:=by
 unfold fB at h;simp only[Bool.and_eq_true]at h;unfold jC;rw[h.1.1.1,h.1.1.2,h.1.2];rfl
theorem zfp{a0 a1:List UInt8}{a2:Int}{r:List UInt8}(h:Er a0 a1 a2=some r)(h0:¬a1.length>100)(h1:0≤a2)(h2:¬a2>200)(h3:¬a0.length>1048576):(r.length:Int)=a2:=by
 obtain⟨s,hs,_,hl⟩:=zeK (a0:=a0) (a1:=a1) (a2:=a2) (by rw[FA];omega);rw[h]at hs;cases hs;exact hl (by omega)
theorem zgV(k:IntKind)(a b:Int):AB k a b=AB k b a:=by unfold AB;rw[BitVec.xor_comm]
theorem zfd{a0:Int}{a1:List UInt8}{a2 a3:Int}{r:List UInt8}(h:Cm a0 a1 a2 a3=some r):(r.length=0↔¬(eA a0 0 1=true∧a1.length=12∧eA a2 0 4294967295=true∧eA a3 0 281474976710655=true)):=by
 revert h;refine(?_:Pc _ (λr:List UInt8=>(r.length=0↔¬(eA a0 0 1=true∧a1.length=12∧eA a2 0 4294967295=true∧eA a3 0 281474976710655=true)))) r
 unfold Cm;((try simp only[JB]);repeat' (first|(with_reducible first|intro _|apply lG|apply nH|apply zaB|apply YF)|(refine .s ?_;first|trivial|grind [mA,GA,eA,gG])))
theorem zlI{a0:List UInt8}{a1:Int}{a2:List UInt8}{a3 a4 a5:Int}{a6:List UInt8}{r:Ab×Bool}(h:Cj a0 a1 a2 a3 a4 a5 a6=some r):(r.2=true↔a0.length=32∧GA a1=true∧nB a5=true∧a2.length=12∧eA a3 0 4294967295=true∧eA a4 0 281474976710655=true∧tE a5 (a6.length:Int)=true)∧(r.2=true→r.1.Sn=a2∧r.1.Epoch=a3∧r.1.Seq=a4):=by
 revert h;refine(?_:Pc _ (λr:Ab×Bool=>(r.2=true↔a0.length=32∧GA a1=true∧nB a5=true∧a2.length=12∧eA a3 0 4294967295=true∧eA a4 0 281474976710655=true∧tE a5 (a6.length:Int)=true)∧(r.2=true→r.1.Sn=a2∧r.1.Epoch=a3∧r.1.Seq=a4))) r
 unfold Cj;((try simp only[yA,QC]);repeat' (first|(with_reducible first|intro _|apply lG|apply nH|apply YF|apply NI)|(refine .s ?_;first|trivial|grind [mA,GA,eA,TA])))
theorem zj8{a0:Av}{a1:Int}{a2:List UInt8}{a3:Int}{a4:List UInt8}{r:Av×Ab×Int}(h:Ck a0 a1 a2 a3 a4=some r):(r.2.2≠0→r.1=a0)∧(r.2.2=0→r.2.1.Sn=a2∧r.2.1.Epoch=a0.N∧r.2.1.Seq=a0.Seq):=by
 revert h;refine(?_:Pc _ (λr:Av×Ab×Int=>(r.2.2≠0→r.1=a0)∧(r.2.2=0→r.2.1.Sn=a2∧r.2.1.Epoch=a0.N∧r.2.1.Seq=a0.Seq))) r
 unfold Ck;((try simp only[kA]);repeat' (first|(with_reducible first|intro _|apply lG|apply nH|apply YF|apply NI)|(refine .s ?_;first|trivial|grind [mA,GA,eA, →zlI,cC])))
theorem ze9{a0:Aj}{a1:Int}{a2:List UInt8}{r:Aj×Ab×Int}(h:Bh a0 a1 a2=some r):(r.2.2≠0→r.1=a0)∧(r.2.2=0→r.2.1.Sn=a0.Sn∧r.2.1.Epoch=a0.Cur.N∧r.2.1.Seq=a0.Cur.Seq):=by
 revert h;refine(?_:Pc _ (λr:Aj×Ab×Int=>(r.2.2≠0→r.1=a0)∧(r.2.2=0→r.2.1.Sn=a0.Sn∧r.2.1.Epoch=a0.Cur.N∧r.2.1.Seq=a0.Cur.Seq))) r
 unfold Bh;cases a0;((try simp only[kA,lC]);repeat' (first|(with_reducible first|intro _|apply lG|apply YF|apply NI)|(refine .s ?_;grind [mA,GA,eA, →zj8])))
theorem zk8(b:List UInt8)(n k:Int):xD b n k=b++xD [] n k:=by
 unfold xD;cases decide (k<1)||decide (k>6)<;>simp
def zgH{a b c d e f g:List UInt8}:aD [a,b,c,d,e,f,g]=pt (wt [a,b,c,d,e,f,g]≤bA) (a++b++c++d++e++f++g):=by unfold aD;simp
theorem ziI{a0:Au}{a1:Int}{r:Au×Int}(h:Fk a0 a1=some r):r.2=0→r.1=a0:=by
 revert h;refine(?_:Pc _ (λr:Au×Int=>r.2=0→r.1=a0)) r
 unfold Fk;((try simp only);repeat' (first|(with_reducible first|intro _|apply YF|apply NI)|(refine .s ?_;grind [mA,GA,eA])))
end Go.D
namespace Go.D
def zcd{a0 a1}:Ag (Cs a0 a1) (By a0 a1):=by
 unfold Cs By Hq;have h1:=@RA a0.Top 1024;have h2:=@DA (oA .i64 a0.Top 1024) 1;((try simp only[VF,bc,bs]);repeat' (first|(with_reducible first|intro _|apply ZE|apply cF|exact .r0|apply mB|apply iC|apply iB)|(with_reducible refine Ag.cr (λ_=>?_) (λ_=>?_)<;>try (exfalso;grind (splits:=3) [mA,GA,eA,IC];done))|with_reducible apply mC|(refine .s ?_;grind [mA,GA,eA,jC,oC,List.length_eq_zero_iff,IC])))
instance{a0:Ap}{a1:Int}:LA (By a0 a1) (Cs a0 a1):=⟨zcd⟩
def zjU{a0:Ap}{a1:Int}{r:Bool}(h:Cs a0 a1=some r):r=true→IC a0=true:=by
 revert h;refine(?_:Pc _ (λr:Bool=>r=true→IC a0=true)) r
 unfold Cs;((try simp only[VF]);repeat' (first|(with_reducible first|intro _|apply lG|apply nH|apply YF)|(refine .s ?_;first|trivial|grind [mA,GA,eA])))
def zru{a0:Ap}{a1:Int}{r2:Bool}(h:IC a0=true)(hr:By a0 a1=some r2):Ok (Di a0 a1) λr=>r.2=EI a0 a1∧(r.2=false→r.1=a0)∧(r.2=true→SL a0 a1.toNat r.1):=by
 have hL:=yB;have hw:=zch.1 h;have hwt:wt a0=32:=by have:=hw.words.1;simp only[N];exact this
 unfold Di;refine Ok.same (nA (p:=wt a0≤bA) (by omega)) ?_;refine Ok.same hr ?_
 have jW:r2=EI a0 a1:=by
  obtain⟨q,hq,e⟩:=zeJ (a1:=a1) h;rw[←e];exact(zcd q r2 hq hr).symm
 rw[←jW];refine Ok.cond' (λe=>Ok.some' ⟨(by simpa using e:r2=false).symm,λ_=>rfl,nofun⟩) (λh'=>?_);simp only[B]at h';have ht:=hw.top
 have hm:True∧0≤a1∧a1≤281474976710655:=by
  rw[jW]at h';simp only[EI,Bool.and_eq_true,YA]at h';exact⟨trivial,h'.1⟩
 rw[h'];clear jW hr;obtain⟨n,rfl⟩:=Int.eq_ofNat_of_zero_le hm.2.1;have e1:=vT (n:=(n:Int)) (by omega);have e2:=sT (n:=(n:Int) % 1024) (by omega) (by omega);have e3:=NO (a:=(n:Int) % 1024) (b:=32) (by omega);rw[e1,e2,e3];have q1:((n:Int) % 1024 / 32).toNat=n % 1024 / 32:=by omega
 have q2:(n:Int) % 1024 % 32=((n % 1024 % 32:Nat):Int):=by omega
 refine Ok.join (λy:Ap=>OF y.Bits∧y.Top=a0.Top∧∀i,WC y i=true↔WC a0 i=true∧¬aI (a0.Top+1) ((n:Int)+1) i) (λy hy=>?_) (λk hk=>?_)
 ·obtain⟨w1,w2,w3⟩:=hy;obtain⟨m,m1,m2⟩:=w1.get (j:=n % 1024 / 32) (by omega);have hl:=w1.1;refine Ok.chk ?_ ?_
  ·simp only[B];omega
  rw[q1,m2,Option.bind_some];refine Ok.chkn ?_ ?_
  ·simp only[B];omega
  refine Ok.chk ?_ ?_
  ·simp only[B];omega
  rw[Option.bind_some,q2,(zal m1 (by omega)).1];refine Ok.join (λz:Ap=>SL a0 n z) (λz hz=>Ok.some' ⟨rfl,nofun,λ_=>hz⟩) (λk' vW=>?_)
  have key:∀t:Int,t=AE a0.Top (n:Int)→SL a0 n ⟨t,y.Bits.set (n % 1024 / 32) ((m|||2^(n % 1024 % 32):Nat):Int)⟩:=λt ht=>
   ⟨ht,w1.set _ (zal m1 (by omega)).2,λi=>by rw[zkK (w:=y) (t:=t) w1 m1 m2,Bool.or_eq_true,w3,zdk]⟩
  refine Ok.cond' (λh3=>vW _ (key _ ?_)) (λh3=>vW _ (key _ ?_))
  ·simp only[B]at h3;unfold AE;rw[if_pos h3]
  ·simp only[B]at h3;unfold AE;rw[if_neg h3,w2]
 ·refine Ok.loop (λx:Int×Int×Ap=>(0≤x.2.1∧x.2.1≤281474976710656∧0≤x.1∧x.1≤1024∧a0.Top+1+x.1=x.2.1∧(x.1=0∨x.2.1≤(n:Int)+1))∧OF x.2.2.Bits∧x.2.2.Top=a0.Top∧∀i,WC x.2.2 i=true↔WC a0 i=true∧¬aI (a0.Top+1) x.2.1 i)
   (λx=>(1025 - x.1).toNat) (λx hx k' vW=>?_) ?_ ?_
  ·obtain⟨x0,x1,x2,x3⟩:=hx;obtain⟨p,hp⟩:=Int.eq_ofNat_of_zero_le x0.1;have f1:=vT x0.1;have f2:=sT (n:=x.2.1 % 1024) (by omega) (by omega);have f3:=NO (a:=x.2.1 % 1024) (b:=32) (by omega);rw[f1,f2,f3];have p1:(x.2.1 % 1024 / 32).toNat=p % 1024 / 32:=by omega
   have p2:x.2.1 % 1024 % 32=((p % 1024 % 32:Nat):Int):=by omega
   refine Ok.join (λy:Bool=>(y=true→x.1<1024∧x.2.1≤(n:Int))∧(y=false→1024≤x.1∨(n:Int)<x.2.1)) (λy hy=>?_) (λk2 BV=>?_)
   ·refine Ok.cond' (λh=>?_) (λh=>hk _ ⟨x1,x2,λi=>?_⟩)
    ·have hy:=hy.1 h;obtain⟨m,m1,m2⟩:=x1.get (j:=p % 1024 / 32) (by omega);have hl:=x1.1;refine Ok.chk ?_ ?_
     ·simp only[B];omega
     rw[p1,m2,Option.bind_some];refine Ok.chkn ?_ ?_
     ·simp only[B];omega
     refine Ok.chk ?_ ?_
     ·simp only[B];omega
     rw[Option.bind_some,p2];obtain⟨c,c1,c2,c3⟩:=zjW (k:=p % 1024 % 32) m1 (by omega);rw[c1];have g1:=DA (a:=x.1) (b:=1) (by omega) (by omega);have g2:=DA (a:=x.2.1) (b:=1) (by omega) (by omega);refine vW _ ?_ ?_
     ·refine⟨by simp only;omega,x1.set _ c2,x2,λi=>?_⟩;show WC ⟨x.2.2.Top,_⟩ i=true↔_∧¬aI _ (fA .i64 x.2.1 1) i
      rw[g2,zj2 x1 m1 m2 c2 c3,Bool.and_eq_true,x3,zld (by omega),Bool.not_eq_true', ←Bool.not_eq_true,zdk,hp,not_or,and_assoc,eq_comm (a:=(i:Int) % 1024)]
     ·simp only;omega
    ·rw[x3]
     rcases hy.2 h with h|h
     ·exact⟨λk=>absurd (zlL (by omega)) k.2,λk=>absurd (zlL (by omega)) k.2⟩
     ·rcases x0.2.2.2.2.2 with e | e
      ·exact and_congr_right λ_=>not_congr ⟨λc=>absurd c (AO (by omega)),λc=>absurd c (AO (by omega))⟩
      ·rw[show x.2.1=(n:Int)+1 by omega]
   ·refine Ok.cond' (λh=>BV _ ⟨λq=>?_,λq=>?_⟩) (λh=>BV _ ⟨λq=>(nomatch q),λ_=>?_⟩)
    ·simp only[B]at h q;omega
    ·simp only[B]at h q;omega
    ·simp only[B]at h;omega
  ·have g:=DA (a:=a0.Top) (b:=1) (by have:=hw.top;omega) (by have:=hw.top;omega);have ht:=hw.top;exact⟨⟨by simp only;omega,by simp only;omega,Int.le_refl _,by show(0:Int)≤1024;decide,by simp only;omega, .inl rfl⟩,hw.words,rfl,λi=>⟨λh=>⟨h,AO (by show fA .i64 a0.Top 1≤_;omega)⟩,λh=>h.1⟩⟩
  ·simp only;omega
def zsT{a0 a1}:Ag (Ct a0 a1) (Di a0 a1):=by
 cases h:IC a0
 ·unfold Ct Di;refine .pl λ_=> .pr λ_=> .bd inferInstance λv hv _=> .cc (λ_=> .r0) λe=>?_;have:=zjU hv (by simpa using e);rw[h]at this;cases this
 ·cases hk:By a0 a1 with
  | none=>
   unfold Di;refine .pr λ_=>?_;rw[hk];exact .nr
  | some m=>
   obtain⟨r,hr,r1,r2,r3⟩:=zru h hk;obtain⟨q,hq,q1,q2,q3,_⟩:=za0 (a1:=a1) h;intro x y hx hy;cases hq.symm.trans hx;cases hr.symm.trans hy;obtain⟨u,b⟩:=r;obtain⟨v,c⟩:=q;have e:b=c:=r1.trans q1.symm;subst e;cases b
   ·rw[show u=a0 from r2 rfl,show v=a0 from q2 rfl]
   ·have:=(r3 rfl).same (q3 rfl);rw[show u=v from this]
theorem zrQ{a0:Ap}{a1:Int}{r:Ap×Bool}{m:Bool}(h:Ct a0 a1=some r)(k:By a0 a1=some m):r.2=m:=by
 cases e:IC a0
 ·unfold Ct at h
  revert h;refine(?_:Pc _ (λr:Ap×Bool=>r.2=m)) r
  refine .p λ_=> .b λv hv=> .c (λhn=> .s ?_) λhn=>?_
  ·rw[←zcd v m hv k];simpa using hn.symm
  ·have:=zjU hv (by simpa using hn);rw[e]at this;cases this
 ·obtain⟨q,hq,q1,_⟩:=za0 (a1:=a1) e;obtain⟨p,hp,e2⟩:=zeJ (a1:=a1) e;rw[←zcd p m hp k,e2];cases hq.symm.trans h;exact q1
end Go.D
namespace Go.D
def zja{a0 a1}:Ag (En a0 a1) (Cf a0 a1):=by
 unfold En Cf Cu;((try simp only[kA,ba,bx,GH]);repeat' ((with_reducible first|intro _|exact .r0|apply mB|apply iC|refine .bd inferInstance ?_|apply vD|apply MB|apply iB|apply VL|apply HC|(apply_assumption;done)|refine .bR ‹_› ?_)))
instance{a0:Ai}{a1:Int}:LA (Cf a0 a1) (En a0 a1):=⟨zja⟩
def zv4{p:Ai}{n:Int}(h:VB p=true)(k:eA n 0 1000000=true):Ag (Cu p n) (Cf p n):=λv w hv hw=>by
 refine zja v w ?_ hw;unfold En aA;rw[h,k,hv];rfl
def zvc{α:Type}{p:Ai}{a:Af}{z:Option α}{x y:Option α}{s0:Ai}{n:Nat}(hw:wt p≤bA)(h1:0≤uD p a→Ag z x)(h2:uD p a<0→Ag z y):Ag z (uA n (λ(x8:Int×Ai) k9=>
  cond (x8.1<(p.Cands.length:Int))
   (cond (0≤x8.1&&x8.1<(p.Cands.length:Int)) (Option.bind (p.Cands[x8.1.toNat]?) fun e10=>
    cond (cond (e10.A.Host==a.Host) (cond (e10.A.Port==a.Port) (true) false) false) x (k9 ((fA .i64 x8.1 1),x8.2))) none)
   y) (0,s0)):=by
 rcases zbe p a with⟨e,h⟩|⟨i,c,e,hi,hs⟩
 ·refine Ag.lI (λ_=>True) trivial (λx k _ hk=> .cr (λ_=> .gr λ_=> .br λc hc=> .cr (λhx=>?_) λ_=>hk _ trivial) λ_=>h2 (by omega)) n;rw[cS,h c (List.mem_of_getElem? hc)]at hx;cases hx
 ·refine Ag.lI (λx:Int×Ai=>0≤x.1∧x.1≤i) ⟨Int.le_refl _,by simp only;omega⟩ (λx k hx hk=> .cr (λ_=> .gr λhg=> .br λd hd=> .cr (λ_=>h1 (by omega)) λU6=>hk _ ?_) λaW=>?_) n
  ·by_cases he:x.1=(i:Int)
   ·rw[he,Int.toNat_natCast,hi]at hd;cases hd;rw[cS,hs]at U6;cases U6
   ·simp only;have:=(List.getElem?_eq_some_iff.1 hi).1;have hL:=yB;have:=QB p.Cands;rw[tK]at hw;rw[DA (by omega) (by omega)];omega
  ·have:=(List.getElem?_eq_some_iff.1 hi).1;simp only[B]at aW;omega
def zue{a0 a1 a2 a3}:Ag (Cv a0 a1 a2 a3) (Gb a0 a1 a2 a3):=by
 unfold Cv Gb;cases h1:VB a0
 ·((try simp only[kA,yA,NH,List.nil_append]);repeat' (first|(with_reducible first|intro _|apply ZE|apply cF|exact .r0|apply mB|apply vD|apply iB)|(with_reducible refine Ag.cr (λ_=>?_) (λ_=>?_)<;>try (exfalso;grind (splits:=3) [mA,GA,eA];done))|(with_reducible first|apply iD|apply mC|apply VG|apply zE)|(exfalso;grind [mA,GA,eA])))
 cases h2:eA a1 0 1000000
 ·((try simp only[kA,yA,NH,List.nil_append]);repeat' (first|(with_reducible first|intro _|apply ZE|apply cF|exact .r0|apply mB|apply vD|apply iB)|(with_reducible refine Ag.cr (λ_=>?_) (λ_=>?_)<;>try (exfalso;grind (splits:=3) [mA,GA,eA];done))|(with_reducible first|apply iD|apply mC|apply VG|apply zE)|(exfalso;grind [mA,GA,eA])))
 haveI:LA (Cf a0 a1) (Cu a0 a1):=⟨zv4 h1 h2⟩
 ((try simp only[kA,yA,NH,List.nil_append]);repeat' (first|(with_reducible first|intro _|apply ZE|apply cF|exact .r0|apply mB|apply iC|refine .bd inferInstance ?_|apply vD|apply iB)|(with_reducible refine Ag.cr (λ_=>?_) (λ_=>?_)<;>try (exfalso;grind (splits:=3) [mA,GA,eA];done))|(with_reducible first|apply iD|apply mC|apply VG|apply zE)|(refine .s ?_;grind [mA,GA,eA,jC,oC,List.length_eq_zero_iff])|(exfalso;grind [mA,GA,eA])|dsimp only[cond_true,cond_false]))
 all_goals (refine zvc ‹_› (λ_=>?_) (λ_=>?_)<;>(repeat' (first|(with_reducible first|intro _|exact .r0|apply iC|apply MB|refine .ct ‹_› ?_|refine .cf ‹_› ?_)|(with_reducible refine Ag.cr (λ_=>?_) (λ_=>?_)<;>try (exfalso;grind (splits:=3) [mA,GA,eA];done))|(refine .s ?_;grind [mA,GA,eA,jC,oC,List.length_eq_zero_iff]))))
def zu8{p:Ai}{a:Af}{i:Nat}{c:Aw}(h:VB p=true)(hi:p.Cands[i]?=some c)(hs:IA c.A a=true):FI p a=(c,true)∧p.Cands.filter (λe=>!IA e.A a)=p.Cands.take i++p.Cands.drop (i+1):=by
 have hp:=XJ.1 h;obtain⟨h1,rfl⟩:=List.getElem?_eq_some_iff.1 hi
 have sp:p.Cands=p.Cands.take i++p.Cands[i] :: p.Cands.drop (i+1):=by
  rw[←List.drop_eq_getElem_cons h1,List.take_append_drop]
 have h2:=hp.two;rw[sp]at h2;have h3:=List.pairwise_append.1 h2
 have FV:∀e∈p.Cands.take i,IA e.A a=false:=λe he=>by
  have:=h3.2.2 e he _ List.mem_cons_self;rwa [qL.1 hs]at this
 have hgt:∀e∈p.Cands.drop (i+1),IA e.A a=false:=λe he=>by
  have:=(List.pairwise_cons.1 h3.2.1).1 e he;rw[qL.1 hs,zfh]at this;exact this
 constructor
 ·have hf:p.Cands.find? (λe=>IA e.A a)=some p.Cands[i]:=by
   rw[List.find?_eq_some_iff_append];exact⟨hs,_,_,sp,λe he=>by rw[FV e he];rfl⟩
  unfold FI;rw[h,hf];rfl
 ·conv=>lhs;rw[sp]
  rw[List.filter_append,List.filter_cons_of_neg (by rw[hs];decide),List.filter_eq_self.2 λe he=>by rw[FV e he];rfl,List.filter_eq_self.2 λe he=>by rw[hgt e he];rfl]
def zwn{α:Type}{l:List Aw}{a:Af}{z:Option α}{K:Ai→Option α}{c:List Aw→Aw→Bool}{n:Nat}(hl:l.length≤3)(h:Ag z (K ⟨a,l.filter λe=>!IA e.A a⟩)):Ag z (uA n (λ(x8:Int×Ai) k9=>
  cond (x8.1<(l.length:Int))
   (Option.bind (jA l x8.1) fun e10=>aA (fun (y12:Ai)=>k9 ((fA .i64 x8.1 1),y12)) fun k13=>
    cond (!(cond (e10.A.Host==a.Host) (cond (e10.A.Port==a.Port) (true) false) false))
     (Option.bind (jA l x8.1) λe14=>Option.bind (pt (wt e14≤bA) e14) λr15=>cond (c x8.2.Cands r15) (k13 (⟨x8.2.At,x8.2.Cands++[r15]⟩:Ai)) none)
     (k13 x8.2))
   (K x8.2)) (0,(⟨a,[]⟩:Ai))):=by
 refine Ag.lI (λx=>∃i:Nat,x=((i:Int),(⟨a,(l.take i).filter λe=>!IA e.A a⟩:Ai))∧i≤l.length) ⟨0,rfl,by omega⟩ (λx k hx hk=>?_) n;obtain⟨i,hx,h2⟩:=hx;subst hx;refine .cr (λhc=> .br λe he=> .jr ?_) λhc=>?_
 ·simp only[B]at hc;have hi:fA .i64 (i:Int) 1=((i+1:Nat):Int):=by rw[DA (by omega) (by omega)];omega
  have gX:l[i]?=some e:=by rw[jA,if_pos (by omega),Int.toNat_natCast]at he;exact he
  have ht:(l.take (i+1)).filter (λe=>!IA e.A a)=(l.take i).filter (λe=>!IA e.A a)++(if(!IA e.A a)=true then[e]else[]):=by
   rw[List.take_succ,gX,List.filter_append];cases hq:IA e.A a<;>simp[hq]
  rw[cS];refine .cr (λh3=> .bR he (.pr λ_=> .gr λ_=>hk _ ⟨i+1,?_,by omega⟩)) λh3=>hk _ ⟨i+1,?_,by omega⟩
  ·rw[ht,if_pos h3,hi]
  ·rw[ht,if_neg (by rw[h3];decide),hi,List.append_nil]
 ·simp only[B]at hc;rw[List.take_of_length_le (by omega)];exact h
def zsC{a0 a1 a2 a3}:Ag (Ei a0 a1 a2 a3) (Ga a0 a1 a2 a3):=by
 unfold Ei Ga;cases h1:VB a0
 ·have:(FI a0 a2).2=false:=by unfold FI;rw[h1];rfl
  ((try simp only[kA,NH,uB,wK,GH]);repeat' (first|(with_reducible first|intro _|apply ZE|apply cF|exact .r0|apply mB|apply iC|apply vD)|(with_reducible refine Ag.cr (λ_=>?_) (λ_=>?_)<;>try (exfalso;grind (splits:=3) [mA,GA,eA];done))|(with_reducible first|apply iD|apply mC)|(refine .s ?_;grind [mA,GA,eA,jC,oC,List.length_eq_zero_iff])))
 have hl:=(XJ.1 h1).len
 rcases zbe a0 a2 with⟨e,h⟩|⟨i,c,e,hi,hs⟩
 ·have:(FI a0 a2).2=false:=by
   unfold FI;rw[h1,List.find?_eq_none.2 λc hc=>by rw[h c hc];decide];rfl
  ((try simp only[kA,NH,uB,wK,GH]);repeat' (first|(with_reducible first|intro _|apply ZE|apply cF|exact .r0|apply mB|apply iC|apply vD)|(with_reducible refine Ag.cr (λ_=>?_) (λ_=>?_)<;>try (exfalso;grind (splits:=3) [mA,GA,eA];done))|(with_reducible first|apply iD|apply mC)|(refine .s ?_;grind [mA,GA,eA,jC,oC,List.length_eq_zero_iff])))
 ·obtain⟨hc,hf⟩:=zu8 h1 hi hs;have hx:jA a0.Cands (i:Int)=some c:=by rw[jA,if_pos (by omega),Int.toNat_natCast];exact hi
  have hn:=(List.getElem?_eq_some_iff.1 hi).1;have ha:=@DA i 1;simp only[NH,wK,hc,e]
  ((try simp only[kA,NH,uB,wK,GH]);repeat' (first|(with_reducible first|intro _|apply ZE|apply cF|exact .r0|apply mB|apply iC|apply vD|apply iB)|(with_reducible refine Ag.cr (λ_=>?_) (λ_=>?_)<;>try (exfalso;grind (splits:=3) [mA,GA,eA];done))|(with_reducible first|apply iD|apply mC|apply VG)|(refine .s ?_;grind [mA,GA,eA,jC,oC,List.length_eq_zero_iff])|(exfalso;grind [mA,GA,eA])|dsimp only[cond_true,cond_false]))
  all_goals (with_reducible refine zwn (a:=a2) (K:=λp=>some (p,true)) (c:=λl e=>decide (l.length+[e].length≤bA)) hl ?_)
  rw[hf,ha (by omega) (by omega),show((i:Int) - 0).toNat=i by omega,show((i:Int)+1).toNat=i+1 by omega,List.take_of_length_le (l:=a0.Cands.drop (i+1)) (by rw[List.length_drop];omega)];exact .r0
end Go.D
namespace Go.D
theorem zeZ{a0:Ah}{a1:List UInt8}{r:Ah×List Aq×List Ad×Int}(h:Da a0 a1=some r):(r.2.2.2≠0→r.2.1=[]∧r.2.2.1=[])∧(TB a0=true→a1.length>40→r.1=a0):=by
 revert h;refine(?_:Pc _ (λr:Ah×List Aq×List Ad×Int=>(r.2.2.2≠0→r.2.1=[]∧r.2.2.1=[])∧(TB a0=true→a1.length>40→r.1=a0))) r
 unfold Da;((try simp only[kA,yA,ED]);repeat' (first|(with_reducible first|intro _|apply lG|apply nH|apply YF|apply NI)|(refine .s ?_;first|trivial|grind [mA,GA,eA])))
def zrl{a0:Ah}{a1:List UInt8}{r:Ah×List Aq×List Ad×Int}(h:Da a0 a1=some r)(hs:TB a0=true):BE a0 r.1:=by
 by_cases hl:a1.length≤40
 ·obtain⟨q,hq,h1,_⟩:=zhU (a1:=a1) hs (by rw[FA];omega);cases hq.symm.trans h;exact h1
 ·rw[(zeZ h).2 hs (by omega)];exact pO hs
def UR{t:Ao}{i:Int}{e s:Ah}{r:Ao×Bool}(h:Bo t i s=some r)(ht:GC t=true)(he:jA t.L i=some e)(hs:BE e s):r=(⟨t.Cap,t.L.set i.toNat s⟩,true):=by
 have h0:0≤i:=by unfold jA at he;split at he<;>first|assumption|cases he
 rw[jA,if_pos h0]at he;have hk:=zvf ht he hs;have hn:=(List.getElem?_eq_some_iff.1 he).1
 revert h;refine(?_:Pc _ (λr:Ao×Bool=>r=(⟨t.Cap,t.L.set i.toNat s⟩,true))) r
 unfold Bo;((try simp only[kA,AG]);repeat' (first|(with_reducible first|intro _|apply lG|apply nH|apply zaB|apply YF|apply NI)|(refine .s ?_;first|trivial|grind [mA,GA,eA])))
def RO{s:Ac}{i:Int}{e:Ah}(hs:wB s=true)(he:jA s.T.L i=some e):GC s.T=true∧TB e=true:=by
 have ht:=(nE.1 hs).tab;unfold jA at he;split at he
 ·exact⟨ht,(JE.1 ht).el _ (List.mem_of_getElem? he)⟩
 ·cases he
theorem zlT{s:Ac}{i:Int}{e:Ah}{b:List UInt8}{r:Ah×List Aq×List Ad×Int}{t:Ao×Bool}(h1:Da e b=some r)(h2:Bo s.T i r.1=some t)(he:jA s.T.L i=some e)(hs:wB s=true):t=(⟨s.T.Cap,s.T.L.set i.toNat r.1⟩,true):=
 UR h2 (RO hs he).1 he (zrl h1 (RO hs he).2)
theorem zlB{s:Ac}{i:Int}{e r:Ah}{t:Ao×Bool}(h1:Em e=some r)(h2:Bo s.T i r=some t)(he:jA s.T.L i=some e)(hs:wB s=true):t=(⟨s.T.Cap,s.T.L.set i.toNat r⟩,true):=
 UR h2 (RO hs he).1 he (by
  obtain⟨q,hq,h,_⟩:=zeV (RO hs he).2;cases hq.symm.trans h1;exact h)
def zmj{s:Ac}(h:wB s=true):oA .i64 (s.T.L.length:Int) 1=(s.T.L.length:Int) - 1:=by
 have:=(JE.1 (nE.1 h).tab).len;exact RA (by omega) (by omega)
end Go.D
namespace Go.D
def zkQ(u v:UInt8):AB .u8 ((u.toNat:Nat):Int) ((v.toNat:Nat):Int)=(((u^^^v).toNat:Nat):Int):=by
 unfold AB;show IntKind.wrap .u8 (((BitVec.ofInt 8 ((u.toNat:Nat):Int)^^^BitVec.ofInt 8 ((v.toNat:Nat):Int)).toNat:Nat):Int)=_
 rw[BitVec.ofInt_natCast,BitVec.ofInt_natCast];have:(BitVec.ofNat 8 u.toNat^^^BitVec.ofNat 8 v.toNat)=(u^^^v).toBitVec:=by simp
 rw[this];have h:(u^^^v).toNat<256:=UInt8.toNat_lt _;show IntKind.wrap .u8 (((u^^^v).toNat:Nat):Int)=_
 generalize (u^^^v).toNat=n at h;simp[IntKind.wrap,IntKind.bits,IntKind.signed];omega
def zlS{m n:Nat}(hm:m<256)(hn:n<256):OK .i64 (m:Int) (n:Int)=((m|||n:Nat):Int)∧m|||n<256:=by
 have h2:m|||n<2^8:=Nat.or_lt_two_pow hm hn
 refine⟨?_,h2⟩;unfold OK;show IntKind.wrap .i64 (((BitVec.ofInt 64 (m:Int)|||BitVec.ofInt 64 (n:Int)).toNat:Nat):Int)=_
 rw[BitVec.ofInt_natCast,BitVec.ofInt_natCast,BitVec.toNat_or,BitVec.toNat_ofNat,BitVec.toNat_ofNat,Nat.mod_eq_of_lt (by omega),Nat.mod_eq_of_lt (by omega)];exact FB (by omega) (by omega)
theorem iT{a b:List UInt8}{r:Int}(h:Bx a b=some r)(hl:a.length≤1000000):r=0↔a=b:=by
 revert h;refine(?_:Pc _ (λr:Int=>r=0↔a=b)) r
 unfold Bx;refine .c (λh=> .s ?_) λh=> .j ?_
 ·simp only[bne_iff_ne,ne_eq]at h;exact⟨λk=>by omega,λk=>by rw[k]at h;omega⟩
 have h:a.length=b.length:=by simp at h;omega
 refine Pc.l (λx=>∃i m:Nat,x=((m:Int),(i:Int))∧m<256∧i≤a.length∧(m=0↔a.take i=b.take i)) ⟨0,0,rfl,by decide,by omega,by simp⟩ (λx k hx hk=>?_) _;obtain⟨i,m,hx,h1,h2,h3⟩:=hx;subst hx;refine .c (λhc=> .b λe he=> .b λf hf=>?_) λhc=> .s ?_
 ·simp only[B]at hc;rw[jA,if_pos (by omega),Int.toNat_natCast]at he hf;have hx:(e^^^f).toNat<256:=UInt8.toNat_lt _;dsimp only;rw[zkQ,FB (by omega) (by omega),(zlS h1 hx).1,DA (by omega) (by omega)];refine hk _ ⟨i+1,m|||(e^^^f).toNat,rfl,(zlS h1 hx).2,by omega,?_⟩;rw[Nat.or_eq_zero_iff,h3,List.take_add_one,List.take_add_one,he,hf]
  have hz:(e^^^f).toNat=0↔e=f:=by
   rw[←UInt8.toNat_zero,UInt8.toNat_inj];exact UInt8.xor_eq_zero_iff
  rw[hz];constructor
  ·rintro⟨p,rfl⟩;rw[p]
  ·intro p;have:=List.append_inj p (by rw[List.length_take,List.length_take,h]);exact⟨this.1,by simpa using this.2⟩
 ·simp only[B]at hc;have e:i=a.length:=by omega
  rw[e,List.take_length,h,List.take_length]at h3;rw[←h3];dsimp only;omega
def zrE{a0 a1 a2}(hE:∀e:Av,∀r f,Ag (Dr e r f) (Dj e r f))(hN:∀n k,Ag (Cl n k) (Dg n k)):Ag (Ba a0 a1 a2) (Ez a0 a1 a2):=by
 haveI:∀e r f,LA (Dj e r f) (Dr e r f):=λe r f=>⟨hE e r f⟩
 haveI:∀n k,LA (Dg n k) (Cl n k):=λn k=>⟨hN n k⟩
 unfold Ba Ez
 (try simp only[kA,lC,QC,uB])
 refine .pl λ_=> .pr λ_=> .jBl (.jBr (.pl λ_=> .pr λ_=> .cc (λ_=> .r0) λh1=> .cc (λ_=> .r0) λh2=>?_));cases hs:nB a2.Kind<;>cases hf:TA a2<;>simp only[Bool.not_true,Bool.not_false,cond_true,cond_false]
 ·exact .r0
 ·exact .r0
 ·exact .pl λ_=> .r0
 have hc:rB a0=true:=by simpa using h1
 have cn:=SC hc;have fl:=(LC hf).2.1;have ha:=DA (a:=a0.Cur.N) (b:=1) (by omega) (by omega);have hb:=RA (a:=a0.Cur.N) (b:=1) (by omega) (by omega)
 have ho:a0.HasOld=true→a0.Old.N=a0.Cur.N - 1:=λh=>by
  simp only[rB,DG,h,cond_true,Bool.and_eq_true,beq_iff_eq]at hc;rw[hc.1.2.1.2,hb]
 rw[ha]
 have hd:∀r,Bx a2.Sn a0.Sn=some r→(r !=0)= !(a2.Sn==a0.Sn):=λr h=>by
  have:=iT h (by omega)
  grind
 have f1:(a2.Epoch==a0.Cur.N)=true→(a2.Epoch==a0.Cur.N+1)=false:=λh=>by
  rw[beq_iff_eq]at h;exact beq_eq_false_iff_ne.2 (by omega)
 have f2:(a2.Epoch==a0.Cur.N)=true→a0.HasOld=true→(a2.Epoch==a0.Old.N)=false:=λh k=>by
  rw[beq_iff_eq]at h;have:=ho k;exact beq_eq_false_iff_ne.2 (by omega)
 have f3:(a2.Epoch==a0.Old.N)=true→a0.HasOld=true→(a2.Epoch==a0.Cur.N+1)=false:=λh k=>by
  rw[beq_iff_eq]at h;have:=ho k;exact beq_eq_false_iff_ne.2 (by omega)
 refine .pl λ_=>?_;generalize (a2.Epoch==a0.Cur.N)=p at *;generalize (a2.Epoch==a0.Old.N)=q at *;generalize (a2.Epoch==a0.Cur.N+1)=x at *;generalize decide ((a0.Next.length:Int)>0)=n at *
 cases h0:a0.HasOld<;>cases p<;>cases q<;>cases x<;>cases n<;>first
  | exact absurd (f1 rfl) (by decide)
  | exact absurd (f2 rfl h0) (by decide)
  | exact absurd (f3 rfl h0) (by decide)
  | (simp only [aA,cond_true,cond_false,Bool.not_true,Bool.not_false]
     refine .bl λr hr=> .pr λ_=>?_;rw[hd r hr];cases(a2.Sn==a0.Sn)<;>simp only[cond_true,cond_false,Bool.not_true,Bool.not_false]
     ·exact .r0
     ·first
      | exact .r0
      | exact .bd inferInstance λ_ _ _=> .cc (λ_=> .r0) λ_=> .r0
      | exact .bd inferInstance λ_ _ _=> .bd inferInstance λ_ _ _=> .cc (λ_=> .r0) λ_=> .r0
      | (repeat' ((with_reducible first|intro _|exact .r0|refine .bd inferInstance ?_|apply iB))))
end Go.D
namespace Go.D
open Option renaming bind→ob
def zry{a0}:Ag (Ax a0) (Bm a0):=by
 unfold Ax Bm;simp only[zgH];((try simp only[QC,OO,JB,kT,zc2]);repeat' (first|(with_reducible first|intro _|exact .r0|apply mB|apply iC|apply MB|apply iB|refine .ct ‹_› ?_|refine .cf ‹_› ?_)|(with_reducible first|apply mC|apply VG)|(refine .s ?_;grind [mA,GA,eA,jC,oC,List.length_eq_zero_iff,zk8])|dsimp only[cond_true,cond_false]));(refine Ag.lI (λx=>∃i:Nat,x=(λi:Nat=>([UInt8.ofNat (IntKind.u8.wrap a0.Kind).toNat]++[UInt8.ofNat (IntKind.u8.wrap a0.Id).toNat]++a0.Cn++List.replicate i 0,(i:Int))) i∧i≤20) ⟨0,by first|rfl|simp,by decide⟩ (λx k hx hk=>?_) _;obtain⟨i,hx,h2⟩:=hx;have hi:(i:Int)<20→fA .i64 (i:Int) 1=((i+1:Nat):Int):=λh=>(by rw[DA (by omega) (by omega)];omega);subst hx;refine .cr (λhc=> .gr λ_=>hk _ ⟨i+1,?_,?_⟩) λhc=>?_;(· simp only[B]at hc;simp[hi hc,List.replicate_succ']);(· simp only[B]at hc;omega);have he:i=20:=(by simp only[B]at hc;omega);subst he;try dsimp only);(repeat' ((refine .s ?_;grind [mA,GA,eA,jC,oC,List.length_eq_zero_iff])))
instance{a0:Ab}:LA (Bm a0) (Ax a0):=⟨zry⟩
def ziM{F:Ab}(h:TA F=true):(F.Kind=1∧F.Cn.length=12)∨(F.Kind=2∧F.Cn.length=12∧F.Sn.length=12∧F.Cookie.length=16)∨(F.Kind=3∧F.Cn.length=12∧F.Sn.length=12∧F.Cookie.length=16∧F.Proof.length=16)∨(nB F.Kind=true∧F.Sn.length=12∧F.Tag.length=16∧F.Body.length≤40):=by
 have hb:=(LC h).2.2.2.2.1;unfold TA at h;cases hs:nB F.Kind
 ·simp only[hs,cond_false,Bool.and_eq_true,beq_iff_eq]at h;obtain⟨⟨_,h1⟩,h⟩:=h
  by_cases k1:F.Kind=1
  ·exact .inl ⟨k1,by omega⟩
  ·by_cases k2:F.Kind=2
   ·simp only[k2,show((2:Int)==1)=false from rfl,beq_self_eq_true,cond_true,cond_false,Bool.and_eq_true,beq_iff_eq]at h;exact .inr (.inl ⟨k2,by omega⟩)
   ·simp only[beq_eq_false_iff_ne.2 k1,beq_eq_false_iff_ne.2 k2,cond_false,Bool.and_eq_true,beq_iff_eq]at h;exact .inr (.inr (.inl ⟨h.1.1.1.1.1,by omega⟩))
 ·simp only[hs,cond_true,Bool.and_eq_true,beq_iff_eq]at h;exact .inr (.inr (.inr ⟨rfl,by omega,by omega,hb⟩))
def zv8{F:Ab}{r:List UInt8}(h:Ax F=some r):(TA F=false→r=[])∧(TA F=true→(F.Kind=1∧r.length=34)∨(F.Kind=2∧r.length=45)∨(F.Kind=3∧r.length=62)∨(nB F.Kind=true∧r.length=39+F.Body.length∧F.Body.length≤40)):=by
 revert h;refine(?_:Pc _ (λr:List UInt8=>(TA F=false→r=[])∧(TA F=true→(F.Kind=1∧r.length=34)∨(F.Kind=2∧r.length=45)∨(F.Kind=3∧r.length=62)∨(nB F.Kind=true∧r.length=39+F.Body.length∧F.Body.length≤40)))) r
 have hk:=@ziM F;unfold Ax;simp only[zgH];have l4:∀n,(xD [] n 4).length=4:=λn=>(gG [] n 4).2;have l6:∀n,(xD [] n 6).length=6:=λn=>(gG [] n 6).2
 ((try simp only[QC,OO,JB,kT,zc2]);repeat' (first|(with_reducible first|intro _|apply lG|apply YF)|(refine .s ?_;grind [mA,GA,eA,nB,List.length_append,List.length_replicate,List.length_cons,List.length_nil])))
def zf9{b:List UInt8}{n:Int}{v:List UInt8×List UInt8}(hn:0≤n)(h:Bl b n=some v):v=(b.take n.toNat,b.drop n.toNat):=by
 revert h;refine(?_:Pc _ (λv:List UInt8×List UInt8=>v=(b.take n.toNat,b.drop n.toNat))) v
 unfold Bl;refine .g λ_=>?_;dsimp only;refine .p λ_=> .g λ_=> .s ?_;unfold HD;split
 ·rw[Int.sub_zero,Int.toNat_natCast,List.drop_zero,List.take_length,List.drop_length,List.take_of_length_le (l:=b) (i:=n.toNat) (by omega),List.drop_eq_nil_of_le (as:=b) (i:=n.toNat) (by omega)];simp
 ·rw[Int.sub_zero,List.drop_zero,List.take_of_length_le (l:=b.drop n.toNat) (by rw[List.length_drop];omega)]
def LI{α:Type}{b:List UInt8}{n:Int}{f:List UInt8×List UInt8→Option α}{z:Option α}(hn:0≤n)(k:Ag (f (b.take n.toNat,b.drop n.toNat)) z):Ag (ob (Bl b n) f) z:= .bl λv hv=>by
 rw[zf9 hn hv];exact k
def YO{α:Type}{b:List UInt8}{n:Int}{f:Int×List UInt8→Option α}{z:Option α}(hn:0≤n)(k:Ag (f ((FG (b.take n.toNat) 0 n).1,b.drop n.toNat)) z):Ag (ob (Ca b n) f) z:=by
 unfold Ca;rw[ba];refine LI hn ?_;rw[ba];exact .pl λ_=>k
def zdv{a0:List UInt8}{F:Ab}{z:Option (Ab×Bool)}(hf:TA F=false)(h:Ag (some ((⟨0,0,[],[],0,[],[],0,0,[],[]⟩:Ab),false)) z):Ag (ob (QC F) λr29=>cond (!r29) (some ((⟨0,0,[],[],0,[],[],0,0,[],[]⟩:Ab),false)) (ob (Ax F) λr30=>ob (uB r30 a0) λr31=>cond (!r31) (some ((⟨0,0,[],[],0,[],[],0,0,[],[]⟩:Ab),false)) (some (F,true)))) z:=
 .pl λ_=>by rw[hf];exact h
def zgZ{a0:List UInt8}{K:Ab}(h:a0≠[])(hf:TA K=false):Ag (some ((⟨0,0,[],[],0,[],[],0,0,[],[]⟩:Ab),false)) (ob (Bm K) λr28=>cond (Nat.ble r28.length bA) (cond (Nat.ble a0.length bA) (cond (!(r28==a0)) (some ((⟨0,0,[],[],0,[],[],0,0,[],[]⟩:Ab),false)) (some (K,true))) none) none):=by
 have:Bm K=some []:=by unfold Bm;rw[hf];rfl
 rw[this]
 ((try simp only[bs]);repeat' (first|(with_reducible first|intro _|exact .r0|apply MB)|(with_reducible refine Ag.cr (λ_=>?_) (λ_=>?_)<;>try (exfalso;grind (splits:=3) [mA,GA,eA];done))))
def zc7{a0:List UInt8}{F:Ab}(h:∀r,Ax F=some r→TA F=true→r≠a0):Ag (ob (QC F) λr29=>cond (!r29) (some ((⟨0,0,[],[],0,[],[],0,0,[],[]⟩:Ab),false)) (ob (Ax F) λr30=>ob (uB r30 a0) λr31=>cond (!r31) (some ((⟨0,0,[],[],0,[],[],0,0,[],[]⟩:Ab),false)) (some (F,true)))) (some ((⟨0,0,[],[],0,[],[],0,0,[],[]⟩:Ab),false)):=by
 ((try simp only[QC,uB]);repeat' (first|(with_reducible first|intro _|exact .r0|apply mB)|(with_reducible first|apply iD|apply mC)|(refine .s ?_;grind [mA,GA,eA,jC,oC,List.length_eq_zero_iff])))
def zcA{a0:List UInt8}{F K:Ab}(h:a0≠[])(e:F=K):Ag (ob (QC F) λr29=>cond (!r29) (some ((⟨0,0,[],[],0,[],[],0,0,[],[]⟩:Ab),false)) (ob (Ax F) λr30=>ob (uB r30 a0) λr31=>cond (!r31) (some ((⟨0,0,[],[],0,[],[],0,0,[],[]⟩:Ab),false)) (some (F,true))))
  (ob (Bm K) λr28=>cond (Nat.ble r28.length bA) (cond (Nat.ble a0.length bA) (cond (!(r28==a0)) (some ((⟨0,0,[],[],0,[],[],0,0,[],[]⟩:Ab),false)) (some (K,true))) none) none):=by
 subst e;cases hf:TA F
 ·exact zdv hf (zgZ h hf)
 ·((try simp only[QC,uB]);repeat' (first|(with_reducible first|intro _|exact .r0|apply mB|refine .bd inferInstance ?_|apply MB)|(with_reducible refine Ag.cr (λ_=>?_) (λ_=>?_)<;>try (exfalso;grind (splits:=3) [mA,GA,eA];done))|(with_reducible first|apply mC|apply zE)))
def zmf{e:UInt8}{t:List UInt8}:(FG ((e :: t).take 1) 0 1).1=(e.toNat:Int):=by
 show fA .i64 (GB .i64 0 256) (IntKind.wrap .i64 ((e.toNat:Nat):Int))=_
 have h:=UInt8.toNat_lt e;rw[FB (by omega) (by omega),show GB .i64 0 256=0 from rfl,DA (by omega) (by omega)];omega
def zcE{a:List UInt8}{p:Nat}{k:Int}(hk:1≤k∧k≤6)(h:(p:Int)+k≤a.length):(FG ((a.drop p).take k.toNat) 0 k).1=(FG a (p:Int) k).1:=by
 unfold FG;rw[decide_eq_false (by omega),decide_eq_false (by omega),decide_eq_false (by omega),decide_eq_false (by rw[List.length_take,List.length_drop];omega),decide_eq_false (by omega),decide_eq_false (by omega)];show JF ((((a.drop p).take k.toNat).drop (0:Int).toNat).take k.toNat)=JF ((a.drop (p:Int).toNat).take k.toNat)
 rw[show((0:Int).toNat)=0 from rfl,List.drop_zero,List.take_take,Nat.min_self,Int.toNat_natCast]
def zmq{a:List UInt8}{p:Nat}{e:UInt8}(h:jA a (p:Int)=some e):(FG ((a.drop p).take 1) 0 1).1=IntKind.wrap .i64 (e.toNat:Int):=by
 rw[jA,if_pos (by omega),Int.toNat_natCast]at h;obtain⟨h1,rfl⟩:=List.getElem?_eq_some_iff.1 h;have hn:=UInt8.toNat_lt a[p];rw[List.drop_eq_getElem_cons h1,zmf,FB (by omega) (by omega)]
def zq4{a0}:Ag (Cb a0) (Ev a0):=by
 unfold Cb Ev;refine YO (by decide) ?_;cases a0 with
 | nil=>
  rw[show(FG (List.take (1:Int).toNat []) 0 1).1=0 from rfl];exact zdv rfl .r0
 | cons e t=>
  rw[show(1:Int).toNat=1 from rfl,zmf];refine .cr (λh=>?_) λ_=> .br λe1 he=>?_
  ·simp only[B,List.length_cons]at h;omega
  cases he.symm.trans (show jA (e :: t) 0=some e from rfl);have hn:=UInt8.toNat_lt e;dsimp only;rw[FB (by omega) (by omega)];generalize ha:e :: t=a;have h0:a≠[]:=by rw[←ha];exact List.cons_ne_nil _ _
  generalize hk:(e.toNat:Int)=k
  have no:∀F:Ab,F.Kind=k→(k=1→a.length≠34)→(k=2→a.length≠45)→(k=3→a.length≠62)→(nB k=true→a.length<39)→∀r,Ax F=some r→TA F=true→r≠a:=λF q p1 p2 p3 p4 r hr hf e=>by
   subst e
   rcases(zv8 hr).2 hf with h|h|h|h
   ·exact p1 (q▸h.1) h.2
   ·exact p2 (q▸h.1) h.2
   ·exact p3 (q▸h.1) h.2
   ·have:=p4 (q▸h.1);omega
  by_cases k1:k=1
  ·subst k1;simp only[aA,cond_true,beq_self_eq_true];refine YO (by decide) (LI (by decide) (.cr (λhl=>zc7 (no _ rfl (λ_=>?_) ?_ ?_ ?_)) λhl=> .br λe5 iX=> .gr λ_=> .gr λ_=>zcA h0 ?_))
   ·simp only[B]at hl;omega
   ·omega
   ·omega
   ·intro h;cases h
   ·simp only[List.nil_append];have:=zmq (p:=1) iX;rw[show(1:Int).toNat=1 from rfl,this,show(12:Int).toNat=12 from rfl,List.drop_drop]
  by_cases k2:k=2
  ·subst k2;simp only[aA,cond_true,cond_false,beq_self_eq_true,show((2:Int)==1)=false from rfl,show((2:Int)==3)=false from rfl];refine LI (by decide) (LI (by decide) (YO (by decide) (LI (by decide) (.cr (λhl=>zc7 (no _ rfl ?_ (λ_=>?_) ?_ ?_)) λhl=> .gr λ_=> .gr λ_=> .gr λ_=> .gr λ_=> .pr λ_=> .gr λ_=> .gr λ_=>zcA h0 ?_))))
   ·omega
   ·simp only[B]at hl;omega
   ·omega
   ·intro h;cases h
   ·simp only[B]at hl;have:=zcE (a:=a) (p:=25) (k:=4) (by decide) (by omega);simp only[List.nil_append,List.drop_drop,show(1:Int).toNat=1 from rfl,show(12:Int).toNat=12 from rfl,show(4:Int).toNat=4 from rfl,show(16:Int).toNat=16 from rfl]at this⊢;rw[this,show((a.length:Int) - 29).toNat=16 by omega];rfl
  by_cases k3:k=3
  ·subst k3;simp only[aA,cond_true,cond_false,beq_self_eq_true,show((3:Int)==1)=false from rfl,show((3:Int)==2)=false from rfl];refine YO (by decide) (LI (by decide) (LI (by decide) (YO (by decide) (LI (by decide) (LI (by decide) (.cr (λhl=>zc7 (no _ rfl ?_ ?_ (λ_=>?_) ?_)) λhl=> .br λe5 iX=> .gr λ_=> .gr λ_=> .gr λ_=> .gr λ_=> .pr λ_=> .gr λ_=> .gr λ_=> .gr λ_=> .gr λ_=>zcA h0 ?_))))))
   ·omega
   ·omega
   ·simp only[B]at hl;omega
   ·intro h;cases h
   ·simp only[B]at hl;have h1:=zmq (p:=1) iX;have:=zcE (a:=a) (p:=26) (k:=4) (by decide) (by omega);simp only[List.nil_append,List.drop_drop,show(1:Int).toNat=1 from rfl,show(12:Int).toNat=12 from rfl,show(4:Int).toNat=4 from rfl,show(16:Int).toNat=16 from rfl]at this h1⊢;rw[this,h1,show((a.length:Int) - 46).toNat=16 by omega];rfl
  simp only[aA,cond_false,beq_eq_false_iff_ne.2 k1,beq_eq_false_iff_ne.2 k2,beq_eq_false_iff_ne.2 k3]
  have bad:∀F:Ab,F.Kind=k→nB k=false→TA F=false:=λF q hs=>by
   cases hf:TA F
   ·rfl
   ·rcases ziM hf with h | h | h | h
    ·exact absurd (q▸h.1) k1
    ·exact absurd (q▸h.1) k2
    ·exact absurd (q▸h.1) k3
    ·rw[q,hs]at h;cases h.1
  cases hs:nB k
  ·simp only[cond_false];exact zdv (bad _ rfl hs) (.cr (λ_=> .r0) λ_=> .gr λ_=> .gr λ_=> .pr λ_=> .pr λ_=> .gr λ_=> .gr λ_=> .gr λ_=> .gr λ_=>zgZ h0 (bad _ rfl hs))
  ·simp only[cond_true];refine LI (by decide) (YO (by decide) (YO (by decide) (LI (by decide) (LI (by decide) (.cr (λhl=>zc7 (no _ rfl ?_ ?_ ?_ (λ_=>?_))) λhl=> .gr λ_=> .gr λ_=> .pr λ_=> .pr λ_=> .gr λ_=> .gr λ_=> .gr λ_=> .gr λ_=>?_)))))
   ·omega
   ·omega
   ·omega
   ·simp only[B]at hl;omega
   ·simp only[B]at hl
    by_cases hb:a.length≤79
    ·refine zcA h0 ?_;have g1:=zcE (a:=a) (p:=13) (k:=4) (by decide) (by omega);have g2:=zcE (a:=a) (p:=17) (k:=6) (by decide) (by omega);simp only[List.nil_append,List.drop_drop,show(1:Int).toNat=1 from rfl,show(12:Int).toNat=12 from rfl,show(4:Int).toNat=4 from rfl,show(6:Int).toNat=6 from rfl,show(16:Int).toNat=16 from rfl,show(41:Int).toNat=41 from rfl]at g1 g2⊢;rw[g1,g2,List.take_of_length_le (l:=a.drop _) (i:=41) (by rw[List.length_drop];omega),List.take_of_length_le (l:=a.drop 39) (i:=((a.length:Int) - 39).toNat) (by rw[List.length_drop];omega)];rfl
    ·have KT:∀F:Ab,F.Kind=k→41≤F.Body.length→TA F=false:=λF q hb=>by
      cases hf:TA F
      ·rfl
      ·have:=(LC hf).2.2.2.2.1;omega
     refine zdv (KT _ rfl ?_) (zgZ h0 (KT _ rfl ?_))
     ·simp only[List.drop_drop,List.length_take,List.length_drop,show(1:Int).toNat=1 from rfl,show(12:Int).toNat=12 from rfl,show(4:Int).toNat=4 from rfl,show(6:Int).toNat=6 from rfl,show(16:Int).toNat=16 from rfl,show(41:Int).toNat=41 from rfl];omega
     ·simp only[List.nil_append,List.length_take,List.length_drop];omega
end Go.D
namespace Go.D
def zqz{p r:List UInt8}(h:Bj p=some r)(k:JC p=true):r.length=32:=by
 revert h;refine(?_:Pc _ (λr:List UInt8=>r.length=32)) r
 unfold Bj Cg;rw[k];refine .c nofun λ_=>?_;dsimp only;refine .b λv hv=>?_;cases hv;refine .p λ_=> .s (xL ?_ (by decide));have:=FL [UInt8.ofNat (114:Int).toNat,UInt8.ofNat (111:Int).toNat,UInt8.ofNat (97:Int).toNat,UInt8.ofNat (109:Int).toNat] p;omega
def zqW{i t:Int}{c s k r:List UInt8}(h:Do i c s t k=some r)(h1:eA i 1 9=true)(h2:c.length=12)(h3:s.length=12)(h4:eA t 0 1000000=true)(h5:k.length=16):r.length=46:=by
 revert h;refine(?_:Pc _ (λr:List UInt8=>r.length=46)) r
 unfold Do;have l4:∀n,(xD [] n 4).length=4:=λn=>(gG [] n 4).2
 ((try simp only[JB,kT]);repeat' (first|(with_reducible first|intro _|apply lG|apply nH|apply YF)|(refine .s ?_;first|trivial|grind [mA,GA,eA,List.length_append,List.length_cons,List.length_nil])))
theorem zlV{a b r:List UInt8}(h:Ci a b=some r)(h1:a.length=32)(h2:b.length≤100):r.length=16:=by
 revert h;refine(?_:Pc _ (λr:List UInt8=>r.length=16)) r
 have:=wI (k:=a) (b:=b) (by omega) (by omega);unfold Ci;dsimp only
 ((try simp only[yA]);repeat' (first|(with_reducible first|intro _|apply lG|apply zaB|apply YF)|(refine .s ?_;grind [mA,GA,eA,List.length_take,List.length_drop])))
theorem zi9{p:List UInt8}{i:Int}{f:Ab}{r:Ab×Bool}(h:Fj p i f=some r)(hp:JC p=true)(hi:eA i 1 9=true)(hf:TA f=true)(hk:f.Kind=2):r.2=true:=by
 revert h;refine(?_:Pc _ (λr:Ab×Bool=>r.2=true)) r
 have Q5:=zaf hf hk;have ht:eA f.Tick 0 1000000=true:=YA.2 ⟨Q5.2.2.1,Q5.2.2.2.1⟩
 have hpr:∀q,Ee p i f.Cn f.Sn f.Tick f.Cookie=some q→q.length=16:=λq h=>by
  revert h;refine(?_:Pc _ (λq:List UInt8=>q.length=16)) q
  unfold Ee;refine .b λv hv=> .b λw hw=>?_;have h1:=zqz hv hp;have h2:=zqW hw hi Q5.1 Q5.2.1 ht Q5.2.2.2.2.1
  (repeat' (first|(with_reducible first|intro _|apply lG|apply nH|apply YF|apply NI)|(refine .s ?_;first|trivial|grind [mA,GA,eA, →zlV])))
 unfold Fj
 ((try simp only[yA,QC]);repeat' (first|(with_reducible first|intro _|apply lG|apply nH|apply YF|apply NI)|(refine .s ?_;first|trivial|grind [mA,GA,eA])))
set_option maxHeartbeats 1000000 in
theorem zi4{a0:Aj}{a1:Int}{a2:Ab}{r:Aj×List UInt8×Int}(h:Ba a0 a1 a2=some r):r.2.2=0→a2.Sn=a0.Sn∧r.1.Sn=a2.Sn:=by
 revert h;refine(?_:Pc _ (λr:Aj×List UInt8×Int=>r.2.2=0→a2.Sn=a0.Sn∧r.1.Sn=a2.Sn)) r
 have fl:=λh=>(@LC a2 h).2.1;unfold Ba
 ((try simp only[kA,lC,QC]);repeat' (first|(with_reducible first|intro _|apply lG|apply nH|apply YF|apply NI)|(refine .s ?_;first|trivial|grind [mA,GA,eA, →iT])))
end Go.D
namespace Go.D
open Option renaming bind→ob
def zxo{c:Ae}(h:fB c=true):JC c.Psk=true∧eA c.Id 1 9=true∧(c.St=0∨c.St=1∨c.St=2∨c.St=3):=by
 unfold fB at h;simp only[Bool.and_eq_true]at h;refine⟨h.1.1.2,h.1.1.1,?_⟩;have h:=h.2
 by_cases h0:c.St=0
 ·exact .inl h0
 by_cases h1:c.St=1
 ·exact .inr (.inl h1)
 by_cases h2:c.St=2
 ·exact .inr (.inr (.inl h2))
 ·simp only[beq_eq_false_iff_ne.2 h0,beq_eq_false_iff_ne.2 h1,beq_eq_false_iff_ne.2 h2,cond_false,Bool.and_eq_true,beq_iff_eq]at h;omega
def Ag.lB{α β σ:Type}{f:σ→(σ→Option α)→Option α}{f':σ→(σ→Option β)→Option β}{g:β→Option α}(e:∀x k k',(∀y,Ag (k y) (ob (k' y) g))→Ag (f x k) (ob (f' x k') g)):∀(n:Nat) (x:σ),Ag (uA n f x) (ob (uA n f' x) g):=by
 intro n;induction n with
 | zero=>exact λ_=>Ag.nl
 | succ n ih=>exact λx=>e _ _ _ λ_=>ih _
def zvd{o:List Aq}{n:List Ad}{s:Ac}{z:Option (Ac×List Aq×List Ad)}{f:List Aq×Int×Ac→(List Aq×Int×Ac→Option (Ac×List Aq×List Ad))→Option (Ac×List Aq×List Ad)}(ho:o=[])(h:Ag (some (s,[],n)) z):Ag (uA FU (λx k=>cond (x.2.1<(o.length:Int)) (f x k) (some (x.2.2,x.1,n))) ([],0,s)) z:=by
 subst ho;refine Ag.lJ (λx=>x=([],0,s)) rfl (λx k hx _=>?_) _;subst hx;exact h
def zwY{o:List Aq}{n:List Ad}{s:Ac}(hA:∀t a,Ag (Dn t a) (Dy t a))(hZ:∀f,Ag (Cy f) (Fa f))(hP:∀c a n,Ag (Cz c a n) (Fb c a n)):Ag (aA (λ(y18:(List Aq)×Ac)=>
 some (y18.2,y18.1,n)) λk19=>
 uA FU (λ(x20:(List Aq)×Int×Ac) k21=>
 cond (x20.2.1<(o.length:Int))
 (aA (λ(y22:(List Aq)×Ac)=>
 k21 (y22.1,(fA .i64 x20.2.1 1),y22.2)) λk23=>
 cond (0≤x20.2.1&&x20.2.1<(o.length:Int)) (ob (o[x20.2.1.toNat]?) λe24=>
 ob (Dn x20.2.2.T e24.To) λr25=>
 aA (λ(y26:Ac)=>
 cond (x20.1.length+[e24].length≤bA) (k23 ((x20.1++[e24]),y26)) none) λk27=>
 cond (!r25)
 (ob (Cy e24.F) λr28=>
 ob (Cz x20.2.2.Cr e24.To r28) λr29=>
 cond (!r29.2)
 (k23 (x20.1,x20.2.2))
 (k27 (⟨x20.2.2.Psks,x20.2.2.J,x20.2.2.D,x20.2.2.T,r29.1⟩:Ac)))
 (k27 x20.2.2)) none)
 (k19 (x20.1,x20.2.2))) ([],0,s)) (ob (Hv s o) λr65=>some (r65.2,r65.1,n)):=by
 haveI:∀t a,LA (Dy t a) (Dn t a):=λt a=>⟨hA t a⟩
 haveI:∀f,LA (Fa f) (Cy f):=λf=>⟨hZ f⟩
 haveI:∀c a n,LA (Fb c a n) (Cz c a n):=λc a n=>⟨hP c a n⟩
 unfold Hv;refine .jl (.jbr (Ag.lB (λx k k' hk=>?_) _ _));simp only[ba,bc,bs,bn]
 (repeat' (first|(with_reducible first|intro _|exact .r0|refine .bd inferInstance ?_|apply vD|apply MB|apply iB|(apply_assumption;done)|refine .ct ‹_› ?_|refine .cf ‹_› ?_)|(with_reducible first|apply zg2|(apply zwV;simp only[ba,bc,bs,bn])|apply iD|apply mC|refine .bT inferInstance ‹_› ?_|refine .bR ‹_› ?_)))
end Go.D
namespace Go.D
def zfn{t:Ao}{s:Ah}{r:Ao×Int}(h:Bk t s=some r):r.2=0→r.1=⟨t.Cap,t.L++[s]⟩∧XB t s.Sn<0∧GC t=true∧TB s=true:=by
 revert h;refine(?_:Pc _ (λr:Ao×Int=>r.2=0→r.1=⟨t.Cap,t.L++[s]⟩∧XB t s.Sn<0∧GC t=true∧TB s=true)) r
 unfold Bk;((try simp only[kA,CC,CJ,AG,ED]);repeat' (first|(with_reducible first|intro _|apply lG|apply nH|apply zaB|apply YF)|(refine .s ?_;first|trivial|grind [mA,GA,eA])))
def zsU{t:Ao}{s:Ah}(h:XB t s.Sn<0):XB ⟨t.Cap,t.L++[s]⟩ s.Sn=(t.L.length:Int):=by
 unfold XB at h⊢
 rcases KG t.L.length (eF t s.Sn)with⟨h1,_⟩|⟨m,_,_,_,h4⟩
 ·rcases KG (t.L++[s]).length (eF ⟨t.Cap,t.L++[s]⟩ s.Sn)with⟨h3,h4⟩ | ⟨m,h5,h6,_,h4⟩
  ·have:=uO (i:=t.L.length) (by rw[h3];rfl) (by simp);simp[eF]at this
  ·rw[h4];have:=uG.1 h1 m;rw[List.length_append]at h5;simp only[List.length_cons,List.length_nil]at h5
   by_cases hm:m<t.L.length
   ·have:=this hm;unfold eF at this h6;rw[List.getElem?_append_left hm]at h6;rw[h6]at this;cases this
   ·omega
 ·omega
def zsj{t:Ao}{s:Ah}{r:Ao×Int}(h:Bk t s=some r)(h0:r.2=0):XB r.1 s.Sn=oA .i64 (r.1.L.length:Int) 1:=by
 obtain⟨e,h1,h2,_⟩:=zfn h h0;have:=(JE.1 h2).len;rw[e,zsU h1,List.length_append,RA (by simp only[List.length_cons,List.length_nil];omega) (by simp only[List.length_cons,List.length_nil];omega)];simp only[List.length_cons,List.length_nil];omega
def zsr{p:List UInt8}{n:Int}{a:Af}{f:Ab}{s:Ah}(h:Dp p n a f=some s)(hs:TB s=true):s.Sn=f.Sn:=by
 revert hs
 revert h;refine(?_:Pc _ (λs:Ah=>TB s=true→s.Sn=f.Sn)) s
 have:TB (⟨0,[],[],(⟨0,[],(⟨0,[],0,(⟨0,[]⟩:Ap)⟩:Av),(⟨0,[],0,(⟨0,[]⟩:Ap)⟩:Av),false,0,[]⟩:Aj),(⟨(⟨0,0⟩:Af),[]⟩:Ai),0,0,false⟩:Ah)=false:=by
  unfold TB;rfl
 unfold Dp;((try simp only[yA,QC]);repeat' (first|(with_reducible first|intro _|apply lG|apply nH|apply YF|apply NI)|(refine .s ?_;first|trivial|grind [mA,GA,eA])))
def zse{a0:Ah}{r:Ah×List Aq×List Ad}(h:Dq a0=some r)(hs:TB a0=true):BE a0 r.1:=by
 obtain⟨q,hq,h1,_⟩:=zib hs;cases hq.symm.trans h;exact h1
def zly{t:Ao}{i:Int}{e:Ah}(ht:GC t=true)(he:jA t.L i=some e):TB e=true:=by
 unfold jA at he;split at he
 ·exact(JE.1 ht).el _ (List.mem_of_getElem? he)
 ·cases he
theorem nT{t:Ao}{i:Int}{e:Ah}{r:Ah×List Aq×List Ad}{p:Ao×Bool}(h1:Dq e=some r)(h2:Bo t i r.1=some p)(he:jA t.L i=some e)(ht:GC t=true):p=(⟨t.Cap,t.L.set i.toNat r.1⟩,true):=
 UR h2 ht he (zse h1 (zly ht he))
def zsl{t:Ao}{s:Ah}{r:Ao×Int}(h:Bk t s=some r)(h0:r.2=0):GC r.1=true:=by
 obtain⟨_,_,h2,h3⟩:=zfn h h0;obtain⟨q,hq,h1,_⟩:=zid (a1:=s) h2 (by have:=fF h3;omega);cases hq.symm.trans h;exact h1
def Pc.jj{α σ:Type}{Q:α→Prop}{h:σ→Option α}{f:(σ→Option α)→Option α}(a:∀y,Pc (h y) Q)(e:∀k,(∀y,Pc (k y) Q)→Pc (f k) Q):Pc (aA h f) Q:=e _ a
def zrH{b:List UInt8}{r:Ab×Bool}(h:Cb b=some r):r.2=true→TA r.1=true:=by
 revert h;refine(?_:Pc _ (λr:Ab×Bool=>r.2=true→TA r.1=true)) r
 unfold Cb;refine .b λ_ _=>Pc.jj (λy=>?_) λk hk=>?_
 ·((try simp only[QC,uB]);repeat' (first|(with_reducible first|intro _|apply lG|apply nH|apply YF|apply NI)|(refine .s ?_;first|trivial|grind [mA,GA,eA])))
 ·repeat' first
   | exact hk _
   | apply_assumption
   | refine Pc.b λ_ _=>?_
   | refine Pc.c (λ_=>?_) λ_=>?_
   | refine Pc.jj (λ_=>?_) λ_ _=>?_
theorem fT{t:Ao}{i n:Int}{e:Ah}{a:Af}{f:Ab}{b:List UInt8}{r:Ah×List Aq×List Ad×Bool}{p:Ao×Bool}(h1:Cc e n a f b=some r)(h2:Bo t i r.1=some p)(he:jA t.L i=some e)(ht:GC t=true)(hf:TA f=true)(hb:b.length≤100):p=(⟨t.Cap,t.L.set i.toNat r.1⟩,true):=
 UR h2 ht he (by
  obtain⟨q,hq,h,_⟩:=zaI (a1:=n) (a2:=a) (zly ht he) hf hb;cases hq.symm.trans h1;exact h)
end Go.D

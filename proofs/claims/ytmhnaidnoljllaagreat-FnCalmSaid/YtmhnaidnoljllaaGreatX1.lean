/-
 Two partial results agree: where both have one, it is the same.
-/
import Derived.Test.YtmhnaidnoljllaaGreatE1
import Derived.Test.YtmhnaidnoljllaaGreatN8
import Derived.Test.YtmhnaidnoljllaaGreatN12
import Derived.Test.YtmhnaidnoljllaaGreatP2
import Derived.Test.YtmhnaidnoljllaaGreatN11
set_option linter.all false
namespace Go.D
open Option renaming bind→ob
def Ag{α:Type}(x y:Option α):Prop:=∀v w,x=some v→y=some w→v=w
class OM{α:Type}(x y:Option α):Prop where h:Ag x y
class KA{α:Type}(y:Option α)(x:outParam (Option α)):Prop where h:Ag x y
instance{α:Type}{x y:Option α}[KA y x]:OM x y:=⟨KA.h⟩
namespace Ag
variable {α β σ τ:Type} {x y:Option α} {c d:Bool}
def r0:Ag x x:=λ_ _ h k=>Option.some.inj (h.symm.trans k)
def nl:Ag none y:=λ_ _ h=>nomatch h
def nr:Ag x none:=λ_ _ _ h=>nomatch h
def s{a b:α}(h:a=b):Ag (some a) (some b):=λ_ _ k l=>(Option.some.inj k).symm.trans (h.trans (Option.some.inj l))
def sy(h:Ag x y):Ag y x:=λv w k l=>(h w v l k).symm
def b{f g:α→Option β}(h:Ag x y)(k:∀v,x=some v→y=some v→Ag (f v) (g v)):Ag (x.bind f) (y.bind g):=by
 cases x with
 | none=>exact nl
 | some v=>cases y with
  | none=>exact nr
  | some w=>cases h v w rfl rfl;exact k v rfl rfl
def bc[OM x y]{f g:α→Option β}(k:∀v,x=some v→y=some v→Ag (f v) (g v)):Ag (x.bind f) (y.bind g):=b OM.h k
def bl{f:α→Option β}{z:Option β}(k:∀v,x=some v→Ag (f v) z):Ag (x.bind f) z:=by
 cases x with
 | none=>exact nl
 | some v=>exact k v rfl
def br{f:α→Option β}{z:Option β}(k:∀v,x=some v→Ag z (f v)):Ag z (x.bind f):=sy (bl λv h=>sy (k v h))
def bd{f g:α→Option β}(i:OM x y)(k:∀v,x=some v→y=some v→Ag (f v) (g v)):Ag (x.bind f) (y.bind g):=b i.h k
def bT{f:α→Option β}{z:Option β}{v:α}(i:KA y x)(h:x=some v)(k:y=some v→Ag z (f v)):Ag z (y.bind f):=br λw hw=>by
 cases i.h v w h hw;exact k hw
def bR{f:α→Option β}{z:Option β}{v:α}(h:x=some v)(k:Ag z (f v)):Ag z (x.bind f):=by subst h;exact k
def cc{p q:Option α}(h:c=true→Ag x p)(k:c=false→Ag y q):Ag (cond c x y) (cond c p q):=by
 cases c
 ·exact k rfl
 ·exact h rfl
def ce{p q:Option α}(e:c=d)(h:c=true→Ag x p)(k:c=false→Ag y q):Ag (cond c x y) (cond d p q):=by subst e;exact cc h k
def cl{z:Option α}(h:c=true→Ag x z)(k:c=false→Ag y z):Ag (cond c x y) z:=by
 cases c
 ·exact k rfl
 ·exact h rfl
def cr{z:Option α}(h:c=true→Ag z x)(k:c=false→Ag z y):Ag z (cond c x y):=by
 cases c
 ·exact k rfl
 ·exact h rfl
def ct{z:Option α}(e:c=true)(h:Ag z x):Ag z (cond c x y):=by subst e;exact h
def cf{z:Option α}(e:c=false)(h:Ag z y):Ag z (cond c x y):=by subst e;exact h
def gl{z:Option α}(h:c=true→Ag x z):Ag (cond c x none) z:=cl h λ_=>nl
def gr{z:Option α}(h:c=true→Ag z x):Ag z (cond c x none):=cr h λ_=>nr
def jj{h h':σ→Option α}{f f':(σ→Option α)→Option α}(a:∀y,Ag (h y) (h' y))(e:∀k k',(∀y,Ag (k y) (k' y))→Ag (f k) (f' k')):Ag (aA h f) (aA h' f'):=e _ _ a
def hj{ρ:Type}(P:(σ→Option ρ)→(τ→Option ρ)→Prop){c:Bool}{t:σ→Option ρ}{t':τ→Option ρ}{b:(σ→Option ρ)→Option ρ}{b':(τ→Option ρ)→Option ρ}{e:Option ρ}(h0:P t t')(h:∀k k',P k k'→Ag (b k) (cond c e (b' k'))):Ag (aA t b) (cond c e (aA t' b')):=h _ _ h0
def jl{z:Option α}{h:σ→Option α}{f:(σ→Option α)→Option α}(a:Ag (f h) z):Ag (aA h f) z:=a
def jr{z:Option α}{h:σ→Option α}{f:(σ→Option α)→Option α}(a:Ag z (f h)):Ag z (aA h f):=a
def ll{f f':σ→(σ→Option α)→Option α}{x0:σ}(e:∀x k k',(∀y,Ag (k y) (k' y))→Ag (f x k) (f' x k')):∀n,Ag (wA n f x0) (wA n f' x0):=by
 intro n;induction n generalizing x0 with
 | zero=>exact nl
 | succ n ih=>exact e _ _ _ λ_=>ih
def lI(I:σ→Prop){f:σ→(σ→Option α)→Option α}{z:Option α}{x0:σ}(h0:I x0)(e:∀x k,I x→(∀y,I y→Ag z (k y))→Ag z (f x k)):∀n,Ag z (wA n f x0):=by
 intro n;induction n generalizing x0 with
 | zero=>exact nr
 | succ n ih=>exact e _ _ h0 λ_ h=>ih h
def lJ(I:σ→Prop){f:σ→(σ→Option α)→Option α}{z:Option α}{x0:σ}(h0:I x0)(e:∀x k,I x→(∀y,I y→Ag (k y) z)→Ag (f x k) z)(n:Nat):Ag (wA n f x0) z:=
 sy (lI I h0 (λx k h l=>sy (e x k h λy hy=>sy (l y hy))) n)
end Ag
instance(priority:=low){α:Type}{x:Option α}:OM x x:=⟨.r0⟩
def zfv{a b:List UInt8}:XC [a,b]=pt (wt [a,b]≤bA) (a++b):=by unfold XC;simp
def MU{a b c d:List UInt8}:XC [a,b,c,d]=pt (wt [a,b,c,d]≤bA) (a++b++c++d):=by unfold XC;simp
def BS{a b c d e:List UInt8}:XC [a,b,c,d,e]=pt (wt [a,b,c,d,e]≤bA) (a++b++c++d++e):=by unfold XC;simp
def zfn{a b c d e f:List UInt8}:XC [a,b,c,d,e,f]=pt (wt [a,b,c,d,e,f]≤bA) (a++b++c++d++e++f):=by unfold XC;simp
def bn{α β:Type}{f:α→Option β}:ob none f=none:=rfl
def bs{α β:Type}{v:α}{f:α→Option β}:ob (some v) f=f v:=rfl
def ba{α β γ:Type}{x:Option α}{f:α→Option β}{g:β→Option γ}:ob (ob x f) g=ob x λv=>ob (f v) g:=by cases x<;>rfl
def bc{α β:Type}{c:Bool}{x y:Option α}{f:α→Option β}:ob (cond c x y) f=cond c (ob x f) (ob y f):=by cases c<;>rfl
def Ag.pl{α β:Type}{p:Prop}{v:α}{f:α→Option β}{z:Option β}(k:p→Ag (f v) z):Ag (ob (pt p v) f) z:=by
 unfold pt
 by_cases h:p
 ·rw[if_pos h];exact k h
 ·rw[if_neg h];exact .nl
def Ag.pr{α β:Type}{p:Prop}{v:α}{f:α→Option β}{z:Option β}(k:p→Ag z (f v)):Ag z (ob (pt p v) f):= .sy (.pl λh=> .sy (k h))
def Ag.jbl{α β σ:Type}{z:Option β}{h:σ→Option α}{f:(σ→Option α)→Option α}{g:α→Option β}(a:Ag (ob (f h) g) z):Ag (ob (aA h f) g) z:=a
def Ag.jbr{α β σ:Type}{z:Option β}{h:σ→Option α}{f:(σ→Option α)→Option α}{g:α→Option β}(a:Ag z (ob (f h) g)):Ag z (ob (aA h f) g):=a
def Ag.kk{α β:Type}{k k':α→Option β}{a b:α}(h:∀y,Ag (k y) (k' y))(e:a=b):Ag (k a) (k' b):=e▸h a
def bx0{α:Type}{x:Option α}:ob x (λv=>some v)=x:=by cases x<;>rfl
def bx{α σ:Type}{h:σ→Option α}{f:(σ→Option α)→Option α}:ob (aA h f) (λv=>some v)=aA h f:=bx0
instance{α:Type}{l:List α}{i:Int}:OM (l[i.toNat]?) (nA l i):=⟨by
 unfold nA;split
 ·exact Ag.r0
 ·exact Ag.nr⟩
instance{α:Type}{l:List α}{i:Int}:OM (nA l i) (l[i.toNat]?):=⟨.sy OM.h⟩
def Ag.bI{α β:Type}{l:List α}{i:Int}{v:α}{f:α→Option β}{z:Option β}(h:nA l i=some v)(k:Ag z (f v)):Ag z (ob (l[i.toNat]?) f):=by
 unfold nA at h;split at h
 ·rw[h];exact k
 ·cases h
def Ag.bJ{α β:Type}{l:List α}{i:Int}{v:α}{f:α→Option β}{z:Option β}(h:l[i.toNat]?=some v)(k:Ag z (f v)):Ag z (ob (nA l i) f):=by
 unfold nA;split
 ·rw[h];exact k
 ·exact .nr
def Ag.jBl{α:Type}{z:Option α}{h:Bool→Option α}{f:(Bool→Option α)→Option α}(a:Ag (f h) z):Ag (aA h f) z:=a
def Ag.jBr{α:Type}{z:Option α}{h:Bool→Option α}{f:(Bool→Option α)→Option α}(a:Ag z (f h)):Ag z (aA h f):=a
def Pc{α:Type}(x:Option α)(Q:α→Prop):Prop:=∀r,x=some r→Q r
namespace Pc
variable {α β σ:Type} {x y:Option α} {d:Bool} {Q:α→Prop}
def n:Pc (none:Option α) Q:=λ_ h=>nomatch h
def s{v:α}(h:Q v):Pc (some v) Q:=λ_ k=>Option.some.inj k▸h
def b{f:α→Option β}{P:β→Prop}(k:∀v,x=some v→Pc (f v) P):Pc (x.bind f) P:=by
 cases x with
 | none=>exact n
 | some v=>exact k v rfl
def p{q:Prop}{v:α}{f:α→Option β}{P:β→Prop}(k:q→Pc (f v) P):Pc (ob (pt q v) f) P:=by
 unfold pt
 by_cases h:q
 ·rw[if_pos h];exact k h
 ·rw[if_neg h];exact n
def g(h:d=true→Pc x Q):Pc (cond d x none) Q:=by
 cases d
 ·exact n
 ·exact h rfl
def c(h:d=true→Pc x Q)(k:d=false→Pc y Q):Pc (cond d x y) Q:=by
 cases d
 ·exact k rfl
 ·exact h rfl
def j{h:σ→Option α}{f:(σ→Option α)→Option α}(a:Pc (f h) Q):Pc (aA h f) Q:=a
def l(I:σ→Prop){f:σ→(σ→Option α)→Option α}{x0:σ}(h0:I x0)(e:∀x k,I x→(∀y,I y→Pc (k y) Q)→Pc (f x k) Q):∀n,Pc (wA n f x0) Q:=by
 intro n;induction n generalizing x0 with
 | zero=>exact Pc.n
 | succ n ih=>exact e _ _ h0 λ_ h=>ih h
def of{r:α}(h:Pc x Q)(k:x=some r):Q r:=h r k
end Pc
def eB:=@Ag.pl
def ZB:=@Ag.pr
def pD:=@Ag.gl
def EB:=@Ag.gr
def cB:=@Ag.cc
def pL:=@Ag.ll
def DC:=@Ag.jj
def zf3:=@Ag.jl
def BM:=@Ag.jbl
def zuX:=@Ag.jbr
def iD:=@Ag.bl
def dC:=@Ag.cl
def EG:=@Ag.jr
def sE:=@Ag.br
def VF:=@Ag.cr
def PE:=@Ag.jBl
def SE:=@Ag.jBr
def nE:=@Pc.p
def gF:=@Pc.j
def RS:=@Pc.g
def XD:=@Pc.c
def MF:=@Pc.b
end Go.D
namespace Go.D
structure rJ(a0:Aa)(l:List Ak)(w:Aa):Prop where
 ok:ZA w=true
 notes:∃m,w.Notes=a0.Notes++m
 seen:w.Seen=a0.Seen
 sz:wt w≤wt a0+120000
 wl:wt l≤1000
 wires:∀x∈l,lE x=true
def wV{a0 w:Aa}{l:List Ak}{m:List Ad}(h:ZA w=true)(e:w.Notes=a0.Notes++m)(hm:m.length≤10)(hs:w.Seen=a0.Seen)(hl:wt l≤1000)(hw:∀x∈l,lE x=true):rJ a0 l w:=by
 refine⟨h,⟨m,e⟩,hs,?_,hl,hw⟩;have h1:=yO h;have h2:=kE (jE.1 (e▸(SB.1 h).notes)).2;have h3:wt a0.Notes≤wt a0:=by simp only[gG];omega
 have h4:wt w.Notes=wt a0.Notes+wt m:=by rw[e];simp only[N]
 omega
def zvk{w:Aa}{d:As}{ns:List Ad}(h:ZA w=true)(h1:YB d=true)(h4:TB ns):ZA ⟨w.Now,w.Clients,w.S,d,w.Seen,w.Known,w.Notes++ns⟩=true:=by
 have p:=SB.1 h;exact SB.2 ⟨p.now,p.cl,p.srv,p.psl,h1,p.seen,p.kl,p.ci,p.kn,jE.2 ⟨p.notes,h4⟩⟩
def zlg{a:Int}(h:0≤a):0≤zA .i64 a 2∧zA .i64 a 2<2:=yH h (by omega)
def zmF{a0 a1}(ha:ZA a0=true)(hn:wt a0≤400000000)(he:PF a1=true):Ok (Ib a0 a1) λr=>rJ a0 r.2.1 r.1:=by
 unfold Ib;have hL:=mB;have he:=fM he;have hd:=zlg he.2.2.1;have W:=SB.1 ha;have hc:=W.cl;have hN:wt a0.Notes≤wt a0:=by simp only[gG];omega
 refine .h (by simp only[B];omega) (.bg (by omega) λe1 mY B6=>?_);have hk:=(W.ci _ _ mY).1;let Q:List Ab→List Ad→Aa→Ae→Prop:=λf n w c=>f.length≤1∧wt f≤400∧TB n∧n.length≤4∧ZA w=true∧w.Clients=a0.Clients∧w.Seen=a0.Seen∧(∃m,w.Notes=a0.Notes++m∧m.length≤1)∧dB c=true∧c.Id=e1.Id∧c.Psk=e1.Psk;have q0:∃m,a0.Notes=a0.Notes++m∧m.length≤1:=⟨[],(List.append_nil _).symm,by decide⟩
 refine .j (λy2:(List Ab)×(List Ad)×Int×Aa×Ae=>Q y2.1 y2.2.1 y2.2.2.2.1 y2.2.2.2.2) (λy2 rW=>?_) λk3 JV=> .c (λh1=>?_) λh1=> .j (λy7:(List Ab)×(List Ad)×Int×Ae=>Q y7.1 y7.2.1 a0 y7.2.2.2) (λy7 IY=>JV _ IY)
  λk8 qW=> .c (λh2=> .b (zdw hk (by omega)) λr9 ⟨p1,p2,p3,p4,p5⟩=>qW _ ⟨p5.1,p5.2,p3,p4,ha,rfl,rfl,q0,p1,p2.1,p2.2.1⟩)
  λh2=> .j (λy7:(List Ab)×(List Ad)×Int×Ae=>Q y7.1 y7.2.1 a0 y7.2.2.2) (λy10 SX=>qW _ SX)
  λk11 fW=> .c (λh3=> .b (zdv hk) λr12 ⟨p1,p2,p3,p4,p5⟩=>fW _ ⟨p5.1,p5.2,p3,p4,ha,rfl,rfl,q0,p1,p2.1,p2.2.1⟩)
  λh3=> .j (λy13:(List Ad)×Int×Ae=>Q [] y13.1 a0 y13.2.2) (λy13 eY=>fW _ eY)
  λk14 eW=> .c (λh4=> .b (zpL hk) λr16 TX=>eW _ ⟨Nat.zero_le _,Nat.zero_le _,qC,Nat.zero_le _,ha,rfl,rfl,q0,TX.1,TX.2⟩)
  λh4=> .j (λy13:(List Ad)×Int×Ae=>Q [] y13.1 a0 y13.2.2) (λy17 S0=>eW _ S0)
  λk18 cX=> .c (λh5=> .jt (λy19=> .b (zea hk) λr21 ⟨p1,p2,p3,p4⟩=>cX _ ⟨Nat.zero_le _,Nat.zero_le _,p3,(by show r21.2.length≤4;omega),ha,rfl,rfl,q0,p1,p2.1,p2.2.1⟩)
  λk20 EY=> .c (λ_=>EY _)
  λ_=>EY _)
  λh5=>cX _ ⟨Nat.zero_le _,Nat.zero_le _,qC,Nat.zero_le _,ha,rfl,rfl,q0,hk,rfl,rfl⟩
 ·obtain⟨p1,p2,p3,p4,p5,p6,p7,⟨m,p8,p8'⟩,p9,p10,p11⟩:=rW;have hnw:=kE p3;have hw5:=(kE (jE.1 (p8▸(SB.1 p5).notes)).2);have h5:wt y2.2.2.2.1.Notes=wt a0.Notes+wt m:=by rw[p8];simp only[N]
  have J8:=ID p9;refine .h (by simp only[B,p6];omega) (.bg (by rw[p6];omega) λe22 EZ Y2=> .g (by omega) (.b (CV (by have:=J8.1;omega) (by omega)) λr24 RX=> .s ?_));rw[p6]at EZ;cases mY.symm.trans EZ;refine wV (m:=m++y2.2.1) (zeI p5 (by rw[p6];exact mY) p9 p10 p11 p3) (by show y2.2.2.2.1.Notes++y2.2.1=_;rw[p8,List.append_assoc]) (by rw[List.length_append];omega) p7 (by have:=RX.1;show wt r24≤1000;omega) λx hx=>((RX.2 (zc9 p9)).1 x hx).1
 ·have hr:=PI a0.D;have hds:=W.dice;have hw:=zbF (QC a0.D).2;have ho:=@za0 (QC a0.D).2 (by omega);have hD:wt a0.D≤wt a0:=by simp only[gG];omega
  have h6:wt [xE (QC a0.D).2]≤200:=by simp only[N]at hw⊢;omega
  refine .m (oA (by omega)) (.m (oA (by simp only[N];omega)) (.g (by omega) (.b (zed hk (by omega)) λr6 ⟨p1,p2,p3,p4,p5⟩=>JV _ ⟨p5.1,p5.2,p3,p4,zvk ha (hr.2.2.1 hds) (kD.2 ⟨ho,qC⟩),rfl,rfl,⟨[_],rfl,Nat.le_refl _⟩,p1,p2.1,p2.2.1⟩)))
def zmE{a0 a1}(ha:ZA a0=true)(hn:wt a0≤400000000)(he:PF a1=true):Ok (Ip a0 a1) λr=>rJ a0 r.2.1 r.1:=by
 unfold Ip;have hL:=mB;have he:=fM he;have W:=SB.1 ha;have hN:wt a0.Notes≤wt a0:=by simp only[gG];omega
 have hB:wt a1.B≤300000:=by simp only[N];omega
 let Q:List Ad→Aa→Prop:=λn w=>TB n∧n.length≤4∧∃s,w=⟨a0.Now,a0.Clients,s,a0.D,a0.Seen,a0.Known,a0.Notes⟩∧BB s=true∧s.Psks=a0.S.Psks
 refine .j (λy1:(List Aq)×(List Ad)×Bool×Aa=>vE y1.1∧(y1.1.length≤1∧wt y1.1≤400)∧Q y1.2.1 y1.2.2.2) (λy1 ZV=>?_)
  λk2 IV=> .c (λh1=> .b (zgN W.srv hB) λr3 ⟨p1,p2,p3,p4,p5,p6⟩=>IV _ ⟨p3,p4,p5,Nat.le_trans p6 (by decide),_,rfl,p1,p2⟩)
  λh1=> .j (λy4:(List Ad)×Bool×Aa=>Q y4.1 y4.2.2) (λy4 mZ=>IV _ ⟨UG,⟨Nat.zero_le _,Nat.zero_le _⟩,mZ⟩)
  λk5 sW=> .c (λh2=> .b (zpG W.srv) λr6 ⟨p1,p2,p3,p4⟩=>sW _ ⟨p3,Nat.le_trans p4 (by decide),_,rfl,p1,p2⟩)
  λh2=> .j (λy4:(List Ad)×Bool×Aa=>Q y4.1 y4.2.2) (λy7 IY=>sW _ IY)
  λk8 qW=> .c (λh3=> .b (zmM W.srv) λr9 ⟨p1,p2,p3,p4⟩=>qW _ ⟨p3,Nat.le_trans p4 (by decide),_,rfl,p1,p2⟩)
  λh3=>qW _ ⟨qC,Nat.zero_le _,_,rfl,W.srv,rfl⟩
 obtain⟨q1,q2,q3,q4,s,q5,q6,q7⟩:=ZV;have hnw:=kE q3;have h5:wt y1.2.2.2.Notes=wt a0.Notes:=by rw[q5]
 refine .g (by omega) (.b (zdL (by omega) q1) λr10 uW=> .s ?_);rw[q5];show rJ a0 r10 ⟨a0.Now,a0.Clients,s,a0.D,a0.Seen,a0.Known,a0.Notes++y1.2.1⟩
 exact wV (m:=y1.2.1) (zeF ha q6 q7 q3) rfl (by omega) rfl (by have:=uW.1;omega) λx hx=>(uW.2 x hx).1
def zno{a0 a1}(ha:ZA a0=true)(hn:wt a0≤400000000)(he:PF a1=true):Ok (Ir a0 a1) λr=>r.2=true→rJ a0 [] r.1:=by
 unfold Ir;have hL:=mB;have he:=fM he;have hd:=zlg he.2.2.1;have W:=SB.1 ha;have hc:=W.cl;have F:=UJ ha;simp only[TO]at F;have hN:wt a0.Notes≤wt a0:=by simp only[gG];omega
 refine .j (λy1:Aa×Am=>XB y1.2=true) (λy1 ZV=>have ZV:=GC ZV; .b (zoC (by omega)) λr8 QW=> .g (by omega) (.m (oA (by simp only[N]at ZV⊢;omega)) (.g (by simp only[N]at ZV⊢;omega) (.s λhk=>?_))))
  λk2 IV=> .c (λh1=> .h (by simp only[B];omega) (.bg (by omega) λe3 v4 R1=> .c (λh2=> .s nofun)
  λh2=>IV _ (zli (AH ha (List.mem_of_getElem? v4)) (.inr (by simpa using h2))).1))
  λh1=> .j (λy4:Bool=>y4=false→(0≤a1.I∧a1.I<(a0.S.T.L.length:Int))∧∀e,a0.S.T.L[a1.I.toNat]?=some e→e.Dead=false) (λy4 mZ=> .c (λh3=> .s nofun)
  λh3=>have i4:=mZ h3; .h (by simp only[B];omega) (.bg (by omega) λe7 MZ uY=>IV _ (have hs:=(KE.1 (IE.1 W.srv).tab).el _ (List.mem_of_getElem? MZ);have hd:=i4.2 _ MZ;by show XB e7.C=true;grind [kC])))
  λk5 sW=> .c (λ_=>sW _ nofun)
  λh5=> .h (by simp only[B]at h5⊢;omega) (.bg (by simp only[B]at h5;omega) λe6 dY kX=>sW _ λq6=>⟨by simp only[B]at h5;omega,λe he=>by cases dY.symm.trans he;exact q6⟩)
 simp only[B,List.length_append]at hk;refine wV (m:=[_]) (zta ha QW.2 (by omega) (kD.2 ⟨?_,qC⟩)) rfl (by simp) rfl (Nat.zero_le _) λx hx=>nomatch hx
 grind [nC,LC,tE,eA,GA]
def ziX{a0:Aa}{a1:Int}{a2:Af}{a3:List UInt8}:Pc (Bf a0 a1 a2 a3) λr=>r.1.Seen=a0.Seen:=by
 unfold Bf
 ((try simp only[lA,eE]);repeat' (first | (with_reducible first | intro _ | apply nE | apply gF | apply RS | apply XD | apply MF) | (refine .s ?_;trivial)))
def zfr{a0:Aa}{a1:Int}{a2:Af}{a3:List UInt8}(ha:ZA a0=true)(hn:wt a0≤400000000)(h0:0≤a1)(h2:a1≤2)(hb:wt a3≤900000000):Ok (Bf a0 a1 a2 a3) λr=>rJ a0 r.2 r.1:=by
 obtain⟨r,h,p1,p2,p3,p4,p5,p6,_,_⟩:=@zid a0 a1 a2 a3 (by omega) hb;refine⟨r,h,p1 ha,p2,ziX r h,by omega,p4,λx hx=>?_⟩
 by_cases e:a1=0
 ·exact(p5 ha e x hx).1
 ·have hc:=(SB.1 ha).cl;have e1:qA .i64 a1 1=a1 - 1:=SA (by omega) (by omega);exact((p6 ha _ e (List.getElem?_eq_getElem (by rw[e1];omega))).1 x hx).1
def zmN{a0 a1}(ha:ZA a0=true)(hn:wt a0≤400000000)(he:PF a1=true)(hw:wt a1≤300000):Ok (Io a0 a1) λr=>r.2.2=true→rJ a0 r.2.1 r.1:=by
 unfold Io;have hL:=mB;have he:=fM he;have W:=SB.1 ha;have F:=UJ ha;have hF:=F;simp only[TO]at F;have hl:=W.cl;have hsn:=QB a0.Seen;have hj:0≤zA .i64 a1.J 3∧zA .i64 a1.J 3<3:=yH (by omega) (by omega);have hO:wt a1.Ops≤300000:=by simp only[N]at hw⊢;omega
 refine .c (λh1=> .b (zd6 hO (by omega) (by omega)) λr1 QV=> .b (zfr ha hn hj.1 (by omega) (by simp only[N];omega)) λr3 pW=> .s λ_=>pW)
  λh1=> .c (λh2=> .s nofun)
  λh2=>?_
 have hs:0<(a0.Seen.length:Int):=by simp only[B]at h2;omega
 have hd3:=yH (a:=a1.I) (n:=(a0.Seen.length:Int)) (by omega) hs;refine .n h2 (.bi hd3.1 hd3.2 λe4 TY vY=> .b (iU (by omega) hF.2.2.2.2.2.1) λr5 RV=>?_);have hb:e4.B.length≤20000:=by simp only[N]at vY F;omega
 refine .m (oA (by simp only[N];omega)) (.j (λy7:Int×Af×Aa×(List UInt8)=>y7.2.2.2.length≤500000∧y7.1≤2) (λy7 IY=> .c (λh3=> .s nofun)
  λh3=> .b (zfr ha hn (by simp only[B]at h3;omega) IY.2 (by have:=IY.1;simp only[N];omega)) λr18 AZ=> .s λ_=>AZ)
  λk8 qW=> .c (λh4=>qW _ ⟨by show e4.B.length≤_;omega,by show(0:Int)≤2;omega⟩)
  λh4=> .j (λy10:Int×Aa×(List UInt8)=>y10.2.2.length≤500000∧y10.1≤2) (λy10 SX=>qW _ SX)
  λk11 fW=> .c (λh5=>fW _ ⟨by show e4.B.length≤_;omega,by show zA .i64 a1.J 3≤2;omega⟩)
  λh5=> .j (λy12:Aa×(List UInt8)=>y12.2.length≤500000) (λy12 tY=>fW _ ⟨tY,RV.2⟩)
  λk13 gW=> .c (λh6=> .c (λh7=> .s nofun) λh7=>?_)
  λh6=>gW _ (by show e4.B.length≤_;omega))
 have hd4:=yH (a:=a1.N) (n:=(e4.B.length:Int)) (by omega) (by simp only[B]at h7;omega);refine .n h7 (.h (by simp only[B];omega) (.bg (by omega) λe14 E0 pZ=> .h (by simp only[B];omega) (.bg (by omega) λe16 t4 X2=>gW _ (by show(List.set e4.B _ _).length≤_;rw[List.length_set];omega))))
def zhA{a0 a1}(ha:ZA a0=true)(hw:wt a0≤500000000)(hb:wt a1≤1000):Ok (Bb a0 a1) λr=>ZA r=true∧∃m,r=⟨a0.Now,a0.Clients,a0.S,a0.D,a0.Seen++m,a0.Known,a0.Notes⟩:=by
 unfold Bb;have hL:=mB;have hw1:=QB a1;let Q:Aa→Prop:=λr=>ZA r=true∧∃m,r=⟨a0.Now,a0.Clients,a0.S,a0.D,a0.Seen++m,a0.Known,a0.Notes⟩
 refine .cp (by omega) (.j Q (λy2 rW=> .s rW)
  λk3 JV=> .l (λx4:Int×Aa=>(0≤x4.1∧x4.1≤(a1.length:Int))∧Q x4.2) (λx4:Int×Aa=>((a1.length:Int) - x4.1).toNat) (λx4 ⟨hx,nY,m,WX⟩ k5 sW=> .c (λh1=> .bi hx.1 (by simpa using h1) λe6 dY kX=> .b (zqj (by have:=(zbA (SB.1 nY).seen).1;omega) (by omega)) λr7 FW=>?_)
  λh1=>JV _ ⟨nY,m,WX⟩) ⟨⟨by show(0:Int)≤0;omega,by show(0:Int)≤_;omega⟩,ha,[],by simp⟩ (by simp only;omega))
 have h1:x4.1<(a1.length:Int):=by simpa using h1
 have e1:gA .i64 x4.1 1=x4.1+1:=DA (by omega) (by omega);refine sW _ ⟨⟨by simp only[e1];omega,by simp only[e1];omega⟩,?_⟩ (by simp only[e1];omega)
 rcases FW with h | ⟨h,h'⟩
 ·rw[h];exact⟨nY,m,WX⟩
 ·exact⟨ztR nY h',m++[e6],by rw[h,WX,List.append_assoc]⟩
end Go.D
namespace Go.D
def zrL{a0:Aa}:Pc (Bm a0) λr=>r.1.Seen=a0.Seen:=by
 unfold Bm
 (try simp only[lA,eE])
 repeat' (first | (with_reducible first | exact Pc.n | refine Pc.p λ_=>?_ | refine Pc.j ?_ | refine Pc.g λ_=>?_ | refine Pc.c (λ_=>?_) λ_=>?_ | refine Pc.b λ_ _=>?_) | exact .s rfl | exact .s ‹_› | (refine Pc.l (λx=>x.2.2.Seen=a0.Seen) rfl (λx k hx hk=>?_) _) | exact hk _ hx | dsimp only)
def zsa{w:Aa}{d:As}(h:ZA w=true)(h1:YB d=true):ZA ⟨w.Now,w.Clients,⟨w.S.Psks,w.S.J,d,w.S.T,w.S.Cr⟩,w.D,w.Seen,w.Known,w.Notes⟩=true:=by
 have p:=SB.1 h;have S:=IE.1 p.srv;exact SB.2 ⟨p.now,p.cl,cJ (d:=⟨w.S.Psks,w.S.J,d,w.S.T,w.S.Cr⟩) p.srv rfl S.jar h1 S.tab S.cr S.id,p.psl,p.dice,p.seen,p.kl,p.ci,p.kn,p.notes⟩
def zj3{a0:Aa}(ha:ZA a0=true)(hn:wt a0≤400000000):Ok (Bm a0) λr=>rJ a0 r.2 r.1:=by
 obtain⟨r,h,p1,p2,p3,p4,p5,_⟩:=@zhd a0 (by omega);exact⟨r,h,p1 ha,p2,zrL r h,by omega,p4,λx hx=>(p5 ha x hx).1⟩
structure DoP(a0:Aa)(a1:Aj)(r:Aa×Bool):Prop where
 no:r.2=false→r.1=a0
 yes:r.2=true→ZA a0=true∧a0.Notes.length≤500∧PF a1=true∧ZA r.1=true∧(∃m,r.1.Notes=a0.Notes++m)∧(∃m,r.1.Seen=a0.Seen++m)
 sz:wt r.1≤wt a0+140000
def zkN{a0:Aa}{a1:Aj}:DoP a0 a1 (a0,false):=⟨λ_=>rfl,nofun,Nat.le_add_right _ _⟩
def zg9{a0 a1}(hn:wt a0≤4000000000)(hw:wt a1≤300000):Ok (Ev a0 a1) (DoP a0 a1):=by
 unfold Ev;have hL:=mB;let Q:List Ak→Bool→Aa→Prop:=λl b w=>b=true→rJ a0 l w;refine .j (λy1:Bool=>y1=false→ZA a0=true∧PF a1=true∧a0.Notes.length≤500) (λy1 ZV=> .c (λh1=> .cp (by omega) (.s zkN)) λh1=>?_) λk2 IV=> .m (oA (by omega)) (.c (λ_=>IV _ nofun) λh2=> .c (λ_=>IV _ nofun) λh3=>IV _ λh4=>⟨nf h2,nf h3,by simp only[B]at h4;omega⟩);obtain⟨ha,he,hN⟩:=ZV h1;have F:=UJ ha;have hn:wt a0≤300000000:=by have:=yO ha;have:=kE (SB.1 ha).notes;omega
 simp only[TO]at F
 refine .jt (λy5=> .j (λy13:(List Ak)×Bool×Aa=>Q y13.1 y13.2.1 y13.2.2) (λy13 eY=> .c (λh3=> .cp (by omega) (.s zkN)) λh3=>?_)
  λk14 eW=> .c (λh4=> .cp (by omega) (.b (zmF ha (by omega) he) λr16 TX=>eW _ λ_=>TX))
  λh4=> .jt (λy17=> .j (λy13:(List Ak)×Bool×Aa=>Q y13.1 y13.2.1 y13.2.2) (λy25 hy25=>eW _ hy25)
  λk26 Q7=> .c (λh5=> .b (zmN ha (by omega) he hw) λr27 XY=>Q7 _ XY)
  λh5=> .jt (λy28=> .j (λy13:(List Ak)×Bool×Aa=>Q y13.1 y13.2.1 y13.2.2) (λy32 G6=>Q7 _ G6)
  λk33 xY=> .c (λh6=> .cp (by omega) (.b (zmE ha (by omega) he) λr35 M6=>xY _ λ_=>M6))
  λh6=> .jt (λy36=> .j (λy13:(List Ak)×Bool×Aa=>Q y13.1 y13.2.1 y13.2.2) (λy38 I7=>xY _ I7)
  λk39 Q0=> .c (λh7=> .cp (by omega) (.b (zno ha (by omega) he) λr41 U1=>Q0 _ U1))
  λh7=> .j (λy13:(List Ak)×Bool×Aa=>Q y13.1 y13.2.1 y13.2.2) (λy42 T1=>Q0 _ T1)
  λk43 IX=> .c (λh8=> .b (zj3 ha (by omega)) λr44 F4=>IX _ λ_=>F4)
  λh8=> .j (λy45:Bool×Aa=>Q [] y45.1 y45.2) (λy45 hy45=>IX _ hy45)
  λk46 R7=> .c (λh9=> .cp (by omega) (.j (λy48:Aa=>rJ a0 [] y48) (λy48 hy48=>R7 _ λ_=>hy48)
  λk49 O0=> .c (λmW=> .b (zic (by simp only[N];omega)) λr50 hr50=>O0 _ ?_)
  λmW=> .b (zic (by have:=F.2.1;simp only[N]at this⊢;omega)) λr51 J7=>O0 _ ?_))
  λh9=>R7 _ nofun)
  λk37 S7=> .c (λ_=>S7 _)
  λ_=>S7 _)
  λk29 P0=> .c (λ_=>P0 _)
  λIW=> .jt (λy30=>P0 _)
  λk31 T7=> .c (λ_=>T7 _)
  λ_=>T7 _)
  λk18 cX=> .c (λ_=>cX _)
  λgY=> .jt (λy19=>cX _)
  λk20 EY=> .c (λ_=>EY _)
  λiY=> .jt (λy21=>EY _)
  λk22 HX=> .c (λ_=>HX _)
  λoY=> .jt (λy23=>HX _)
  λk24 bX=> .c (λ_=>bX _)
  λ_=>bX _)
  λk6 EW=> .c (λ_=>EW _)
  λT0=> .jt (λy7=>EW _)
  λk8 qW=> .c (λ_=>qW _)
  λqZ=> .jt (λy9=>qW _)
  λk10 bW=> .c (λ_=>bW _)
  λrZ=> .jt (λy11=>bW _)
  λk12 BW=> .c (λ_=>BW _)
  λ_=>BW _
 ·have E:=eY (nf h3);refine .b (zhA E.ok (by have:=E.sz;omega) E.wl) λr53 ⟨q1,m,q2⟩=> .s ⟨nofun,λ_=>⟨ha,hN,he,q1,?_,?_⟩,?_⟩
  ·obtain⟨m2,hm⟩:=E.notes;exact⟨m2,by show r53.Notes=_;rw[q2];exact hm⟩
  ·exact⟨m,by show r53.Seen=_;rw[q2, ←E.seen]⟩
  ·have h5:=E.sz;have h6:=(zbA (SB.1 q1).seen).1;have h7:wt r53+wt y13.2.2.Seen=wt y13.2.2+wt r53.Seen:=by rw[q2];simp only[gG];omega
   show wt r53≤_
   omega
 ·exact wV (m:=[]) (ztu ha (hr50.1 (SB.1 ha).dice)) (List.append_nil _).symm (Nat.zero_le _) rfl (Nat.zero_le _) λx hx=>nomatch hx
 ·exact wV (m:=[]) (zsa ha (J7.1 (IE.1 (SB.1 ha).srv).dice)) (List.append_nil _).symm (Nat.zero_le _) rfl (Nat.zero_le _) λx hx=>nomatch hx
end Go.D
namespace Go.D
theorem zgI{c:Ae}(h:dB c=true):yB c.Id c.Psk c.At=⟨c.Id,c.Psk,c.At,0,[],⟨0,0,[],[],0,[],[],0,0,[],[]⟩,⟨0,[],⟨0,[],0,⟨0,[]⟩⟩,⟨0,[],0,⟨0,[]⟩⟩,false,0,[]⟩,⟨false,0,0,0⟩,⟨false,0,0,0⟩,0⟩:=by
 unfold dB at h;simp only[Bool.and_eq_true]at h;unfold yB;rw[h.1.1.1,h.1.1.2,h.1.2];rfl
theorem zew{a0 a1:List UInt8}{a2:Int}{r:List UInt8}(h:Ew a0 a1 a2=some r)(h0:¬a1.length>100)(h1:0≤a2)(h2:¬a2>200)(h3:¬a0.length>1048576):(r.length:Int)=a2:=by
 obtain⟨s,hs,_,hl⟩:=zht (a0:=a0) (a1:=a1) (a2:=a2) (by rw[FA];omega);rw[h]at hs;cases hs;exact hl (by omega)
theorem zfW(k:IntKind)(a b:Int):qB k a b=qB k b a:=by unfold qB;rw[BitVec.xor_comm]
theorem zem{a0:Int}{a1:List UInt8}{a2 a3:Int}{r:List UInt8}(h:Cc a0 a1 a2 a3=some r):(r.length=0↔¬(eA a0 0 1=true∧a1.length=12∧eA a2 0 4294967295=true∧eA a3 0 281474976710655=true)):=by
 revert h;refine(?_:Pc _ (λr:List UInt8=>(r.length=0↔¬(eA a0 0 1=true∧a1.length=12∧eA a2 0 4294967295=true∧eA a3 0 281474976710655=true)))) r
 unfold Cc;((try simp only[JB]);repeat' (first | (with_reducible first | intro _ | apply nE | apply gF | apply RS | apply XD) | (refine .s ?_;first | trivial | grind [mA,LA,eA,CG])))
theorem zkx{a0:List UInt8}{a1:Int}{a2:List UInt8}{a3 a4 a5:Int}{a6:List UInt8}{r:Ab×Bool}(h:Dp a0 a1 a2 a3 a4 a5 a6=some r):(r.2=true↔a0.length=32∧LA a1=true∧PB a5=true∧a2.length=12∧eA a3 0 4294967295=true∧eA a4 0 281474976710655=true∧UF a5 (a6.length:Int)=true)∧(r.2=true→r.1.Sn=a2∧r.1.Epoch=a3∧r.1.Seq=a4):=by
 revert h;refine(?_:Pc _ (λr:Ab×Bool=>(r.2=true↔a0.length=32∧LA a1=true∧PB a5=true∧a2.length=12∧eA a3 0 4294967295=true∧eA a4 0 281474976710655=true∧UF a5 (a6.length:Int)=true)∧(r.2=true→r.1.Sn=a2∧r.1.Epoch=a3∧r.1.Seq=a4))) r
 unfold Dp;((try simp only[yA,FC]);repeat' (first | (with_reducible first | intro _ | apply nE | apply gF | apply XD | apply MF) | (refine .s ?_;first | trivial | grind [mA,LA,eA,oB])))
theorem zi5{a0:Av}{a1:Int}{a2:List UInt8}{a3:Int}{a4:List UInt8}{r:Av×Ab×Int}(h:Ej a0 a1 a2 a3 a4=some r):(r.2.2≠0→r.1=a0)∧(r.2.2=0→r.2.1.Sn=a2∧r.2.1.Epoch=a0.N∧r.2.1.Seq=a0.Seq):=by
 revert h;refine(?_:Pc _ (λr:Av×Ab×Int=>(r.2.2≠0→r.1=a0)∧(r.2.2=0→r.2.1.Sn=a2∧r.2.1.Epoch=a0.N∧r.2.1.Seq=a0.Seq))) r
 unfold Ej;((try simp only[lA]);repeat' (first | (with_reducible first | intro _ | apply nE | apply gF | apply XD | apply MF) | (refine .s ?_;first | trivial | grind [mA,LA,eA, →zkx,JC])))
theorem zei{a0:Am}{a1:Int}{a2:List UInt8}{r:Am×Ab×Int}(h:Bs a0 a1 a2=some r):(r.2.2≠0→r.1=a0)∧(r.2.2=0→r.2.1.Sn=a0.Sn∧r.2.1.Epoch=a0.Cur.N∧r.2.1.Seq=a0.Cur.Seq):=by
 revert h;refine(?_:Pc _ (λr:Am×Ab×Int=>(r.2.2≠0→r.1=a0)∧(r.2.2=0→r.2.1.Sn=a0.Sn∧r.2.1.Epoch=a0.Cur.N∧r.2.1.Seq=a0.Cur.Seq))) r
 unfold Bs;cases a0;((try simp only[lA,jC]);repeat' (first | (with_reducible first | intro _ | apply nE | apply XD | apply MF) | (refine .s ?_;grind [mA,LA,eA, →zi5])))
theorem zjT(b:List UInt8)(n k:Int):rD b n k=b++rD [] n k:=by
 unfold rD;cases decide (k<1)||decide (k>6)<;>simp
def zfI{a b c d e f g:List UInt8}:XC [a,b,c,d,e,f,g]=pt (wt [a,b,c,d,e,f,g]≤bA) (a++b++c++d++e++f++g):=by unfold XC;simp
theorem zhP{a0:Au}{a1:Int}{r:Au×Int}(h:Cm a0 a1=some r):r.2=0→r.1=a0:=by
 revert h;refine(?_:Pc _ (λr:Au×Int=>r.2=0→r.1=a0)) r
 unfold Cm;((try simp only);repeat' (first | (with_reducible first | intro _ | apply XD | apply MF) | (refine .s ?_;grind [mA,LA,eA])))
end Go.D
namespace Go.D
def zbu{a0 a1}:Ag (Ck a0 a1) (Br a0 a1):=by
 unfold Ck Br Hi;have h1:=@SA a0.Top 1024;have h2:=@DA (qA .i64 a0.Top 1024) 1;((try simp only[KF,bc,bs]);repeat' (first | (with_reducible first | intro _ | apply PE | apply SE | exact .r0 | apply eB | apply ZB | apply cB) | (with_reducible refine Ag.cr (λ_=>?_) (λ_=>?_)<;>try (exfalso;grind (splits:=3) [mA,LA,eA,RC];done)) | with_reducible apply dC | (refine .s ?_;grind [mA,LA,eA,yB,iC,List.length_eq_zero_iff,RC])))
instance{a0:Ap}{a1:Int}:KA (Br a0 a1) (Ck a0 a1):=⟨zbu⟩
def ziT{a0:Ap}{a1:Int}{r:Bool}(h:Ck a0 a1=some r):r=true→RC a0=true:=by
 revert h;refine(?_:Pc _ (λr:Bool=>r=true→RC a0=true)) r
 unfold Ck;((try simp only[KF]);repeat' (first | (with_reducible first | intro _ | apply nE | apply gF | apply XD) | (refine .s ?_;first | trivial | grind [mA,LA,eA])))
def zp0{a0:Ap}{a1:Int}{r2:Bool}(h:RC a0=true)(hr:Br a0 a1=some r2):Ok (Cw a0 a1) λr=>r.2=fK a0 a1∧(r.2=false→r.1=a0)∧(r.2=true→nL a0 a1.toNat r.1):=by
 have hL:=mB;have hw:=zbz.1 h;have hwt:wt a0=32:=by have:=hw.words.1;simp only[N];exact this
 unfold Cw;refine Ok.same (oA (p:=wt a0≤bA) (by omega)) ?_;refine Ok.same hr ?_
 have DW:r2=fK a0 a1:=by
  obtain⟨q,hq,e⟩:=zdT (a1:=a1) h;rw[←e];exact(zbu q r2 hq hr).symm
 rw[←DW];refine Ok.cond' (λe=>Ok.some' ⟨(by simpa using e:r2=false).symm,λ_=>rfl,nofun⟩) (λh'=>?_);simp only[B]at h';have ht:=hw.top
 have hm:True∧0≤a1∧a1≤281474976710655:=by
  rw[DW]at h';simp only[fK,Bool.and_eq_true,uB]at h';exact⟨trivial,h'.1⟩
 rw[h'];clear DW hr;obtain⟨n,rfl⟩:=Int.eq_ofNat_of_zero_le hm.2.1;have e1:=MS (n:=(n:Int)) (by omega);have e2:=JS (n:=(n:Int) % 1024) (by omega) (by omega);have e3:=pO (a:=(n:Int) % 1024) (b:=32) (by omega);rw[e1,e2,e3];have q1:((n:Int) % 1024 / 32).toNat=n % 1024 / 32:=by omega
 have q2:(n:Int) % 1024 % 32=((n % 1024 % 32:Nat):Int):=by omega
 refine Ok.join (λy:Ap=>FF y.Bits∧y.Top=a0.Top∧∀i,PC y i=true↔PC a0 i=true∧¬MH (a0.Top+1) ((n:Int)+1) i) (λy hy=>?_) (λk hk=>?_)
 ·obtain⟨w1,w2,w3⟩:=hy;obtain⟨m,m1,m2⟩:=w1.get (j:=n % 1024 / 32) (by omega);have hl:=w1.1;refine Ok.chk ?_ ?_
  ·simp only[B];omega
  rw[q1,m2,Option.bind_some];refine Ok.chkn ?_ ?_
  ·simp only[B];omega
  refine Ok.chk ?_ ?_
  ·simp only[B];omega
  rw[Option.bind_some,q2,(aV m1 (by omega)).1];refine Ok.join (λz:Ap=>nL a0 n z) (λz hz=>Ok.some' ⟨rfl,nofun,λ_=>hz⟩) (λk' NW=>?_)
  have key:∀t:Int,t=pG a0.Top (n:Int)→nL a0 n ⟨t,y.Bits.set (n % 1024 / 32) ((m|||2^(n % 1024 % 32):Nat):Int)⟩:=λt ht=>
   ⟨ht,w1.set _ (aV m1 (by omega)).2,λi=>by rw[zjC (w:=y) (t:=t) w1 m1 m2,Bool.or_eq_true,w3,zcD]⟩
  refine Ok.cond' (λh3=>NW _ (key _ ?_)) (λh3=>NW _ (key _ ?_))
  ·simp only[B]at h3;unfold pG;rw[if_pos h3]
  ·simp only[B]at h3;unfold pG;rw[if_neg h3,w2]
 ·refine Ok.loop (λx:Int×Int×Ap=>(0≤x.2.1∧x.2.1≤281474976710656∧0≤x.1∧x.1≤1024∧a0.Top+1+x.1=x.2.1∧(x.1=0∨x.2.1≤(n:Int)+1))∧FF x.2.2.Bits∧x.2.2.Top=a0.Top∧∀i,PC x.2.2 i=true↔PC a0 i=true∧¬MH (a0.Top+1) x.2.1 i)
   (λx=>(1025 - x.1).toNat) (λx hx k' NW=>?_) ?_ ?_
  ·obtain⟨x0,x1,x2,x3⟩:=hx;obtain⟨p,hp⟩:=Int.eq_ofNat_of_zero_le x0.1;have f1:=MS x0.1;have f2:=JS (n:=x.2.1 % 1024) (by omega) (by omega);have f3:=pO (a:=x.2.1 % 1024) (b:=32) (by omega);rw[f1,f2,f3];have p1:(x.2.1 % 1024 / 32).toNat=p % 1024 / 32:=by omega
   have p2:x.2.1 % 1024 % 32=((p % 1024 % 32:Nat):Int):=by omega
   refine Ok.join (λy:Bool=>(y=true→x.1<1024∧x.2.1≤(n:Int))∧(y=false→1024≤x.1∨(n:Int)<x.2.1)) (λy hy=>?_) (λk2 IV=>?_)
   ·refine Ok.cond' (λh=>?_) (λh=>hk _ ⟨x1,x2,λi=>?_⟩)
    ·have hy:=hy.1 h;obtain⟨m,m1,m2⟩:=x1.get (j:=p % 1024 / 32) (by omega);have hl:=x1.1;refine Ok.chk ?_ ?_
     ·simp only[B];omega
     rw[p1,m2,Option.bind_some];refine Ok.chkn ?_ ?_
     ·simp only[B];omega
     refine Ok.chk ?_ ?_
     ·simp only[B];omega
     rw[Option.bind_some,p2];obtain⟨c,c1,c2,c3⟩:=ziU (k:=p % 1024 % 32) m1 (by omega);rw[c1];have g1:=DA (a:=x.1) (b:=1) (by omega) (by omega);have g2:=DA (a:=x.2.1) (b:=1) (by omega) (by omega);refine NW _ ?_ ?_
     ·refine⟨by simp only;omega,x1.set _ c2,x2,λi=>?_⟩;show PC ⟨x.2.2.Top,_⟩ i=true↔_∧¬MH _ (gA .i64 x.2.1 1) i
      rw[g2,ziZ x1 m1 m2 c2 c3,Bool.and_eq_true,x3,zjY (by omega),Bool.not_eq_true', ←Bool.not_eq_true,zcD,hp,not_or,and_assoc,eq_comm (a:=(i:Int) % 1024)]
     ·simp only;omega
    ·rw[x3]
     rcases hy.2 h with h | h
     ·exact⟨λk=>absurd (zkz (by omega)) k.2,λk=>absurd (zkz (by omega)) k.2⟩
     ·rcases x0.2.2.2.2.2 with e | e
      ·exact and_congr_right λ_=>not_congr ⟨λc=>absurd c (dO (by omega)),λc=>absurd c (dO (by omega))⟩
      ·rw[show x.2.1=(n:Int)+1 by omega]
   ·refine Ok.cond' (λh=>IV _ ⟨λq=>?_,λq=>?_⟩) (λh=>IV _ ⟨λq=>(nomatch q),λ_=>?_⟩)
    ·simp only[B]at h q;omega
    ·simp only[B]at h q;omega
    ·simp only[B]at h;omega
  ·have g:=DA (a:=a0.Top) (b:=1) (by have:=hw.top;omega) (by have:=hw.top;omega);have ht:=hw.top;exact⟨⟨by simp only;omega,by simp only;omega,Int.le_refl _,by show(0:Int)≤1024;decide,by simp only;omega, .inl rfl⟩,hw.words,rfl,λi=>⟨λh=>⟨h,dO (by show gA .i64 a0.Top 1≤_;omega)⟩,λh=>h.1⟩⟩
  ·simp only;omega
def zrf{a0 a1}:Ag (De a0 a1) (Cw a0 a1):=by
 cases h:RC a0
 ·unfold De Cw;refine .pl λ_=> .pr λ_=> .bd inferInstance λv hv _=> .cc (λ_=> .r0) λe=>?_;have:=ziT hv (by simpa using e);rw[h]at this;cases this
 ·cases hk:Br a0 a1 with
  | none=>
   unfold Cw;refine .pr λ_=>?_;rw[hk];exact .nr
  | some m=>
   obtain⟨r,hr,r1,r2,r3⟩:=zp0 h hk;obtain⟨q,hq,q1,q2,q3,_⟩:=zdV (a1:=a1) h;intro x y hx hy;cases hq.symm.trans hx;cases hr.symm.trans hy;obtain⟨u,b⟩:=r;obtain⟨v,c⟩:=q;have e:b=c:=r1.trans q1.symm;subst e;cases b
   ·rw[show u=a0 from r2 rfl,show v=a0 from q2 rfl]
   ·have:=(r3 rfl).same (q3 rfl);rw[show u=v from this]
theorem zql{a0:Ap}{a1:Int}{r:Ap×Bool}{m:Bool}(h:De a0 a1=some r)(k:Br a0 a1=some m):r.2=m:=by
 cases e:RC a0
 ·unfold De at h
  revert h;refine(?_:Pc _ (λr:Ap×Bool=>r.2=m)) r
  refine .p λ_=> .b λv hv=> .c (λhn=> .s ?_) λhn=>?_
  ·rw[←zbu v m hv k];simpa using hn.symm
  ·have:=ziT hv (by simpa using hn);rw[e]at this;cases this
 ·obtain⟨q,hq,q1,_⟩:=zdV (a1:=a1) e;obtain⟨p,hp,e2⟩:=zdT (a1:=a1) e;rw[←zbu p m hp k,e2];cases hq.symm.trans h;exact q1
end Go.D
namespace Go.D
def zig{a0 a1}:Ag (Dh a0 a1) (Bx a0 a1):=by
 unfold Dh Bx Ds;((try simp only[lA,ba,bx,rH]);repeat' ((with_reducible first | intro _ | exact .r0 | apply eB | apply ZB | refine .bd inferInstance ?_ | apply pD | apply EB | apply cB | apply pL | apply DC | (apply_assumption;done) | refine .bR ‹_› ?_)))
instance{a0:Ah}{a1:Int}:KA (Bx a0 a1) (Dh a0 a1):=⟨zig⟩
def zt7{p:Ah}{n:Int}(h:gC p=true)(k:eA n 0 1000000=true):Ag (Ds p n) (Bx p n):=λv w hv hw=>by
 refine zig v w ?_ hw;unfold Dh aA;rw[h,k,hv];rfl
def ztj{α:Type}{p:Ah}{a:Af}{z:Option α}{x y:Option α}{s0:Ah}{n:Nat}(hw:wt p≤bA)(h1:0≤qE p a→Ag z x)(h2:qE p a<0→Ag z y):Ag z (wA n (λ(x8:Int×Ah) k9=>
  cond (decide (x8.1<(p.Cands.length:Int)))
   (cond (decide (0≤x8.1)&&decide (x8.1<(p.Cands.length:Int))) (Option.bind (p.Cands[x8.1.toNat]?) fun e10=>
    cond (cond (e10.A.Host==a.Host) (cond (e10.A.Port==a.Port) (true) false) false) x (k9 ((gA .i64 x8.1 1),x8.2))) none)
   y) (0,s0)):=by
 rcases zaz p a with⟨e,h⟩ | ⟨i,c,e,hi,hs⟩
 ·refine Ag.lI (λ_=>True) trivial (λx k _ hk=> .cr (λ_=> .gr λ_=> .br λc hc=> .cr (λhx=>?_) λ_=>hk _ trivial) λ_=>h2 (by omega)) n;rw[zbi,h c (List.mem_of_getElem? hc)]at hx;cases hx
 ·refine Ag.lI (λx:Int×Ah=>0≤x.1∧x.1≤i) ⟨Int.le_refl _,by simp only;omega⟩ (λx k hx hk=> .cr (λ_=> .gr λhg=> .br λd hd=> .cr (λ_=>h1 (by omega)) λY5=>hk _ ?_) λdW=>?_) n
  ·by_cases he:x.1=(i:Int)
   ·rw[he,Int.toNat_natCast,hi]at hd;cases hd;rw[zbi,hs]at Y5;cases Y5
   ·simp only;have:=(List.getElem?_eq_some_iff.1 hi).1;have hL:=mB;have:=QB p.Cands;rw[bK]at hw;rw[DA (by omega) (by omega)];omega
  ·have:=(List.getElem?_eq_some_iff.1 hi).1;simp only[B]at dW;omega
def zsm{a0 a1 a2 a3}:Ag (Gg a0 a1 a2 a3) (Fo a0 a1 a2 a3):=by
 unfold Gg Fo;cases h1:gC a0
 ·((try simp only[lA,yA,NI,List.nil_append]);repeat' (first | (with_reducible first | intro _ | apply PE | apply SE | exact .r0 | apply eB | apply pD | apply cB) | (with_reducible refine Ag.cr (λ_=>?_) (λ_=>?_)<;>try (exfalso;grind (splits:=3) [mA,LA,eA];done)) | (with_reducible first | apply iD | apply dC | apply EG | apply sE) | (exfalso;grind [mA,LA,eA])))
 cases h2:eA a1 0 1000000
 ·((try simp only[lA,yA,NI,List.nil_append]);repeat' (first | (with_reducible first | intro _ | apply PE | apply SE | exact .r0 | apply eB | apply pD | apply cB) | (with_reducible refine Ag.cr (λ_=>?_) (λ_=>?_)<;>try (exfalso;grind (splits:=3) [mA,LA,eA];done)) | (with_reducible first | apply iD | apply dC | apply EG | apply sE) | (exfalso;grind [mA,LA,eA])))
 haveI:KA (Bx a0 a1) (Ds a0 a1):=⟨zt7 h1 h2⟩
 ((try simp only[lA,yA,NI,List.nil_append]);repeat' (first | (with_reducible first | intro _ | apply PE | apply SE | exact .r0 | apply eB | apply ZB | refine .bd inferInstance ?_ | apply pD | apply cB) | (with_reducible refine Ag.cr (λ_=>?_) (λ_=>?_)<;>try (exfalso;grind (splits:=3) [mA,LA,eA];done)) | (with_reducible first | apply iD | apply dC | apply EG | apply sE) | (refine .s ?_;grind [mA,LA,eA,yB,iC,List.length_eq_zero_iff]) | (exfalso;grind [mA,LA,eA]) | dsimp only[cond_true,cond_false]))
 all_goals (refine ztj ‹_› (λ_=>?_) (λ_=>?_)<;>(repeat' (first | (with_reducible first | intro _ | exact .r0 | apply ZB | apply EB | refine .ct ‹_› ?_ | refine .cf ‹_› ?_) | (with_reducible refine Ag.cr (λ_=>?_) (λ_=>?_)<;>try (exfalso;grind (splits:=3) [mA,LA,eA];done)) | (refine .s ?_;grind [mA,LA,eA,yB,iC,List.length_eq_zero_iff]))))
def ztf{p:Ah}{a:Af}{i:Nat}{c:Aw}(h:gC p=true)(hi:p.Cands[i]?=some c)(hs:vB c.A a=true):kK p a=(c,true)∧p.Cands.filter (λe=>!vB e.A a)=p.Cands.take i++p.Cands.drop (i+1):=by
 have hp:=CJ.1 h;obtain⟨h1,rfl⟩:=List.getElem?_eq_some_iff.1 hi
 have sp:p.Cands=p.Cands.take i++p.Cands[i] :: p.Cands.drop (i+1):=by
  rw[←List.drop_eq_getElem_cons h1,List.take_append_drop]
 have h2:=hp.two;rw[sp]at h2;have h3:=List.pairwise_append.1 h2
 have MV:∀e∈p.Cands.take i,vB e.A a=false:=λe he=>by
  have:=h3.2.2 e he _ List.mem_cons_self;rwa [lU.1 hs]at this
 have sV:∀e∈p.Cands.drop (i+1),vB e.A a=false:=λe he=>by
  have:=(List.pairwise_cons.1 h3.2.1).1 e he;rw[lU.1 hs,zqs]at this;exact this
 constructor
 ·have hf:p.Cands.find? (λe=>vB e.A a)=some p.Cands[i]:=by
   rw[List.find?_eq_some_iff_append];exact⟨hs,_,_,sp,λe he=>by rw[MV e he];rfl⟩
  unfold kK;rw[h,hf];rfl
 ·conv=>lhs;rw[sp]
  rw[List.filter_append,List.filter_cons_of_neg (by rw[hs];decide),List.filter_eq_self.2 λe he=>by rw[MV e he];rfl,List.filter_eq_self.2 λe he=>by rw[sV e he];rfl]
def zum{α:Type}{l:List Aw}{a:Af}{z:Option α}{K:Ah→Option α}{c:List Aw→Aw→Bool}{n:Nat}(hl:l.length≤3)(h:Ag z (K ⟨a,l.filter λe=>!vB e.A a⟩)):Ag z (wA n (λ(x8:Int×Ah) k9=>
  cond (decide (x8.1<(l.length:Int)))
   (Option.bind (nA l x8.1) fun e10=>aA (fun (y12:Ah)=>k9 ((gA .i64 x8.1 1),y12)) fun k13=>
    cond (!(cond (e10.A.Host==a.Host) (cond (e10.A.Port==a.Port) (true) false) false))
     (Option.bind (nA l x8.1) λe14=>Option.bind (pt (wt e14≤bA) e14) λr15=>cond (c x8.2.Cands r15) (k13 (⟨x8.2.At,x8.2.Cands++[r15]⟩:Ah)) none)
     (k13 x8.2))
   (K x8.2)) (0,(⟨a,[]⟩:Ah))):=by
 refine Ag.lI (λx=>∃i:Nat,x=((i:Int),(⟨a,(l.take i).filter λe=>!vB e.A a⟩:Ah))∧i≤l.length) ⟨0,rfl,by omega⟩ (λx k hx hk=>?_) n;obtain⟨i,hx,h2⟩:=hx;subst hx;refine .cr (λhc=> .br λe he=> .jr ?_) λhc=>?_
 ·simp only[B]at hc;have hi:gA .i64 (i:Int) 1=((i+1:Nat):Int):=by rw[DA (by omega) (by omega)];omega
  have eX:l[i]?=some e:=by rw[nA,if_pos (by omega),Int.toNat_natCast]at he;exact he
  have ht:(l.take (i+1)).filter (λe=>!vB e.A a)=(l.take i).filter (λe=>!vB e.A a)++(if(!vB e.A a)=true then[e]else[]):=by
   rw[List.take_succ,eX,List.filter_append];cases hq:vB e.A a<;>simp[hq]
  rw[zbi];refine .cr (λh3=> .bR he (.pr λ_=> .gr λ_=>hk _ ⟨i+1,?_,by omega⟩)) λh3=>hk _ ⟨i+1,?_,by omega⟩
  ·rw[ht,if_pos h3,hi]
  ·rw[ht,if_neg (by rw[h3];decide),hi,List.append_nil]
 ·simp only[B]at hc;rw[List.take_of_length_le (by omega)];exact h
def zq2{a0 a1 a2 a3}:Ag (Gf a0 a1 a2 a3) (Fn a0 a1 a2 a3):=by
 unfold Gf Fn;cases h1:gC a0
 ·have:(kK a0 a2).2=false:=by unfold kK;rw[h1];rfl
  ((try simp only[lA,NI,DB,tM,rH]);repeat' (first | (with_reducible first | intro _ | apply PE | apply SE | exact .r0 | apply eB | apply ZB | apply pD) | (with_reducible refine Ag.cr (λ_=>?_) (λ_=>?_)<;>try (exfalso;grind (splits:=3) [mA,LA,eA];done)) | (with_reducible first | apply iD | apply dC) | (refine .s ?_;grind [mA,LA,eA,yB,iC,List.length_eq_zero_iff])))
 have hl:=(CJ.1 h1).len
 rcases zaz a0 a2 with⟨e,h⟩ | ⟨i,c,e,hi,hs⟩
 ·have:(kK a0 a2).2=false:=by
   unfold kK;rw[h1,List.find?_eq_none.2 λc hc=>by rw[h c hc];decide];rfl
  ((try simp only[lA,NI,DB,tM,rH]);repeat' (first | (with_reducible first | intro _ | apply PE | apply SE | exact .r0 | apply eB | apply ZB | apply pD) | (with_reducible refine Ag.cr (λ_=>?_) (λ_=>?_)<;>try (exfalso;grind (splits:=3) [mA,LA,eA];done)) | (with_reducible first | apply iD | apply dC) | (refine .s ?_;grind [mA,LA,eA,yB,iC,List.length_eq_zero_iff])))
 ·obtain⟨hc,hf⟩:=ztf h1 hi hs;have hx:nA a0.Cands (i:Int)=some c:=by rw[nA,if_pos (by omega),Int.toNat_natCast];exact hi
  have hn:=(List.getElem?_eq_some_iff.1 hi).1;have ha:=@DA i 1;simp only[NI,tM,hc,e]
  ((try simp only[lA,NI,DB,tM,rH]);repeat' (first | (with_reducible first | intro _ | apply PE | apply SE | exact .r0 | apply eB | apply ZB | apply pD | apply cB) | (with_reducible refine Ag.cr (λ_=>?_) (λ_=>?_)<;>try (exfalso;grind (splits:=3) [mA,LA,eA];done)) | (with_reducible first | apply iD | apply dC | apply EG) | (refine .s ?_;grind [mA,LA,eA,yB,iC,List.length_eq_zero_iff]) | (exfalso;grind [mA,LA,eA]) | dsimp only[cond_true,cond_false]))
  all_goals (with_reducible refine zum (a:=a2) (K:=λp=>some (p,true)) (c:=λl e=>decide (l.length+[e].length≤bA)) hl ?_)
  rw[hf,ha (by omega) (by omega),show((i:Int) - 0).toNat=i by omega,show((i:Int)+1).toNat=i+1 by omega,List.take_of_length_le (l:=a0.Cands.drop (i+1)) (by rw[List.length_drop];omega)];exact .r0
end Go.D
namespace Go.D
theorem zd8{a0:Ai}{a1:List UInt8}{r:Ai×List Aq×List Ad×Int}(h:Dw a0 a1=some r):(r.2.2.2≠0→r.2.1=[]∧r.2.2.1=[])∧(kC a0=true→a1.length>40→r.1=a0):=by
 revert h;refine(?_:Pc _ (λr:Ai×List Aq×List Ad×Int=>(r.2.2.2≠0→r.2.1=[]∧r.2.2.1=[])∧(kC a0=true→a1.length>40→r.1=a0))) r
 unfold Dw;((try simp only[lA,yA,AD]);repeat' (first | (with_reducible first | intro _ | apply nE | apply gF | apply XD | apply MF) | (refine .s ?_;first | trivial | grind [mA,LA,eA])))
def zpR{a0:Ai}{a1:List UInt8}{r:Ai×List Aq×List Ad×Int}(h:Dw a0 a1=some r)(hs:kC a0=true):GE a0 r.1:=by
 by_cases hl:a1.length≤40
 ·obtain⟨q,hq,h1,_⟩:=zgZ (a1:=a1) hs (by rw[FA];omega);cases hq.symm.trans h;exact h1
 ·rw[(zd8 h).2 hs (by omega)];exact NN hs
def zba{t:Ao}{i:Int}{e s:Ai}{r:Ao×Bool}(h:Bu t i s=some r)(ht:OC t=true)(he:nA t.L i=some e)(hs:GE e s):r=(⟨t.Cap,t.L.set i.toNat s⟩,true):=by
 have h0:0≤i:=by unfold nA at he;split at he<;>first | assumption | cases he
 rw[nA,if_pos h0]at he;have hk:=ztm ht he hs;have hn:=(List.getElem?_eq_some_iff.1 he).1
 revert h;refine(?_:Pc _ (λr:Ao×Bool=>r=(⟨t.Cap,t.L.set i.toNat s⟩,true))) r
 unfold Bu;((try simp only[lA,jG]);repeat' (first | (with_reducible first | intro _ | apply nE | apply gF | apply RS | apply XD | apply MF) | (refine .s ?_;first | trivial | grind [mA,LA,eA])))
def zcR{s:Ac}{i:Int}{e:Ai}(hs:BB s=true)(he:nA s.T.L i=some e):OC s.T=true∧kC e=true:=by
 have ht:=(IE.1 hs).tab;unfold nA at he;split at he
 ·exact⟨ht,(KE.1 ht).el _ (List.mem_of_getElem? he)⟩
 ·cases he
theorem zkF{s:Ac}{i:Int}{e:Ai}{b:List UInt8}{r:Ai×List Aq×List Ad×Int}{t:Ao×Bool}(h1:Dw e b=some r)(h2:Bu s.T i r.1=some t)(he:nA s.T.L i=some e)(hs:BB s=true):t=(⟨s.T.Cap,s.T.L.set i.toNat r.1⟩,true):=
 zba h2 (zcR hs he).1 he (zpR h1 (zcR hs he).2)
theorem zkn{s:Ac}{i:Int}{e r:Ai}{t:Ao×Bool}(h1:Et e=some r)(h2:Bu s.T i r=some t)(he:nA s.T.L i=some e)(hs:BB s=true):t=(⟨s.T.Cap,s.T.L.set i.toNat r⟩,true):=
 zba h2 (zcR hs he).1 he (by
  obtain⟨q,hq,h,_⟩:=zd5 (zcR hs he).2;cases hq.symm.trans h1;exact h)
def zk4{s:Ac}(h:BB s=true):qA .i64 (s.T.L.length:Int) 1=(s.T.L.length:Int) - 1:=by
 have:=(KE.1 (IE.1 h).tab).len;exact SA (by omega) (by omega)
end Go.D
namespace Go.D
def zst(u v:UInt8):qB .u8 ((u.toNat:Nat):Int) ((v.toNat:Nat):Int)=(((u^^^v).toNat:Nat):Int):=by
 unfold qB;show IntKind.wrap .u8 (((BitVec.ofInt 8 ((u.toNat:Nat):Int)^^^BitVec.ofInt 8 ((v.toNat:Nat):Int)).toNat:Nat):Int)=_
 rw[BitVec.ofInt_natCast,BitVec.ofInt_natCast];have:(BitVec.ofNat 8 u.toNat^^^BitVec.ofNat 8 v.toNat)=(u^^^v).toBitVec:=by simp
 rw[this];have h:(u^^^v).toNat<256:=UInt8.toNat_lt _;show IntKind.wrap .u8 (((u^^^v).toNat:Nat):Int)=_
 generalize (u^^^v).toNat=n at h;simp[IntKind.wrap,IntKind.bits,IntKind.signed];omega
def zkE{m n:Nat}(hm:m<256)(hn:n<256):sK .i64 (m:Int) (n:Int)=((m|||n:Nat):Int)∧m|||n<256:=by
 have h2:m|||n<2^8:=Nat.or_lt_two_pow hm hn
 refine⟨?_,h2⟩;unfold sK;show IntKind.wrap .i64 (((BitVec.ofInt 64 (m:Int)|||BitVec.ofInt 64 (n:Int)).toNat:Nat):Int)=_
 rw[BitVec.ofInt_natCast,BitVec.ofInt_natCast,BitVec.toNat_or,BitVec.toNat_ofNat,BitVec.toNat_ofNat,Nat.mod_eq_of_lt (by omega),Nat.mod_eq_of_lt (by omega)];exact IB (by omega) (by omega)
theorem zka{a b:List UInt8}{r:Int}(h:Bq a b=some r)(hl:a.length≤1000000):r=0↔a=b:=by
 revert h;refine(?_:Pc _ (λr:Int=>r=0↔a=b)) r
 unfold Bq;refine .c (λh=> .s ?_) λh=> .j ?_
 ·simp only[bne_iff_ne,ne_eq]at h;exact⟨λk=>by omega,λk=>by rw[k]at h;omega⟩
 have h:a.length=b.length:=by simp at h;omega
 refine Pc.l (λx=>∃i m:Nat,x=((m:Int),(i:Int))∧m<256∧i≤a.length∧(m=0↔a.take i=b.take i)) ⟨0,0,rfl,by decide,by omega,by simp⟩ (λx k hx hk=>?_) _;obtain⟨i,m,hx,h1,h2,h3⟩:=hx;subst hx;refine .c (λhc=> .b λe he=> .b λf hf=>?_) λhc=> .s ?_
 ·simp only[B]at hc;rw[nA,if_pos (by omega),Int.toNat_natCast]at he hf;have hx:(e^^^f).toNat<256:=UInt8.toNat_lt _;dsimp only;rw[zst,IB (by omega) (by omega),(zkE h1 hx).1,DA (by omega) (by omega)];refine hk _ ⟨i+1,m|||(e^^^f).toNat,rfl,(zkE h1 hx).2,by omega,?_⟩;rw[Nat.or_eq_zero_iff,h3,List.take_add_one,List.take_add_one,he,hf]
  have hz:(e^^^f).toNat=0↔e=f:=by
   rw[←UInt8.toNat_zero,UInt8.toNat_inj];exact UInt8.xor_eq_zero_iff
  rw[hz];constructor
  ·rintro⟨p,rfl⟩;rw[p]
  ·intro p;have:=List.append_inj p (by rw[List.length_take,List.length_take,h]);exact⟨this.1,by simpa using this.2⟩
 ·simp only[B]at hc;have e:i=a.length:=by omega
  rw[e,List.take_length,h,List.take_length]at h3;rw[←h3];dsimp only;omega
def zp7{a0 a1 a2}(hE:∀e:Av,∀r f,Ag (Eq e r f) (Cy e r f))(hN:∀n k,Ag (Dd n k) (Cu n k)):Ag (Df a0 a1 a2) (Ee a0 a1 a2):=by
 haveI:∀e r f,KA (Cy e r f) (Eq e r f):=λe r f=>⟨hE e r f⟩
 haveI:∀n k,KA (Cu n k) (Dd n k):=λn k=>⟨hN n k⟩
 unfold Df Ee
 (try simp only[lA,jC,FC,DB])
 refine .pl λ_=> .pr λ_=> .jBl (.jBr (.pl λ_=> .pr λ_=> .cc (λ_=> .r0) λh1=> .cc (λ_=> .r0) λh2=>?_));cases hs:PB a2.Kind<;>cases hf:oB a2<;>simp only[Bool.not_true,Bool.not_false,cond_true,cond_false]
 ·exact .r0
 ·exact .r0
 ·exact .pl λ_=> .r0
 have hc:XB a0=true:=by simpa using h1
 have cn:=GC hc;have fl:=(jD hf).2.1;have ha:=DA (a:=a0.Cur.N) (b:=1) (by omega) (by omega);have hb:=SA (a:=a0.Cur.N) (b:=1) (by omega) (by omega)
 have ho:a0.HasOld=true→a0.Old.N=a0.Cur.N - 1:=λh=>by
  simp only[XB,GG,h,cond_true,Bool.and_eq_true,beq_iff_eq]at hc;rw[hc.1.2.1.2,hb]
 rw[ha]
 have hd:∀r,Bq a2.Sn a0.Sn=some r→(r !=0)= !(a2.Sn==a0.Sn):=λr h=>by
  have:=zka h (by omega)
  grind
 have f1:(a2.Epoch==a0.Cur.N)=true→(a2.Epoch==a0.Cur.N+1)=false:=λh=>by
  rw[beq_iff_eq]at h;exact beq_eq_false_iff_ne.2 (by omega)
 have f2:(a2.Epoch==a0.Cur.N)=true→a0.HasOld=true→(a2.Epoch==a0.Old.N)=false:=λh k=>by
  rw[beq_iff_eq]at h;have:=ho k;exact beq_eq_false_iff_ne.2 (by omega)
 have f3:(a2.Epoch==a0.Old.N)=true→a0.HasOld=true→(a2.Epoch==a0.Cur.N+1)=false:=λh k=>by
  rw[beq_iff_eq]at h;have:=ho k;exact beq_eq_false_iff_ne.2 (by omega)
 refine .pl λ_=>?_;generalize (a2.Epoch==a0.Cur.N)=p at *;generalize (a2.Epoch==a0.Old.N)=q at *;generalize (a2.Epoch==a0.Cur.N+1)=x at *;generalize decide ((a0.Next.length:Int)>0)=n at *
 cases h0:a0.HasOld<;>cases p<;>cases q<;>cases x<;>cases n<;>first
  | exact absurd (f1 rfl) (by decide)
  | exact absurd (f2 rfl h0) (by decide)
  | exact absurd (f3 rfl h0) (by decide)
  | (simp only [aA,cond_true,cond_false,Bool.not_true,Bool.not_false]
     refine .bl λr hr=> .pr λ_=>?_;rw[hd r hr];cases(a2.Sn==a0.Sn)<;>simp only[cond_true,cond_false,Bool.not_true,Bool.not_false]
     ·exact .r0
     ·first
      | exact .r0
      | exact .bd inferInstance λ_ _ _=> .cc (λ_=> .r0) λ_=> .r0
      | exact .bd inferInstance λ_ _ _=> .bd inferInstance λ_ _ _=> .cc (λ_=> .r0) λ_=> .r0
      | (repeat' ((with_reducible first | intro _ | exact .r0 | refine .bd inferInstance ?_ | apply cB))))
end Go.D
namespace Go.D
open Option renaming bind→ob
def zp3{a0}:Ag (Be a0) (Bh a0):=by
 unfold Be Bh;simp only[zfI];((try simp only[FC,MU,JB,BS,zfn]);repeat' (first | (with_reducible first | intro _ | exact .r0 | apply eB | apply ZB | apply EB | apply cB | refine .ct ‹_› ?_ | refine .cf ‹_› ?_) | (with_reducible first | apply dC | apply EG) | (refine .s ?_;grind [mA,LA,eA,yB,iC,List.length_eq_zero_iff,zjT]) | dsimp only[cond_true,cond_false]));(refine Ag.lI (λx=>∃i:Nat,x=(λi:Nat=>([UInt8.ofNat (IntKind.u8.wrap a0.Kind).toNat]++[UInt8.ofNat (IntKind.u8.wrap a0.Id).toNat]++a0.Cn++List.replicate i 0,(i:Int))) i∧i≤20) ⟨0,by first | rfl | simp,by decide⟩ (λx k hx hk=>?_) _;obtain⟨i,hx,h2⟩:=hx;have hi:(i:Int)<20→gA .i64 (i:Int) 1=((i+1:Nat):Int):=λh=>(by rw[DA (by omega) (by omega)];omega);subst hx;refine .cr (λhc=> .gr λ_=>hk _ ⟨i+1,?_,?_⟩) λhc=>?_;(· simp only[B]at hc;simp[hi hc,List.replicate_succ']);(· simp only[B]at hc;omega);have he:i=20:=(by simp only[B]at hc;omega);subst he;try dsimp only);(repeat' ((refine .s ?_;grind [mA,LA,eA,yB,iC,List.length_eq_zero_iff])))
instance{a0:Ab}:KA (Bh a0) (Be a0):=⟨zp3⟩
def zhV{F:Ab}(h:oB F=true):(F.Kind=1∧F.Cn.length=12)∨(F.Kind=2∧F.Cn.length=12∧F.Sn.length=12∧F.Cookie.length=16)∨(F.Kind=3∧F.Cn.length=12∧F.Sn.length=12∧F.Cookie.length=16∧F.Proof.length=16)∨(PB F.Kind=true∧F.Sn.length=12∧F.Tag.length=16∧F.Body.length≤40):=by
 have hb:=(jD h).2.2.2.2.1;unfold oB at h;cases hs:PB F.Kind
 ·simp only[hs,cond_false,Bool.and_eq_true,beq_iff_eq]at h;obtain⟨⟨_,h1⟩,h⟩:=h
  by_cases k1:F.Kind=1
  ·exact .inl ⟨k1,by omega⟩
  ·by_cases k2:F.Kind=2
   ·simp only[k2,show((2:Int)==1)=false from rfl,beq_self_eq_true,cond_true,cond_false,Bool.and_eq_true,beq_iff_eq]at h;exact .inr (.inl ⟨k2,by omega⟩)
   ·simp only[beq_eq_false_iff_ne.2 k1,beq_eq_false_iff_ne.2 k2,cond_false,Bool.and_eq_true,beq_iff_eq]at h;exact .inr (.inr (.inl ⟨h.1.1.1.1.1,by omega⟩))
 ·simp only[hs,cond_true,Bool.and_eq_true,beq_iff_eq]at h;exact .inr (.inr (.inr ⟨rfl,by omega,by omega,hb⟩))
def zt9{F:Ab}{r:List UInt8}(h:Be F=some r):(oB F=false→r=[])∧(oB F=true→(F.Kind=1∧r.length=34)∨(F.Kind=2∧r.length=45)∨(F.Kind=3∧r.length=62)∨(PB F.Kind=true∧r.length=39+F.Body.length∧F.Body.length≤40)):=by
 revert h;refine(?_:Pc _ (λr:List UInt8=>(oB F=false→r=[])∧(oB F=true→(F.Kind=1∧r.length=34)∨(F.Kind=2∧r.length=45)∨(F.Kind=3∧r.length=62)∨(PB F.Kind=true∧r.length=39+F.Body.length∧F.Body.length≤40)))) r
 have hk:=@zhV F;unfold Be;simp only[zfI];have l4:∀n,(rD [] n 4).length=4:=λn=>(CG [] n 4).2;have l6:∀n,(rD [] n 6).length=6:=λn=>(CG [] n 6).2
 ((try simp only[FC,MU,JB,BS,zfn]);repeat' (first | (with_reducible first | intro _ | apply nE | apply XD) | (refine .s ?_;grind [mA,LA,eA,PB,List.length_append,List.length_replicate,List.length_cons,List.length_nil])))
def zs9{b:List UInt8}{n:Int}{v:List UInt8×List UInt8}(hn:0≤n)(h:Bi b n=some v):v=(b.take n.toNat,b.drop n.toNat):=by
 revert h;refine(?_:Pc _ (λv:List UInt8×List UInt8=>v=(b.take n.toNat,b.drop n.toNat))) v
 unfold Bi;refine .g λ_=>?_;dsimp only;refine .p λ_=> .g λ_=> .s ?_;unfold sD;split
 ·rw[Int.sub_zero,Int.toNat_natCast,List.drop_zero,List.take_length,List.drop_length,List.take_of_length_le (l:=b) (i:=n.toNat) (by omega),List.drop_eq_nil_of_le (as:=b) (i:=n.toNat) (by omega)];simp
 ·rw[Int.sub_zero,List.drop_zero,List.take_of_length_le (l:=b.drop n.toNat) (by rw[List.length_drop];omega)]
def oI{α:Type}{b:List UInt8}{n:Int}{f:List UInt8×List UInt8→Option α}{z:Option α}(hn:0≤n)(k:Ag (f (b.take n.toNat,b.drop n.toNat)) z):Ag (ob (Bi b n) f) z:= .bl λv hv=>by
 rw[zs9 hn hv];exact k
def zO{α:Type}{b:List UInt8}{n:Int}{f:Int×List UInt8→Option α}{z:Option α}(hn:0≤n)(k:Ag (f ((cH (b.take n.toNat) 0 n).1,b.drop n.toNat)) z):Ag (ob (Cj b n) f) z:=by
 unfold Cj;rw[ba];refine oI hn ?_;rw[ba];exact .pl λ_=>k
def zcO{a0:List UInt8}{F:Ab}{z:Option (Ab×Bool)}(hf:oB F=false)(h:Ag (some ((⟨0,0,[],[],0,[],[],0,0,[],[]⟩:Ab),false)) z):Ag (ob (FC F) λr29=>cond (!r29) (some ((⟨0,0,[],[],0,[],[],0,0,[],[]⟩:Ab),false)) (ob (Be F) λr30=>ob (DB r30 a0) λr31=>cond (!r31) (some ((⟨0,0,[],[],0,[],[],0,0,[],[]⟩:Ab),false)) (some (F,true)))) z:=
 .pl λ_=>by rw[hf];exact h
def zf0{a0:List UInt8}{K:Ab}(h:a0≠[])(hf:oB K=false):Ag (some ((⟨0,0,[],[],0,[],[],0,0,[],[]⟩:Ab),false)) (ob (Bh K) λr28=>cond (Nat.ble r28.length bA) (cond (Nat.ble a0.length bA) (cond (!(r28==a0)) (some ((⟨0,0,[],[],0,[],[],0,0,[],[]⟩:Ab),false)) (some (K,true))) none) none):=by
 have:Bh K=some []:=by unfold Bh;rw[hf];rfl
 rw[this]
 ((try simp only[bs]);repeat' (first | (with_reducible first | intro _ | exact .r0 | apply EB) | (with_reducible refine Ag.cr (λ_=>?_) (λ_=>?_)<;>try (exfalso;grind (splits:=3) [mA,LA,eA];done))))
def zcq{a0:List UInt8}{F:Ab}(h:∀r,Be F=some r→oB F=true→r≠a0):Ag (ob (FC F) λr29=>cond (!r29) (some ((⟨0,0,[],[],0,[],[],0,0,[],[]⟩:Ab),false)) (ob (Be F) λr30=>ob (DB r30 a0) λr31=>cond (!r31) (some ((⟨0,0,[],[],0,[],[],0,0,[],[]⟩:Ab),false)) (some (F,true)))) (some ((⟨0,0,[],[],0,[],[],0,0,[],[]⟩:Ab),false)):=by
 ((try simp only[FC,DB]);repeat' (first | (with_reducible first | intro _ | exact .r0 | apply eB) | (with_reducible first | apply iD | apply dC) | (refine .s ?_;grind [mA,LA,eA,yB,iC,List.length_eq_zero_iff])))
def zbS{a0:List UInt8}{F K:Ab}(h:a0≠[])(e:F=K):Ag (ob (FC F) λr29=>cond (!r29) (some ((⟨0,0,[],[],0,[],[],0,0,[],[]⟩:Ab),false)) (ob (Be F) λr30=>ob (DB r30 a0) λr31=>cond (!r31) (some ((⟨0,0,[],[],0,[],[],0,0,[],[]⟩:Ab),false)) (some (F,true))))
  (ob (Bh K) λr28=>cond (Nat.ble r28.length bA) (cond (Nat.ble a0.length bA) (cond (!(r28==a0)) (some ((⟨0,0,[],[],0,[],[],0,0,[],[]⟩:Ab),false)) (some (K,true))) none) none):=by
 subst e;cases hf:oB F
 ·exact zcO hf (zf0 h hf)
 ·((try simp only[FC,DB]);repeat' (first | (with_reducible first | intro _ | exact .r0 | apply eB | refine .bd inferInstance ?_ | apply EB) | (with_reducible refine Ag.cr (λ_=>?_) (λ_=>?_)<;>try (exfalso;grind (splits:=3) [mA,LA,eA];done)) | (with_reducible first | apply dC | apply sE)))
def zk0{e:UInt8}{t:List UInt8}:(cH ((e :: t).take 1) 0 1).1=(e.toNat:Int):=by
 show gA .i64 (KB .i64 0 256) (IntKind.wrap .i64 ((e.toNat:Nat):Int))=_
 have h:=UInt8.toNat_lt e;rw[IB (by omega) (by omega),show KB .i64 0 256=0 from rfl,DA (by omega) (by omega)];omega
def zbW{a:List UInt8}{p:Nat}{k:Int}(hk:1≤k∧k≤6)(h:(p:Int)+k≤a.length):(cH ((a.drop p).take k.toNat) 0 k).1=(cH a (p:Int) k).1:=by
 unfold cH;rw[decide_eq_false (by omega),decide_eq_false (by omega),decide_eq_false (by omega),decide_eq_false (by rw[List.length_take,List.length_drop];omega),decide_eq_false (by omega),decide_eq_false (by omega)];show AG ((((a.drop p).take k.toNat).drop (0:Int).toNat).take k.toNat)=AG ((a.drop (p:Int).toNat).take k.toNat)
 rw[show((0:Int).toNat)=0 from rfl,List.drop_zero,List.take_take,Nat.min_self,Int.toNat_natCast]
def zlb{a:List UInt8}{p:Nat}{e:UInt8}(h:nA a (p:Int)=some e):(cH ((a.drop p).take 1) 0 1).1=IntKind.wrap .i64 (e.toNat:Int):=by
 rw[nA,if_pos (by omega),Int.toNat_natCast]at h;obtain⟨h1,rfl⟩:=List.getElem?_eq_some_iff.1 h;have hn:=UInt8.toNat_lt a[p];rw[List.drop_eq_getElem_cons h1,zk0,IB (by omega) (by omega)]
def zpC{a0}:Ag (Da a0) (Eb a0):=by
 unfold Da Eb;refine zO (by decide) ?_;cases a0 with
 | nil=>
  rw[show(cH (List.take (1:Int).toNat []) 0 1).1=0 from rfl];exact zcO rfl .r0
 | cons e t=>
  rw[show(1:Int).toNat=1 from rfl,zk0];refine .cr (λh=>?_) λ_=> .br λe1 he=>?_
  ·simp only[B,List.length_cons]at h;omega
  cases he.symm.trans (show nA (e :: t) 0=some e from rfl);have hn:=UInt8.toNat_lt e;dsimp only;rw[IB (by omega) (by omega)];generalize ha:e :: t=a;have h0:a≠[]:=by rw[←ha];exact List.cons_ne_nil _ _
  generalize hk:(e.toNat:Int)=k
  have no:∀F:Ab,F.Kind=k→(k=1→a.length≠34)→(k=2→a.length≠45)→(k=3→a.length≠62)→(PB k=true→a.length<39)→∀r,Be F=some r→oB F=true→r≠a:=λF q p1 p2 p3 p4 r hr hf e=>by
   subst e
   rcases(zt9 hr).2 hf with h | h | h | h
   ·exact p1 (q▸h.1) h.2
   ·exact p2 (q▸h.1) h.2
   ·exact p3 (q▸h.1) h.2
   ·have:=p4 (q▸h.1);omega
  by_cases k1:k=1
  ·subst k1;simp only[aA,cond_true,beq_self_eq_true];refine zO (by decide) (oI (by decide) (.cr (λhl=>zcq (no _ rfl (λ_=>?_) ?_ ?_ ?_)) λhl=> .br λe5 gX=> .gr λ_=> .gr λ_=>zbS h0 ?_))
   ·simp only[B]at hl;omega
   ·omega
   ·omega
   ·intro h;cases h
   ·simp only[List.nil_append];have:=zlb (p:=1) gX;rw[show(1:Int).toNat=1 from rfl,this,show(12:Int).toNat=12 from rfl,List.drop_drop]
  by_cases k2:k=2
  ·subst k2;simp only[aA,cond_true,cond_false,beq_self_eq_true,show((2:Int)==1)=false from rfl,show((2:Int)==3)=false from rfl];refine oI (by decide) (oI (by decide) (zO (by decide) (oI (by decide) (.cr (λhl=>zcq (no _ rfl ?_ (λ_=>?_) ?_ ?_)) λhl=> .gr λ_=> .gr λ_=> .gr λ_=> .gr λ_=> .pr λ_=> .gr λ_=> .gr λ_=>zbS h0 ?_))))
   ·omega
   ·simp only[B]at hl;omega
   ·omega
   ·intro h;cases h
   ·simp only[B]at hl;have:=zbW (a:=a) (p:=25) (k:=4) (by decide) (by omega);simp only[List.nil_append,List.drop_drop,show(1:Int).toNat=1 from rfl,show(12:Int).toNat=12 from rfl,show(4:Int).toNat=4 from rfl,show(16:Int).toNat=16 from rfl]at this⊢;rw[this,show((a.length:Int) - 29).toNat=16 by omega];rfl
  by_cases k3:k=3
  ·subst k3;simp only[aA,cond_true,cond_false,beq_self_eq_true,show((3:Int)==1)=false from rfl,show((3:Int)==2)=false from rfl];refine zO (by decide) (oI (by decide) (oI (by decide) (zO (by decide) (oI (by decide) (oI (by decide) (.cr (λhl=>zcq (no _ rfl ?_ ?_ (λ_=>?_) ?_)) λhl=> .br λe5 gX=> .gr λ_=> .gr λ_=> .gr λ_=> .gr λ_=> .pr λ_=> .gr λ_=> .gr λ_=> .gr λ_=> .gr λ_=>zbS h0 ?_))))))
   ·omega
   ·omega
   ·simp only[B]at hl;omega
   ·intro h;cases h
   ·simp only[B]at hl;have h1:=zlb (p:=1) gX;have:=zbW (a:=a) (p:=26) (k:=4) (by decide) (by omega);simp only[List.nil_append,List.drop_drop,show(1:Int).toNat=1 from rfl,show(12:Int).toNat=12 from rfl,show(4:Int).toNat=4 from rfl,show(16:Int).toNat=16 from rfl]at this h1⊢;rw[this,h1,show((a.length:Int) - 46).toNat=16 by omega];rfl
  simp only[aA,cond_false,beq_eq_false_iff_ne.2 k1,beq_eq_false_iff_ne.2 k2,beq_eq_false_iff_ne.2 k3]
  have bad:∀F:Ab,F.Kind=k→PB k=false→oB F=false:=λF q hs=>by
   cases hf:oB F
   ·rfl
   ·rcases zhV hf with h | h | h | h
    ·exact absurd (q▸h.1) k1
    ·exact absurd (q▸h.1) k2
    ·exact absurd (q▸h.1) k3
    ·rw[q,hs]at h;cases h.1
  cases hs:PB k
  ·simp only[cond_false];exact zcO (bad _ rfl hs) (.cr (λ_=> .r0) λ_=> .gr λ_=> .gr λ_=> .pr λ_=> .pr λ_=> .gr λ_=> .gr λ_=> .gr λ_=> .gr λ_=>zf0 h0 (bad _ rfl hs))
  ·simp only[cond_true];refine oI (by decide) (zO (by decide) (zO (by decide) (oI (by decide) (oI (by decide) (.cr (λhl=>zcq (no _ rfl ?_ ?_ ?_ (λ_=>?_))) λhl=> .gr λ_=> .gr λ_=> .pr λ_=> .pr λ_=> .gr λ_=> .gr λ_=> .gr λ_=> .gr λ_=>?_)))))
   ·omega
   ·omega
   ·omega
   ·simp only[B]at hl;omega
   ·simp only[B]at hl
    by_cases hb:a.length≤79
    ·refine zbS h0 ?_;have g1:=zbW (a:=a) (p:=13) (k:=4) (by decide) (by omega);have g2:=zbW (a:=a) (p:=17) (k:=6) (by decide) (by omega);simp only[List.nil_append,List.drop_drop,show(1:Int).toNat=1 from rfl,show(12:Int).toNat=12 from rfl,show(4:Int).toNat=4 from rfl,show(6:Int).toNat=6 from rfl,show(16:Int).toNat=16 from rfl,show(41:Int).toNat=41 from rfl]at g1 g2⊢;rw[g1,g2,List.take_of_length_le (l:=a.drop _) (i:=41) (by rw[List.length_drop];omega),List.take_of_length_le (l:=a.drop 39) (i:=((a.length:Int) - 39).toNat) (by rw[List.length_drop];omega)];rfl
    ·have XS:∀F:Ab,F.Kind=k→41≤F.Body.length→oB F=false:=λF q hb=>by
      cases hf:oB F
      ·rfl
      ·have:=(jD hf).2.2.2.2.1;omega
     refine zcO (XS _ rfl ?_) (zf0 h0 (XS _ rfl ?_))
     ·simp only[List.drop_drop,List.length_take,List.length_drop,show(1:Int).toNat=1 from rfl,show(12:Int).toNat=12 from rfl,show(4:Int).toNat=4 from rfl,show(6:Int).toNat=6 from rfl,show(16:Int).toNat=16 from rfl,show(41:Int).toNat=41 from rfl];omega
     ·simp only[List.nil_append,List.length_take,List.length_drop];omega
end Go.D
namespace Go.D
def zo8{p r:List UInt8}(h:Bg p=some r)(k:vC p=true):r.length=32:=by
 revert h;refine(?_:Pc _ (λr:List UInt8=>r.length=32)) r
 unfold Bg Bz;rw[k];refine .c nofun λ_=>?_;dsimp only;refine .b λv hv=>?_;cases hv;refine .p λ_=> .s (hM ?_ (by decide));have:=XK [UInt8.ofNat (114:Int).toNat,UInt8.ofNat (111:Int).toNat,UInt8.ofNat (97:Int).toNat,UInt8.ofNat (109:Int).toNat] p;omega
def zpu{i t:Int}{c s k r:List UInt8}(h:Dc i c s t k=some r)(h1:eA i 1 9=true)(h2:c.length=12)(h3:s.length=12)(h4:eA t 0 1000000=true)(h5:k.length=16):r.length=46:=by
 revert h;refine(?_:Pc _ (λr:List UInt8=>r.length=46)) r
 unfold Dc;have l4:∀n,(rD [] n 4).length=4:=λn=>(CG [] n 4).2
 ((try simp only[JB,BS]);repeat' (first | (with_reducible first | intro _ | apply nE | apply gF | apply XD) | (refine .s ?_;first | trivial | grind [mA,LA,eA,List.length_append,List.length_cons,List.length_nil])))
theorem zuw{a b r:List UInt8}(h:Ca a b=some r)(h1:a.length=32)(h2:b.length≤100):r.length=16:=by
 revert h;refine(?_:Pc _ (λr:List UInt8=>r.length=16)) r
 have:=aI (k:=a) (b:=b) (by omega) (by omega);unfold Ca;dsimp only
 ((try simp only[yA]);repeat' (first | (with_reducible first | intro _ | apply nE | apply RS | apply XD) | (refine .s ?_;grind [mA,LA,eA,List.length_take,List.length_drop])))
theorem zif{p:List UInt8}{i:Int}{f:Ab}{r:Ab×Bool}(h:Er p i f=some r)(hp:vC p=true)(hi:eA i 1 9=true)(hf:oB f=true)(hk:f.Kind=2):r.2=true:=by
 revert h;refine(?_:Pc _ (λr:Ab×Bool=>r.2=true)) r
 have W4:=UU hf hk;have ht:eA f.Tick 0 1000000=true:=uB.2 ⟨W4.2.2.1,W4.2.2.2.1⟩
 have hpr:∀q,Dq p i f.Cn f.Sn f.Tick f.Cookie=some q→q.length=16:=λq h=>by
  revert h;refine(?_:Pc _ (λq:List UInt8=>q.length=16)) q
  unfold Dq;refine .b λv hv=> .b λw hw=>?_;have h1:=zo8 hv hp;have h2:=zpu hw hi W4.1 W4.2.1 ht W4.2.2.2.2.1
  (repeat' (first | (with_reducible first | intro _ | apply nE | apply gF | apply XD | apply MF) | (refine .s ?_;first | trivial | grind [mA,LA,eA, →zuw])))
 unfold Er
 ((try simp only[yA,FC]);repeat' (first | (with_reducible first | intro _ | apply nE | apply gF | apply XD | apply MF) | (refine .s ?_;first | trivial | grind [mA,LA,eA])))
set_option maxHeartbeats 1000000 in
theorem zib{a0:Am}{a1:Int}{a2:Ab}{r:Am×List UInt8×Int}(h:Df a0 a1 a2=some r):r.2.2=0→a2.Sn=a0.Sn∧r.1.Sn=a2.Sn:=by
 revert h;refine(?_:Pc _ (λr:Am×List UInt8×Int=>r.2.2=0→a2.Sn=a0.Sn∧r.1.Sn=a2.Sn)) r
 have fl:=λh=>(@jD a2 h).2.1;unfold Df
 ((try simp only[lA,jC,FC]);repeat' (first | (with_reducible first | intro _ | apply nE | apply gF | apply XD | apply MF) | (refine .s ?_;first | trivial | grind [mA,LA,eA, →zka])))
end Go.D
namespace Go.D
open Option renaming bind→ob
def zvq{c:Ae}(h:dB c=true):vC c.Psk=true∧eA c.Id 1 9=true∧(c.St=0∨c.St=1∨c.St=2∨c.St=3):=by
 unfold dB at h;simp only[Bool.and_eq_true]at h;refine⟨h.1.1.2,h.1.1.1,?_⟩;have h:=h.2
 by_cases h0:c.St=0
 ·exact .inl h0
 by_cases h1:c.St=1
 ·exact .inr (.inl h1)
 by_cases h2:c.St=2
 ·exact .inr (.inr (.inl h2))
 ·simp only[beq_eq_false_iff_ne.2 h0,beq_eq_false_iff_ne.2 h1,beq_eq_false_iff_ne.2 h2,cond_false,Bool.and_eq_true,beq_iff_eq]at h;omega
def Ag.lB{α β σ:Type}{f:σ→(σ→Option α)→Option α}{f':σ→(σ→Option β)→Option β}{g:β→Option α}(e:∀x k k',(∀y,Ag (k y) (ob (k' y) g))→Ag (f x k) (ob (f' x k') g)):∀(n:Nat) (x:σ),Ag (wA n f x) (ob (wA n f' x) g):=by
 intro n;induction n with
 | zero=>exact λ_=>Ag.nl
 | succ n ih=>exact λx=>e _ _ _ λ_=>ih _
def ztk{o:List Aq}{n:List Ad}{s:Ac}{z:Option (Ac×List Aq×List Ad)}{f:List Aq×Int×Ac→(List Aq×Int×Ac→Option (Ac×List Aq×List Ad))→Option (Ac×List Aq×List Ad)}(ho:o=[])(h:Ag (some (s,[],n)) z):Ag (wA FU (λx k=>cond (decide (x.2.1<(o.length:Int))) (f x k) (some (x.2.2,x.1,n))) ([],0,s)) z:=by
 subst ho;refine Ag.lJ (λx=>x=([],0,s)) rfl (λx k hx _=>?_) _;subst hx;exact h
def zu0{o:List Aq}{n:List Ad}{s:Ac}(hA:∀t a,Ag (Db t a) (Dm t a))(hZ:∀f,Ag (Dt f) (Ef f))(hP:∀c a n,Ag (Du c a n) (Eg c a n)):Ag (aA (λ(y18:(List Aq)×Ac)=>
 some (y18.2,y18.1,n)) λk19=>
 wA FU (λ(x20:(List Aq)×Int×Ac) k21=>
 cond (decide (x20.2.1<(o.length:Int)))
 (aA (λ(y22:(List Aq)×Ac)=>
 k21 (y22.1,(gA .i64 x20.2.1 1),y22.2)) λk23=>
 cond (decide (0≤x20.2.1)&&decide (x20.2.1<(o.length:Int))) (ob (o[x20.2.1.toNat]?) λe24=>
 ob (Db x20.2.2.T e24.To) λr25=>
 aA (λ(y26:Ac)=>
 cond (decide (x20.1.length+[e24].length≤bA)) (k23 ((x20.1++[e24]),y26)) none) λk27=>
 cond (!r25)
 (ob (Dt e24.F) λr28=>
 ob (Du x20.2.2.Cr e24.To r28) λr29=>
 cond (!r29.2)
 (k23 (x20.1,x20.2.2))
 (k27 (⟨x20.2.2.Psks,x20.2.2.J,x20.2.2.D,x20.2.2.T,r29.1⟩:Ac)))
 (k27 x20.2.2)) none)
 (k19 (x20.1,x20.2.2))) ([],0,s)) (ob (Hn s o) λr65=>some (r65.2,r65.1,n)):=by
 haveI:∀t a,KA (Dm t a) (Db t a):=λt a=>⟨hA t a⟩
 haveI:∀f,KA (Ef f) (Dt f):=λf=>⟨hZ f⟩
 haveI:∀c a n,KA (Eg c a n) (Du c a n):=λc a n=>⟨hP c a n⟩
 unfold Hn;refine .jl (.jbr (Ag.lB (λx k k' hk=>?_) _ _));simp only[ba,bc,bs,bn]
 (repeat' (first | (with_reducible first | intro _ | exact .r0 | refine .bd inferInstance ?_ | apply pD | apply EB | apply cB | (apply_assumption;done) | refine .ct ‹_› ?_ | refine .cf ‹_› ?_) | (with_reducible first | apply zf3 | (apply zuX;simp only[ba,bc,bs,bn]) | apply iD | apply dC | refine .bT inferInstance ‹_› ?_ | refine .bR ‹_› ?_)))
end Go.D
namespace Go.D
def zet{t:Ao}{s:Ai}{r:Ao×Int}(h:Bl t s=some r):r.2=0→r.1=⟨t.Cap,t.L++[s]⟩∧AE t s.Sn<0∧OC t=true∧kC s=true:=by
 revert h;refine(?_:Pc _ (λr:Ao×Int=>r.2=0→r.1=⟨t.Cap,t.L++[s]⟩∧AE t s.Sn<0∧OC t=true∧kC s=true)) r
 unfold Bl;((try simp only[lA,zD,aJ,jG,AD]);repeat' (first | (with_reducible first | intro _ | apply nE | apply gF | apply RS | apply XD) | (refine .s ?_;first | trivial | grind [mA,LA,eA])))
def zrg{t:Ao}{s:Ai}(h:AE t s.Sn<0):AE ⟨t.Cap,t.L++[s]⟩ s.Sn=(t.L.length:Int):=by
 unfold AE at h⊢
 rcases AJ t.L.length (mG t s.Sn)with⟨h1,_⟩ | ⟨m,_,_,_,h4⟩
 ·rcases AJ (t.L++[s]).length (mG ⟨t.Cap,t.L++[s]⟩ s.Sn)with⟨h3,h4⟩ | ⟨m,h5,h6,_,h4⟩
  ·have:=ZR (i:=t.L.length) (by rw[h3];rfl) (by simp);simp[mG]at this
  ·rw[h4];have:=TG.1 h1 m;rw[List.length_append]at h5;simp only[List.length_cons,List.length_nil]at h5
   by_cases hm:m<t.L.length
   ·have:=this hm;unfold mG at this h6;rw[List.getElem?_append_left hm]at h6;rw[h6]at this;cases this
   ·omega
 ·omega
def zqJ{t:Ao}{s:Ai}{r:Ao×Int}(h:Bl t s=some r)(h0:r.2=0):AE r.1 s.Sn=qA .i64 (r.1.L.length:Int) 1:=by
 obtain⟨e,h1,h2,_⟩:=zet h h0;have:=(KE.1 h2).len;rw[e,zrg h1,List.length_append,SA (by simp only[List.length_cons,List.length_nil];omega) (by simp only[List.length_cons,List.length_nil];omega)];simp only[List.length_cons,List.length_nil];omega
def zqR{p:List UInt8}{n:Int}{a:Af}{f:Ab}{s:Ai}(h:En p n a f=some s)(hs:kC s=true):s.Sn=f.Sn:=by
 revert hs
 revert h;refine(?_:Pc _ (λs:Ai=>kC s=true→s.Sn=f.Sn)) s
 have:kC (⟨0,[],[],(⟨0,[],(⟨0,[],0,(⟨0,[]⟩:Ap)⟩:Av),(⟨0,[],0,(⟨0,[]⟩:Ap)⟩:Av),false,0,[]⟩:Am),(⟨(⟨0,0⟩:Af),[]⟩:Ah),0,0,false⟩:Ai)=false:=by
  unfold kC;rfl
 unfold En;((try simp only[yA,FC]);repeat' (first | (with_reducible first | intro _ | apply nE | apply gF | apply XD | apply MF) | (refine .s ?_;first | trivial | grind [mA,LA,eA])))
def zqE{a0:Ai}{r:Ai×List Aq×List Ad}(h:Eo a0=some r)(hs:kC a0=true):GE a0 r.1:=by
 obtain⟨q,hq,h1,_⟩:=zhj hs;cases hq.symm.trans h;exact h1
def zkk{t:Ao}{i:Int}{e:Ai}(ht:OC t=true)(he:nA t.L i=some e):kC e=true:=by
 unfold nA at he;split at he
 ·exact(KE.1 ht).el _ (List.mem_of_getElem? he)
 ·cases he
theorem ES{t:Ao}{i:Int}{e:Ai}{r:Ai×List Aq×List Ad}{p:Ao×Bool}(h1:Eo e=some r)(h2:Bu t i r.1=some p)(he:nA t.L i=some e)(ht:OC t=true):p=(⟨t.Cap,t.L.set i.toNat r.1⟩,true):=
 zba h2 ht he (zqE h1 (zkk ht he))
def zqL{t:Ao}{s:Ai}{r:Ao×Int}(h:Bl t s=some r)(h0:r.2=0):OC r.1=true:=by
 obtain⟨_,_,h2,h3⟩:=zet h h0;obtain⟨q,hq,h1,_⟩:=zhl (a1:=s) h2 (by have:=TE h3;omega);cases hq.symm.trans h;exact h1
def Pc.jj{α σ:Type}{Q:α→Prop}{h:σ→Option α}{f:(σ→Option α)→Option α}(a:∀y,Pc (h y) Q)(e:∀k,(∀y,Pc (k y) Q)→Pc (f k) Q):Pc (aA h f) Q:=e _ a
def zqc{b:List UInt8}{r:Ab×Bool}(h:Da b=some r):r.2=true→oB r.1=true:=by
 revert h;refine(?_:Pc _ (λr:Ab×Bool=>r.2=true→oB r.1=true)) r
 unfold Da;refine .b λ_ _=>Pc.jj (λy=>?_) λk hk=>?_
 ·((try simp only[FC,DB]);repeat' (first | (with_reducible first | intro _ | apply nE | apply gF | apply XD | apply MF) | (refine .s ?_;first | trivial | grind [mA,LA,eA])))
 ·repeat' first
   | exact hk _
   | apply_assumption
   | refine Pc.b λ_ _=>?_
   | refine Pc.c (λ_=>?_) λ_=>?_
   | refine Pc.jj (λ_=>?_) λ_ _=>?_
theorem xS{t:Ao}{i n:Int}{e:Ai}{a:Af}{f:Ab}{b:List UInt8}{r:Ai×List Aq×List Ad×Bool}{p:Ao×Bool}(h1:Gh e n a f b=some r)(h2:Bu t i r.1=some p)(he:nA t.L i=some e)(ht:OC t=true)(hf:oB f=true)(hb:b.length≤100):p=(⟨t.Cap,t.L.set i.toNat r.1⟩,true):=
 zba h2 ht he (by
  obtain⟨q,hq,h,_⟩:=zgW (a1:=n) (a2:=a) (zkk ht he) hf hb;cases hq.symm.trans h1;exact h)
end Go.D

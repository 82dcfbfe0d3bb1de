/-
 Two partial results agree: where both have one, it is the same.
-/
import Derived.Test.YthmhafeaiaigoaaGreatE1
import Derived.Test.YthmhafeaiaigoaaGreatN8
import Derived.Test.YthmhafeaiaigoaaGreatN12
import Derived.Test.YthmhafeaiaigoaaGreatP2
import Derived.Test.YthmhafeaiaigoaaGreatN11
set_option linter.all false
namespace Go.D
open Option renaming bind→ob
def Ag{α:Type}(x y:Option α):Prop:=∀v w,x=some v→y=some w→v=w
class jN{α:Type}(x y:Option α):Prop where h:Ag x y
class MA{α:Type}(y:Option α)(x:outParam (Option α)):Prop where h:Ag x y
instance{α:Type}{x y:Option α}[MA y x]:jN x y:=⟨MA.h⟩
namespace Ag
variable {α β σ τ:Type} {x y:Option α} {c d:Bool}
def r0:Ag x x:=λ_ _ h k=>Option.some.inj (h.symm.trans k)
def nl:Ag none y:=λ_ _ h=>nomatch h
def nr:Ag x none:=λ_ _ _ h=>nomatch h
def s{a b:α}(h:a=b):Ag (some a) (some b):=λ_ _ k l=>(Option.some.inj k).symm.trans (h.trans (Option.some.inj l))
def sy(h:Ag x y):Ag y x:=λv w k l=>(h w v l k).symm
def b{f g:α→Option β}(h:Ag x y)(k:∀v,x=some v→y=some v→Ag (f v) (g v)):Ag (x.bind f) (y.bind g):=by
 cases x with
 | none=>exact nl
 | some v=>cases y with
  | none=>exact nr
  | some w=>cases h v w rfl rfl;exact k v rfl rfl
def bc[jN x y]{f g:α→Option β}(k:∀v,x=some v→y=some v→Ag (f v) (g v)):Ag (x.bind f) (y.bind g):=b jN.h k
def bl{f:α→Option β}{z:Option β}(k:∀v,x=some v→Ag (f v) z):Ag (x.bind f) z:=by
 cases x with
 | none=>exact nl
 | some v=>exact k v rfl
def br{f:α→Option β}{z:Option β}(k:∀v,x=some v→Ag z (f v)):Ag z (x.bind f):=sy (bl λv h=>sy (k v h))
def bd{f g:α→Option β}(i:jN x y)(k:∀v,x=some v→y=some v→Ag (f v) (g v)):Ag (x.bind f) (y.bind g):=b i.h k
def bT{f:α→Option β}{z:Option β}{v:α}(i:MA y x)(h:x=some v)(k:y=some v→Ag z (f v)):Ag z (y.bind f):=br λw hw=>by
 cases i.h v w h hw;exact k hw
def bR{f:α→Option β}{z:Option β}{v:α}(h:x=some v)(k:Ag z (f v)):Ag z (x.bind f):=by subst h;exact k
def cc{p q:Option α}(h:c=true→Ag x p)(k:c=false→Ag y q):Ag (cond c x y) (cond c p q):=by
 cases c
 ·exact k rfl
 ·exact h rfl
def ce{p q:Option α}(e:c=d)(h:c=true→Ag x p)(k:c=false→Ag y q):Ag (cond c x y) (cond d p q):=by subst e;exact cc h k
def cl{z:Option α}(h:c=true→Ag x z)(k:c=false→Ag y z):Ag (cond c x y) z:=by
 cases c
 ·exact k rfl
 ·exact h rfl
def cr{z:Option α}(h:c=true→Ag z x)(k:c=false→Ag z y):Ag z (cond c x y):=by
 cases c
 ·exact k rfl
 ·exact h rfl
def ct{z:Option α}(e:c=true)(h:Ag z x):Ag z (cond c x y):=by subst e;exact h
def cf{z:Option α}(e:c=false)(h:Ag z y):Ag z (cond c x y):=by subst e;exact h
def gl{z:Option α}(h:c=true→Ag x z):Ag (cond c x none) z:=cl h λ_=>nl
def gr{z:Option α}(h:c=true→Ag z x):Ag z (cond c x none):=cr h λ_=>nr
def jj{h h':σ→Option α}{f f':(σ→Option α)→Option α}(a:∀y,Ag (h y) (h' y))(e:∀k k',(∀y,Ag (k y) (k' y))→Ag (f k) (f' k')):Ag (aA h f) (aA h' f'):=e _ _ a
def hj{ρ:Type}(P:(σ→Option ρ)→(τ→Option ρ)→Prop){c:Bool}{t:σ→Option ρ}{t':τ→Option ρ}{b:(σ→Option ρ)→Option ρ}{b':(τ→Option ρ)→Option ρ}{e:Option ρ}(h0:P t t')(h:∀k k',P k k'→Ag (b k) (cond c e (b' k'))):Ag (aA t b) (cond c e (aA t' b')):=h _ _ h0
def jl{z:Option α}{h:σ→Option α}{f:(σ→Option α)→Option α}(a:Ag (f h) z):Ag (aA h f) z:=a
def jr{z:Option α}{h:σ→Option α}{f:(σ→Option α)→Option α}(a:Ag z (f h)):Ag z (aA h f):=a
def ll{f f':σ→(σ→Option α)→Option α}{x0:σ}(e:∀x k k',(∀y,Ag (k y) (k' y))→Ag (f x k) (f' x k')):∀n,Ag (tA n f x0) (tA n f' x0):=by
 intro n;induction n generalizing x0 with
 | zero=>exact nl
 | succ n ih=>exact e _ _ _ λ_=>ih
def lI(I:σ→Prop){f:σ→(σ→Option α)→Option α}{z:Option α}{x0:σ}(h0:I x0)(e:∀x k,I x→(∀y,I y→Ag z (k y))→Ag z (f x k)):∀n,Ag z (tA n f x0):=by
 intro n;induction n generalizing x0 with
 | zero=>exact nr
 | succ n ih=>exact e _ _ h0 λ_ h=>ih h
def lJ(I:σ→Prop){f:σ→(σ→Option α)→Option α}{z:Option α}{x0:σ}(h0:I x0)(e:∀x k,I x→(∀y,I y→Ag (k y) z)→Ag (f x k) z)(n:Nat):Ag (tA n f x0) z:=
 sy (lI I h0 (λx k h l=>sy (e x k h λy hy=>sy (l y hy))) n)
end Ag
instance(priority:=low){α:Type}{x:Option α}:jN x x:=⟨.r0⟩
def zgR{a b:List UInt8}:mD [a,b]=pt (wt [a,b]≤bA) (a++b):=by unfold mD;simp
def zah{a b c d:List UInt8}:mD [a,b,c,d]=pt (wt [a,b,c,d]≤bA) (a++b++c++d):=by unfold mD;simp
def ZS{a b c d e:List UInt8}:mD [a,b,c,d,e]=pt (wt [a,b,c,d,e]≤bA) (a++b++c++d++e):=by unfold mD;simp
def zgI{a b c d e f:List UInt8}:mD [a,b,c,d,e,f]=pt (wt [a,b,c,d,e,f]≤bA) (a++b++c++d++e++f):=by unfold mD;simp
def bn{α β:Type}{f:α→Option β}:ob none f=none:=rfl
def bs{α β:Type}{v:α}{f:α→Option β}:ob (some v) f=f v:=rfl
def ba{α β γ:Type}{x:Option α}{f:α→Option β}{g:β→Option γ}:ob (ob x f) g=ob x λv=>ob (f v) g:=by cases x<;>rfl
def bc{α β:Type}{c:Bool}{x y:Option α}{f:α→Option β}:ob (cond c x y) f=cond c (ob x f) (ob y f):=by cases c<;>rfl
def Ag.pl{α β:Type}{p:Prop}{v:α}{f:α→Option β}{z:Option β}(k:p→Ag (f v) z):Ag (ob (pt p v) f) z:=by
 unfold pt
 by_cases h:p
 ·rw[if_pos h];exact k h
 ·rw[if_neg h];exact .nl
def Ag.pr{α β:Type}{p:Prop}{v:α}{f:α→Option β}{z:Option β}(k:p→Ag z (f v)):Ag z (ob (pt p v) f):= .sy (.pl λh=> .sy (k h))
def Ag.jbl{α β σ:Type}{z:Option β}{h:σ→Option α}{f:(σ→Option α)→Option α}{g:α→Option β}(a:Ag (ob (f h) g) z):Ag (ob (aA h f) g) z:=a
def Ag.jbr{α β σ:Type}{z:Option β}{h:σ→Option α}{f:(σ→Option α)→Option α}{g:α→Option β}(a:Ag z (ob (f h) g)):Ag z (ob (aA h f) g):=a
def Ag.kk{α β:Type}{k k':α→Option β}{a b:α}(h:∀y,Ag (k y) (k' y))(e:a=b):Ag (k a) (k' b):=e▸h a
def bx0{α:Type}{x:Option α}:ob x (λv=>some v)=x:=by cases x<;>rfl
def bx{α σ:Type}{h:σ→Option α}{f:(σ→Option α)→Option α}:ob (aA h f) (λv=>some v)=aA h f:=bx0
instance{α:Type}{l:List α}{i:Int}:jN (l[i.toNat]?) (kA l i):=⟨by
 unfold kA;split
 ·exact Ag.r0
 ·exact Ag.nr⟩
instance{α:Type}{l:List α}{i:Int}:jN (kA l i) (l[i.toNat]?):=⟨.sy jN.h⟩
def Ag.bI{α β:Type}{l:List α}{i:Int}{v:α}{f:α→Option β}{z:Option β}(h:kA l i=some v)(k:Ag z (f v)):Ag z (ob (l[i.toNat]?) f):=by
 unfold kA at h;split at h
 ·rw[h];exact k
 ·cases h
def Ag.bJ{α β:Type}{l:List α}{i:Int}{v:α}{f:α→Option β}{z:Option β}(h:l[i.toNat]?=some v)(k:Ag z (f v)):Ag z (ob (kA l i) f):=by
 unfold kA;split
 ·rw[h];exact k
 ·exact .nr
def Ag.jBl{α:Type}{z:Option α}{h:Bool→Option α}{f:(Bool→Option α)→Option α}(a:Ag (f h) z):Ag (aA h f) z:=a
def Ag.jBr{α:Type}{z:Option α}{h:Bool→Option α}{f:(Bool→Option α)→Option α}(a:Ag z (f h)):Ag z (aA h f):=a
def Pc{α:Type}(x:Option α)(Q:α→Prop):Prop:=∀r,x=some r→Q r
namespace Pc
variable {α β σ:Type} {x y:Option α} {d:Bool} {Q:α→Prop}
def n:Pc (none:Option α) Q:=λ_ h=>nomatch h
def s{v:α}(h:Q v):Pc (some v) Q:=λ_ k=>Option.some.inj k▸h
def b{f:α→Option β}{P:β→Prop}(k:∀v,x=some v→Pc (f v) P):Pc (x.bind f) P:=by
 cases x with
 | none=>exact n
 | some v=>exact k v rfl
def p{q:Prop}{v:α}{f:α→Option β}{P:β→Prop}(k:q→Pc (f v) P):Pc (ob (pt q v) f) P:=by
 unfold pt
 by_cases h:q
 ·rw[if_pos h];exact k h
 ·rw[if_neg h];exact n
def g(h:d=true→Pc x Q):Pc (cond d x none) Q:=by
 cases d
 ·exact n
 ·exact h rfl
def c(h:d=true→Pc x Q)(k:d=false→Pc y Q):Pc (cond d x y) Q:=by
 cases d
 ·exact k rfl
 ·exact h rfl
def j{h:σ→Option α}{f:(σ→Option α)→Option α}(a:Pc (f h) Q):Pc (aA h f) Q:=a
def l(I:σ→Prop){f:σ→(σ→Option α)→Option α}{x0:σ}(h0:I x0)(e:∀x k,I x→(∀y,I y→Pc (k y) Q)→Pc (f x k) Q):∀n,Pc (tA n f x0) Q:=by
 intro n;induction n generalizing x0 with
 | zero=>exact Pc.n
 | succ n ih=>exact e _ _ h0 λ_ h=>ih h
def of{r:α}(h:Pc x Q)(k:x=some r):Q r:=h r k
end Pc
def nB:=@Ag.pl
def oC:=@Ag.pr
def DD:=@Ag.gl
def UB:=@Ag.gr
def jB:=@Ag.cc
def BL:=@Ag.ll
def SC:=@Ag.jj
def zhn:=@Ag.jl
def TM:=@Ag.jbl
def zxa:=@Ag.jbr
def tD:=@Ag.bl
def qC:=@Ag.cl
def RG:=@Ag.jr
def FE:=@Ag.br
def eG:=@Ag.cr
def gF:=@Ag.jBl
def kF:=@Ag.jBr
def hG:=@Pc.p
def nH:=@Pc.j
def zaG:=@Pc.g
def ZF:=@Pc.c
def zI:=@Pc.b
end Go.D
namespace Go.D
structure AK(a0:Aa)(l:List Ap)(w:Aa):Prop where
 ok:eB w=true
 notes:∃m,w.Notes=a0.Notes++m
 seen:w.Seen=a0.Seen
 sz:wt w≤wt a0+120000
 wl:wt l≤1000
 wires:∀x∈l,PE x=true
def evp{a0 w:Aa}{l:List Ap}{m:List Ad}(h:eB w=true)(e:w.Notes=a0.Notes++m)(hm:m.length≤10)(hs:w.Seen=a0.Seen)(hl:wt l≤1000)(hw:∀x∈l,PE x=true):AK a0 l w:=by
 refine⟨h,⟨m,e⟩,hs,?_,hl,hw⟩;have h1:=zaD h;have h2:=CE (xE.1 (e▸(HC.1 h).notes)).2;have h3:wt a0.Notes≤wt a0:=by simp only[qG];omega
 have h4:wt w.Notes=wt a0.Notes+wt m:=by rw[e];simp only[N]
 omega
def zxv{w:Aa}{d:Au}{ns:List Ad}(h:eB w=true)(h1:gC d=true)(h4:iC ns):eB ⟨w.Now,w.Clients,w.S,d,w.Seen,w.Known,w.Notes++ns⟩=true:=by
 have p:=HC.1 h;exact HC.2 ⟨p.now,p.cl,p.srv,p.psl,h1,p.seen,p.kl,p.ci,p.kn,xE.2 ⟨p.notes,h4⟩⟩
def zmV{a:Int}(h:0≤a):0≤zA .i64 a 2∧zA .i64 a 2<2:=gH h (by omega)
def zoA{a0 a1}(ha:eB a0=true)(hn:wt a0≤400000000)(he:fF a1=true):Ok (Kv a0 a1) λr=>AK a0 r.2.1 r.1:=by
 unfold Kv;have hL:=DB;have he:=lO he;have hd:=zmV he.2.2.1;have W:=HC.1 ha;have hc:=W.cl;have hN:wt a0.Notes≤wt a0:=by simp only[qG];omega
 refine .h (by simp only[B];omega) (.bg (by omega) λe1 KY m7=>?_);have hk:=(W.ci _ _ KY).1;let Q:List Ab→List Ad→Aa→Ae→Prop:=λf n w c=>f.length≤1∧wt f≤400∧iC n∧n.length≤4∧eB w=true∧w.Clients=a0.Clients∧w.Seen=a0.Seen∧(∃m,w.Notes=a0.Notes++m∧m.length≤1)∧tB c=true∧c.Id=e1.Id∧c.Psk=e1.Psk;have q0:∃m,a0.Notes=a0.Notes++m∧m.length≤1:=⟨[],(List.append_nil _).symm,by decide⟩
 refine .j (λy2:(List Ab)×(List Ad)×Int×Aa×Ae=>Q y2.1 y2.2.1 y2.2.2.2.1 y2.2.2.2.2) (λy2 xW=>?_) λk3 JV=> .c (λh1=>?_) λh1=> .j (λy7:(List Ab)×(List Ad)×Int×Ae=>Q y7.1 y7.2.1 a0 y7.2.2.2) (λy7 aY=>JV _ aY)
  λk8 pW=> .c (λh2=> .b (zih hk (by omega)) λr9 ⟨p1,p2,p3,p4,p5⟩=>pW _ ⟨p5.1,p5.2,p3,p4,ha,rfl,rfl,q0,p1,p2.1,p2.2.1⟩)
  λh2=> .j (λy7:(List Ab)×(List Ad)×Int×Ae=>Q y7.1 y7.2.1 a0 y7.2.2.2) (λy10 aX=>pW _ aX)
  λk11 PV=> .c (λh3=> .b (zig hk) λr12 ⟨p1,p2,p3,p4,p5⟩=>PV _ ⟨p5.1,p5.2,p3,p4,ha,rfl,rfl,q0,p1,p2.1,p2.2.1⟩)
  λh3=> .j (λy13:(List Ad)×Int×Ae=>Q [] y13.1 a0 y13.2.2) (λy13 EX=>PV _ EX)
  λk14 SV=> .c (λh4=> .b (zse hk) λr16 mX=>SV _ ⟨Nat.zero_le _,Nat.zero_le _,AC,Nat.zero_le _,ha,rfl,rfl,q0,mX.1,mX.2⟩)
  λh4=> .j (λy13:(List Ad)×Int×Ae=>Q [] y13.1 a0 y13.2.2) (λy17 vZ=>SV _ vZ)
  λk18 PW=> .c (λh5=> .jt (λy19=> .b (zjH hk) λr21 ⟨p1,p2,p3,p4⟩=>PW _ ⟨Nat.zero_le _,Nat.zero_le _,p3,(by show r21.2.length≤4;omega),ha,rfl,rfl,q0,p1,p2.1,p2.2.1⟩)
  λk20 eY=> .c (λ_=>eY _)
  λ_=>eY _)
  λh5=>PW _ ⟨Nat.zero_le _,Nat.zero_le _,AC,Nat.zero_le _,ha,rfl,rfl,q0,hk,rfl,rfl⟩
 ·obtain⟨p1,p2,p3,p4,p5,p6,p7,⟨m,p8,p8'⟩,p9,p10,p11⟩:=xW;have hnw:=CE p3;have hw5:=(CE (xE.1 (p8▸(HC.1 p5).notes)).2);have h5:wt y2.2.2.2.1.Notes=wt a0.Notes+wt m:=by rw[p8];simp only[N]
  have t9:=WD p9;refine .h (by simp only[B,p6];omega) (.bg (by rw[p6];omega) λe22 wZ L1=> .g (by omega) (.b (zaQ (by have:=t9.1;omega) (by omega)) λr24 uX=> .s ?_));rw[p6]at wZ;cases KY.symm.trans wZ;refine evp (m:=m++y2.2.1) (zf6 p5 (by rw[p6];exact KY) p9 p10 p11 p3) (by show y2.2.2.2.1.Notes++y2.2.1=_;rw[p8,List.append_assoc]) (by rw[List.length_append];omega) p7 (by have:=uX.1;show wt r24≤1000;omega) λx hx=>((uX.2 (zem p9)).1 x hx).1
 ·have hr:=sL a0.D;have hds:=W.dice;have hw:=zcU (RC a0.D).2;have ho:=@zcd (RC a0.D).2 (by omega);have hD:wt a0.D≤wt a0:=by simp only[qG];omega
  have h6:wt [LE (RC a0.D).2]≤200:=by simp only[N]at hw⊢;omega
  refine .m (qA (by omega)) (.m (qA (by simp only[N];omega)) (.g (by omega) (.b (zjV hk (by omega)) λr6 ⟨p1,p2,p3,p4,p5⟩=>JV _ ⟨p5.1,p5.2,p3,p4,zxv ha (hr.2.2.1 hds) (vD.2 ⟨ho,AC⟩),rfl,rfl,⟨[_],rfl,Nat.le_refl _⟩,p1,p2.1,p2.2.1⟩)))
def zoz{a0 a1}(ha:eB a0=true)(hn:wt a0≤400000000)(he:fF a1=true):Ok (Lg a0 a1) λr=>AK a0 r.2.1 r.1:=by
 unfold Lg;have hL:=DB;have he:=lO he;have W:=HC.1 ha;have hN:wt a0.Notes≤wt a0:=by simp only[qG];omega
 have hB:wt a1.B≤300000:=by simp only[N];omega
 let Q:List Ad→Aa→Prop:=λn w=>iC n∧n.length≤4∧∃s,w=⟨a0.Now,a0.Clients,s,a0.D,a0.Seen,a0.Known,a0.Notes⟩∧KB s=true∧s.Psks=a0.S.Psks
 refine .j (λy1:(List Av)×(List Ad)×Bool×Aa=>HE y1.1∧(y1.1.length≤1∧wt y1.1≤400)∧Q y1.2.1 y1.2.2.2) (λy1 lW=>?_)
  λk2 IV=> .c (λh1=> .b (zii W.srv hB) λr3 ⟨p1,p2,p3,p4,p5,p6⟩=>IV _ ⟨p3,p4,p5,Nat.le_trans p6 (by decide),_,rfl,p1,p2⟩)
  λh1=> .j (λy4:(List Ad)×Bool×Aa=>Q y4.1 y4.2.2) (λy4 MY=>IV _ ⟨iH,⟨Nat.zero_le _,Nat.zero_le _⟩,MY⟩)
  λk5 dW=> .c (λh2=> .b (zsa W.srv) λr6 ⟨p1,p2,p3,p4⟩=>dW _ ⟨p3,Nat.le_trans p4 (by decide),_,rfl,p1,p2⟩)
  λh2=> .j (λy4:(List Ad)×Bool×Aa=>Q y4.1 y4.2.2) (λy7 aY=>dW _ aY)
  λk8 pW=> .c (λh3=> .b (zoL W.srv) λr9 ⟨p1,p2,p3,p4⟩=>pW _ ⟨p3,Nat.le_trans p4 (by decide),_,rfl,p1,p2⟩)
  λh3=>pW _ ⟨AC,Nat.zero_le _,_,rfl,W.srv,rfl⟩
 obtain⟨q1,q2,q3,q4,s,q5,q6,q7⟩:=lW;have hnw:=CE q3;have h5:wt y1.2.2.2.Notes=wt a0.Notes:=by rw[q5]
 refine .g (by omega) (.b (zfa (by omega) q1) λr10 rW=> .s ?_);rw[q5];show AK a0 r10 ⟨a0.Now,a0.Clients,s,a0.D,a0.Seen,a0.Known,a0.Notes++y1.2.1⟩
 exact evp (m:=y1.2.1) (zf3 ha q6 q7 q3) rfl (by omega) rfl (by have:=rW.1;omega) λx hx=>(rW.2 x hx).1
def zpt{a0 a1}(ha:eB a0=true)(hn:wt a0≤400000000)(he:fF a1=true):Ok (Lh a0 a1) λr=>r.2=true→AK a0 [] r.1:=by
 unfold Lh;have hL:=DB;have he:=lO he;have hd:=zmV he.2.2.1;have W:=HC.1 ha;have hc:=W.cl;have F:=mO ha;simp only[HT]at F;have hN:wt a0.Notes≤wt a0:=by simp only[qG];omega
 refine .j (λy1:Aa×Ak=>nC y1.2=true) (λy1 lW=>have lW:=XC lW; .b (zq0 (by omega)) λr8 sW=> .g (by omega) (.m (qA (by simp only[N]at lW⊢;omega)) (.g (by simp only[N]at lW⊢;omega) (.s λhk=>?_))))
  λk2 IV=> .c (λh1=> .h (by simp only[B];omega) (.bg (by omega) λe3 X4 U2=> .c (λh2=> .s nofun)
  λh2=>IV _ (zmW (aT ha (List.mem_of_getElem? X4)) (.inr (by simpa using h2))).1))
  λh1=> .j (λy4:Bool=>y4=false→(0≤a1.I∧a1.I<(a0.S.T.L.length:Int))∧∀e,a0.S.T.L[a1.I.toNat]?=some e→e.Dead=false) (λy4 MY=> .c (λh3=> .s nofun)
  λh3=>have i4:=MY h3; .h (by simp only[B];omega) (.bg (by omega) λe7 MZ pY=>IV _ (have hs:=(bF.1 (rF.1 W.srv).tab).el _ (List.mem_of_getElem? MZ);have hd:=i4.2 _ MZ;by show nC e7.C=true;grind [vC])))
  λk5 dW=> .c (λ_=>dW _ nofun)
  λh5=> .h (by simp only[B]at h5⊢;omega) (.bg (by simp only[B]at h5;omega) λe6 xY sX=>dW _ λq6=>⟨by simp only[B]at h5;omega,λe he=>by cases xY.symm.trans he;exact q6⟩)
 simp only[B,List.length_append]at hk;refine evp (m:=[_]) (zvv ha sW.2 (by omega) (vD.2 ⟨?_,AC⟩)) rfl (by simp) rfl (Nat.zero_le _) λx hx=>nomatch hx
 grind [mC,WC,UD,eA,GA]
def zty{a0:Aa}{a1:Int}{a2:Ai}{a3:List UInt8}:Pc (Cm a0 a1 a2 a3) λr=>r.1.Seen=a0.Seen:=by
 unfold Cm
 ((try simp only[oA,FG]);repeat' (first | (with_reducible first | intro _ | apply hG | apply nH | apply zaG | apply ZF | apply zI) | (refine .s ?_;trivial)))
def zgM{a0:Aa}{a1:Int}{a2:Ai}{a3:List UInt8}(ha:eB a0=true)(hn:wt a0≤400000000)(h0:0≤a1)(h2:a1≤2)(hb:wt a3≤900000000):Ok (Cm a0 a1 a2 a3) λr=>AK a0 r.2 r.1:=by
 obtain⟨r,h,p1,p2,p3,p4,p5,p6,_,_⟩:=@zsp a0 a1 a2 a3 (by omega) hb;refine⟨r,h,p1 ha,p2,zty r h,by omega,p4,λx hx=>?_⟩
 by_cases e:a1=0
 ·exact(p5 ha e x hx).1
 ·have hc:=(HC.1 ha).cl;have e1:sA .i64 a1 1=a1 - 1:=LA (by omega) (by omega);exact((p6 ha _ e (List.getElem?_eq_getElem (by rw[e1];omega))).1 x hx).1
def zoM{a0 a1}(ha:eB a0=true)(hn:wt a0≤400000000)(he:fF a1=true)(hw:wt a1≤300000):Ok (Lf a0 a1) λr=>r.2.2=true→AK a0 r.2.1 r.1:=by
 unfold Lf;have hL:=DB;have he:=lO he;have W:=HC.1 ha;have F:=mO ha;have hF:=F;simp only[HT]at F;have hl:=W.cl;have hsn:=zB a0.Seen;have hj:0≤zA .i64 a1.J 3∧zA .i64 a1.J 3<3:=gH (by omega) (by omega);have hO:wt a1.Ops≤300000:=by simp only[N]at hw⊢;omega
 refine .c (λh1=> .b (zjB hO (by omega) (by omega)) λr1 NV=> .b (zgM ha hn hj.1 (by omega) (by simp only[N];omega)) λr3 uW=> .s λ_=>uW)
  λh1=> .c (λh2=> .s nofun)
  λh2=>?_
 have hs:0<(a0.Seen.length:Int):=by simp only[B]at h2;omega
 have hd3:=gH (a:=a1.I) (n:=(a0.Seen.length:Int)) (by omega) hs;refine .n h2 (.bi hd3.1 hd3.2 λe4 rZ TY=> .b (zct (by omega) hF.2.2.2.2.2.1) λr5 RV=>?_);have hb:e4.B.length≤20000:=by simp only[N]at TY F;omega
 refine .m (qA (by simp only[N];omega)) (.j (λy7:Int×Ai×Aa×(List UInt8)=>y7.2.2.2.length≤500000∧y7.1≤2) (λy7 aY=> .c (λh3=> .s nofun)
  λh3=> .b (zgM ha hn (by simp only[B]at h3;omega) aY.2 (by have:=aY.1;simp only[N];omega)) λr18 ZX=> .s λ_=>ZX)
  λk8 pW=> .c (λh4=>pW _ ⟨by show e4.B.length≤_;omega,by show(0:Int)≤2;omega⟩)
  λh4=> .j (λy10:Int×Aa×(List UInt8)=>y10.2.2.length≤500000∧y10.1≤2) (λy10 aX=>pW _ aX)
  λk11 PV=> .c (λh5=>PV _ ⟨by show e4.B.length≤_;omega,by show zA .i64 a1.J 3≤2;omega⟩)
  λh5=> .j (λy12:Aa×(List UInt8)=>y12.2.length≤500000) (λy12 HX=>PV _ ⟨HX,RV.2⟩)
  λk13 XV=> .c (λh6=> .c (λh7=> .s nofun) λh7=>?_)
  λh6=>XV _ (by show e4.B.length≤_;omega))
 have hd4:=gH (a:=a1.N) (n:=(e4.B.length:Int)) (by omega) (by simp only[B]at h7;omega);refine .n h7 (.h (by simp only[B];omega) (.bg (by omega) λe14 YZ SY=> .h (by simp only[B];omega) (.bg (by omega) λe16 qZ NZ=>XV _ (by show(List.set e4.B _ _).length≤_;rw[List.length_set];omega))))
def zrb{a0 a1}(ha:eB a0=true)(hw:wt a0≤500000000)(hb:wt a1≤1000):Ok (Ca a0 a1) λr=>eB r=true∧∃m,r=⟨a0.Now,a0.Clients,a0.S,a0.D,a0.Seen++m,a0.Known,a0.Notes⟩:=by
 unfold Ca;have hL:=DB;have hw1:=zB a1;let Q:Aa→Prop:=λr=>eB r=true∧∃m,r=⟨a0.Now,a0.Clients,a0.S,a0.D,a0.Seen++m,a0.Known,a0.Notes⟩
 refine .cp (by omega) (.j Q (λy2 xW=> .s xW)
  λk3 JV=> .l (λx4:Int×Aa=>(0≤x4.1∧x4.1≤(a1.length:Int))∧Q x4.2) (λx4:Int×Aa=>((a1.length:Int) - x4.1).toNat) (λx4 ⟨hx,XZ,m,DY⟩ k5 dW=> .c (λh1=> .bi hx.1 (by simpa using h1) λe6 xY sX=> .b (zsM (by have:=(zcP (HC.1 XZ).seen).1;omega) (by omega)) λr7 HW=>?_)
  λh1=>JV _ ⟨XZ,m,DY⟩) ⟨⟨by show(0:Int)≤0;omega,by show(0:Int)≤_;omega⟩,ha,[],by simp⟩ (by simp only;omega))
 have h1:x4.1<(a1.length:Int):=by simpa using h1
 have e1:iA .i64 x4.1 1=x4.1+1:=DA (by omega) (by omega);refine dW _ ⟨⟨by simp only[e1];omega,by simp only[e1];omega⟩,?_⟩ (by simp only[e1];omega)
 rcases HW with h | ⟨h,h'⟩
 ·rw[h];exact⟨XZ,m,DY⟩
 ·exact⟨zwa XZ h',m++[e6],by rw[h,DY,List.append_assoc]⟩
end Go.D
namespace Go.D
def zt9{a0:Aa}:Pc (Dz a0) λr=>r.1.Seen=a0.Seen:=by
 unfold Dz
 (try simp only[oA,FG])
 repeat' (first | (with_reducible first | exact Pc.n | refine Pc.p λ_=>?_ | refine Pc.j ?_ | refine Pc.g λ_=>?_ | refine Pc.c (λ_=>?_) λ_=>?_ | refine Pc.b λ_ _=>?_) | exact .s rfl | exact .s ‹_› | (refine Pc.l (λx=>x.2.2.Seen=a0.Seen) rfl (λx k hx hk=>?_) _) | exact hk _ hx | dsimp only)
def zux{w:Aa}{d:Au}(h:eB w=true)(h1:gC d=true):eB ⟨w.Now,w.Clients,⟨w.S.Psks,w.S.J,d,w.S.T,w.S.Cr⟩,w.D,w.Seen,w.Known,w.Notes⟩=true:=by
 have p:=HC.1 h;have S:=rF.1 p.srv;exact HC.2 ⟨p.now,p.cl,rJ (d:=⟨w.S.Psks,w.S.J,d,w.S.T,w.S.Cr⟩) p.srv rfl S.jar h1 S.tab S.cr S.id,p.psl,p.dice,p.seen,p.kl,p.ci,p.kn,p.notes⟩
def zlP{a0:Aa}(ha:eB a0=true)(hn:wt a0≤400000000):Ok (Dz a0) λr=>AK a0 r.2 r.1:=by
 obtain⟨r,h,p1,p2,p3,p4,p5,_⟩:=@zqe a0 (by omega);exact⟨r,h,p1 ha,p2,zt9 r h,by omega,p4,λx hx=>(p5 ha x hx).1⟩
structure DoP(a0:Aa)(a1:Am)(r:Aa×Bool):Prop where
 no:r.2=false→r.1=a0
 yes:r.2=true→eB a0=true∧a0.Notes.length≤500∧fF a1=true∧eB r.1=true∧(∃m,r.1.Notes=a0.Notes++m)∧(∃m,r.1.Seen=a0.Seen++m)
 sz:wt r.1≤wt a0+140000
def zmw{a0:Aa}{a1:Am}:DoP a0 a1 (a0,false):=⟨λ_=>rfl,nofun,Nat.le_add_right _ _⟩
def ze6{a0 a1}(hn:wt a0≤4000000000)(hw:wt a1≤300000):Ok (Fb a0 a1) (DoP a0 a1):=by
 unfold Fb;have hL:=DB;let Q:List Ap→Bool→Aa→Prop:=λl b w=>b=true→AK a0 l w;refine .j (λy1:Bool=>y1=false→eB a0=true∧fF a1=true∧a0.Notes.length≤500) (λy1 lW=> .c (λh1=> .cp (by omega) (.s zmw)) λh1=>?_) λk2 IV=> .m (qA (by omega)) (.c (λ_=>IV _ nofun) λh2=> .c (λ_=>IV _ nofun) λh3=>IV _ λh4=>⟨nf h2,nf h3,by simp only[B]at h4;omega⟩);obtain⟨ha,he,hN⟩:=lW h1;have F:=mO ha;have hn:wt a0≤300000000:=by have:=zaD ha;have:=CE (HC.1 ha).notes;omega
 simp only[HT]at F
 refine .jt (λy5=> .j (λy13:(List Ap)×Bool×Aa=>Q y13.1 y13.2.1 y13.2.2) (λy13 EX=> .c (λh3=> .cp (by omega) (.s zmw)) λh3=>?_)
  λk14 SV=> .c (λh4=> .cp (by omega) (.b (zoA ha (by omega) he) λr16 mX=>SV _ λ_=>mX))
  λh4=> .jt (λy17=> .j (λy13:(List Ap)×Bool×Aa=>Q y13.1 y13.2.1 y13.2.2) (λy25 Y2=>SV _ Y2)
  λk26 iY=> .c (λh5=> .b (zoM ha (by omega) he hw) λr27 tY=>iY _ tY)
  λh5=> .jt (λy28=> .j (λy13:(List Ap)×Bool×Aa=>Q y13.1 y13.2.1 y13.2.2) (λy32 Z4=>iY _ Z4)
  λk33 cY=> .c (λh6=> .cp (by omega) (.b (zoz ha (by omega) he) λr35 z7=>cY _ λ_=>z7))
  λh6=> .jt (λy36=> .j (λy13:(List Ap)×Bool×Aa=>Q y13.1 y13.2.1 y13.2.2) (λy38 z5=>cY _ z5)
  λk39 aZ=> .c (λh7=> .cp (by omega) (.b (zpt ha (by omega) he) λr41 A1=>aZ _ A1))
  λh7=> .j (λy13:(List Ap)×Bool×Aa=>Q y13.1 y13.2.1 y13.2.2) (λy42 V2=>aZ _ V2)
  λk43 dY=> .c (λh8=> .b (zlP ha (by omega)) λr44 s5=>dY _ λ_=>s5)
  λh8=> .j (λy45:Bool×Aa=>Q [] y45.1 y45.2) (λy45 hy45=>dY _ hy45)
  λk46 F8=> .c (λh9=> .cp (by omega) (.j (λy48:Aa=>AK a0 [] y48) (λy48 hy48=>F8 _ λ_=>hy48)
  λk49 J1=> .c (λtW=> .b (zjU (by simp only[N];omega)) λr50 hr50=>J1 _ ?_)
  λtW=> .b (zjU (by have:=F.2.1;simp only[N]at this⊢;omega)) λr51 o8=>J1 _ ?_))
  λh9=>F8 _ nofun)
  λk37 G8=> .c (λ_=>G8 _)
  λ_=>G8 _)
  λk29 fY=> .c (λ_=>fY _)
  λUW=> .jt (λy30=>fY _)
  λk31 bZ=> .c (λ_=>bZ _)
  λ_=>bZ _)
  λk18 PW=> .c (λ_=>PW _)
  λjY=> .jt (λy19=>PW _)
  λk20 eY=> .c (λ_=>eY _)
  λHY=> .jt (λy21=>eY _)
  λk22 RW=> .c (λ_=>RW _)
  λNY=> .jt (λy23=>RW _)
  λk24 oW=> .c (λ_=>oW _)
  λ_=>oW _)
  λk6 CW=> .c (λ_=>CW _)
  λM1=> .jt (λy7=>CW _)
  λk8 pW=> .c (λ_=>pW _)
  λOZ=> .jt (λy9=>pW _)
  λk10 OV=> .c (λ_=>OV _)
  λPZ=> .jt (λy11=>OV _)
  λk12 jW=> .c (λ_=>jW _)
  λ_=>jW _
 ·have E:=EX (nf h3);refine .b (zrb E.ok (by have:=E.sz;omega) E.wl) λr53 ⟨q1,m,q2⟩=> .s ⟨nofun,λ_=>⟨ha,hN,he,q1,?_,?_⟩,?_⟩
  ·obtain⟨m2,hm⟩:=E.notes;exact⟨m2,by show r53.Notes=_;rw[q2];exact hm⟩
  ·exact⟨m,by show r53.Seen=_;rw[q2, ←E.seen]⟩
  ·have h5:=E.sz;have h6:=(zcP (HC.1 q1).seen).1;have h7:wt r53+wt y13.2.2.Seen=wt y13.2.2+wt r53.Seen:=by rw[q2];simp only[qG];omega
   show wt r53≤_
   omega
 ·exact evp (m:=[]) (zvQ ha (hr50.1 (HC.1 ha).dice)) (List.append_nil _).symm (Nat.zero_le _) rfl (Nat.zero_le _) λx hx=>nomatch hx
 ·exact evp (m:=[]) (zux ha (o8.1 (rF.1 (HC.1 ha).srv).dice)) (List.append_nil _).symm (Nat.zero_le _) rfl (Nat.zero_le _) λx hx=>nomatch hx
def zfE{a0 a1}(ha:wt a0≤2000000000)(hb:wt a1≤300000):Ok (Fc a0 a1) λr=>(eB a0=true→eB r=true)∧(eB a0=false→r=a0)∧(∃m,r.Notes=a0.Notes++m)∧wt r≤wt a0+9000000:=by
 unfold Fc;have hL:=DB;have hm:=zal (a1.length:Int) 60;have hw:=zB a1;have hwt:=wD (List.drop 0 a1) (pD (a1.length:Int) 60 - 0).toNat;have hwd:=RE a1 0;have MV:(List.take (pD (a1.length:Int) 60 - 0).toNat (List.drop 0 a1)).length≤60:=by rw[List.length_take];omega
 let Q:Nat→Aa→Prop:=λi r=>(eB a0=true→eB r=true)∧(eB a0=false→r=a0)∧(∃m,r.Notes=a0.Notes++m)∧wt r≤wt a0+140000 *i
 refine .cp (by omega) (.h (by simp only[B];omega) (.j (λy3=>∃i≤60,Q i y3) (λy3 ⟨i,hi,p1,p2,p3,p4⟩=> .s ⟨p1,p2,p3,by omega⟩)
  λk4 QV=> .l (λx5:Int×Aa=>∃i:Nat,i≤60∧x5.1=(i:Int)∧Q i x5.2) (λx5:Int×Aa=>(60 - x5.1).toNat) (λx5 ⟨i,hi,hx,p1,p2,⟨m,p3⟩,p4⟩ k6 CW=> .c (λh1=>?_)
  λh1=>QV _ ⟨i,hi,p1,p2,⟨m,p3⟩,p4⟩) ⟨0,by omega,rfl,id,λ_=>rfl,⟨[],(List.append_nil _).symm⟩,Nat.le_refl _⟩ (by simp only;omega)))
 have h1:=of_decide_eq_true h1;refine .bi (by omega) h1 λe7 MZ pY=> .b (ze6 (by omega) (by omega)) λr8 sW=>?_;have e1:iA .i64 x5.1 1=x5.1+1:=DA (by omega) (by omega);have h9:wt r8.1≤wt a0+140000 *(i+1):=Nat.le_trans sW.sz (by rw[Nat.mul_succ, ←Nat.add_assoc];exact Nat.add_le_add_right p4 _);refine CW _ ⟨i+1,by omega,by simp only[e1];omega,λh=>?_,λh=>?_,?_,h9⟩ (by simp only[e1];omega)
 ·cases hr:r8.2
  ·show eB r8.1=true
   rw[sW.no hr];exact p1 h
  ·exact(sW.yes hr).2.2.2.1
 ·cases hr:r8.2
  ·show r8.1=_
   rw[sW.no hr];exact p2 h
  ·have:=(sW.yes hr).1;rw[p2 h,h]at this;cases this
 ·cases hr:r8.2
  ·exact⟨m,by show r8.1.Notes=_;rw[sW.no hr];exact p3⟩
  ·obtain⟨m2,C2⟩:=(sW.yes hr).2.2.2.2.1;exact⟨m++m2,by show r8.1.Notes=_;rw[C2,p3,List.append_assoc]⟩
end Go.D
namespace Go.D
theorem zid{c:Ae}(h:tB c=true):TB c.Id c.Psk c.At=⟨c.Id,c.Psk,c.At,0,[],⟨0,0,[],[],0,[],[],0,0,[],[]⟩,⟨0,[],⟨0,[],0,⟨0,[]⟩⟩,⟨0,[],0,⟨0,[]⟩⟩,false,0,[]⟩,⟨false,0,0,0⟩,⟨false,0,0,0⟩,0⟩:=by
 unfold tB at h;simp only[Bool.and_eq_true]at h;unfold TB;rw[h.1.1.1,h.1.1.2,h.1.2];rfl
theorem zfV{a0 a1:List UInt8}{a2:Int}{r:List UInt8}(h:Fd a0 a1 a2=some r)(h0:¬a1.length>100)(h1:0≤a2)(h2:¬a2>200)(h3:¬a0.length>1048576):(r.length:Int)=a2:=by
 obtain⟨s,hs,_,hl⟩:=zi5 (a0:=a0) (a1:=a1) (a2:=a2) (by rw[FA];omega);rw[h]at hs;cases hs;exact hl (by omega)
theorem zhg(k:IntKind)(a b:Int):BB k a b=BB k b a:=by unfold BB;rw[BitVec.xor_comm]
theorem zfL{a0:Int}{a1:List UInt8}{a2 a3:Int}{r:List UInt8}(h:Cb a0 a1 a2 a3=some r):(r.length=0↔¬(eA a0 0 1=true∧a1.length=12∧eA a2 0 4294967295=true∧eA a3 0 281474976710655=true)):=by
 revert h;refine(?_:Pc _ (λr:List UInt8=>(r.length=0↔¬(eA a0 0 1=true∧a1.length=12∧eA a2 0 4294967295=true∧eA a3 0 281474976710655=true)))) r
 unfold Cb;((try simp only[YB]);repeat' (first | (with_reducible first | intro _ | apply hG | apply nH | apply zaG | apply ZF) | (refine .s ?_;first | trivial | grind [nA,NA,eA,PG])))
theorem zmg{a0:List UInt8}{a1:Int}{a2:List UInt8}{a3 a4 a5:Int}{a6:List UInt8}{r:Ab×Bool}(h:Dq a0 a1 a2 a3 a4 a5 a6=some r):(r.2=true↔a0.length=32∧NA a1=true∧jC a5=true∧a2.length=12∧eA a3 0 4294967295=true∧eA a4 0 281474976710655=true∧dG a5 (a6.length:Int)=true)∧(r.2=true→r.1.Sn=a2∧r.1.Epoch=a3∧r.1.Seq=a4):=by
 revert h;refine(?_:Pc _ (λr:Ab×Bool=>(r.2=true↔a0.length=32∧NA a1=true∧jC a5=true∧a2.length=12∧eA a3 0 4294967295=true∧eA a4 0 281474976710655=true∧dG a5 (a6.length:Int)=true)∧(r.2=true→r.1.Sn=a2∧r.1.Epoch=a3∧r.1.Seq=a4))) r
 unfold Dq;((try simp only[BA,VC]);repeat' (first | (with_reducible first | intro _ | apply hG | apply nH | apply ZF | apply zI) | (refine .s ?_;first | trivial | grind [nA,NA,eA,wB])))
theorem zkQ{a0:Ax}{a1:Int}{a2:List UInt8}{a3:Int}{a4:List UInt8}{r:Ax×Ab×Int}(h:Er a0 a1 a2 a3 a4=some r):(r.2.2≠0→r.1=a0)∧(r.2.2=0→r.2.1.Sn=a2∧r.2.1.Epoch=a0.N∧r.2.1.Seq=a0.Seq):=by
 revert h;refine(?_:Pc _ (λr:Ax×Ab×Int=>(r.2.2≠0→r.1=a0)∧(r.2.2=0→r.2.1.Sn=a2∧r.2.1.Epoch=a0.N∧r.2.1.Seq=a0.Seq))) r
 unfold Er;((try simp only[oA]);repeat' (first | (with_reducible first | intro _ | apply hG | apply nH | apply ZF | apply zI) | (refine .s ?_;first | trivial | grind [nA,NA,eA, →zmg,aD])))
theorem zfH{a0:Ak}{a1:Int}{a2:List UInt8}{r:Ak×Ab×Int}(h:Bq a0 a1 a2=some r):(r.2.2≠0→r.1=a0)∧(r.2.2=0→r.2.1.Sn=a0.Sn∧r.2.1.Epoch=a0.Cur.N∧r.2.1.Seq=a0.Cur.Seq):=by
 revert h;refine(?_:Pc _ (λr:Ak×Ab×Int=>(r.2.2≠0→r.1=a0)∧(r.2.2=0→r.2.1.Sn=a0.Sn∧r.2.1.Epoch=a0.Cur.N∧r.2.1.Seq=a0.Cur.Seq))) r
 unfold Bq;cases a0;((try simp only[oA,uC]);repeat' (first | (with_reducible first | intro _ | apply hG | apply ZF | apply zI) | (refine .s ?_;grind [nA,NA,eA, →zkQ])))
theorem zlE(b:List UInt8)(n k:Int):FD b n k=b++FD [] n k:=by
 unfold FD;cases decide (k<1)||decide (k>6)<;>simp
def zg4{a b c d e f g:List UInt8}:mD [a,b,c,d,e,f,g]=pt (wt [a,b,c,d,e,f,g]≤bA) (a++b++c++d++e++f++g):=by unfold mD;simp
theorem zjw{a0:Aw}{a1:Int}{r:Aw×Int}(h:Dy a0 a1=some r):r.2=0→r.1=a0:=by
 revert h;refine(?_:Pc _ (λr:Aw×Int=>r.2=0→r.1=a0)) r
 unfold Dy;((try simp only);repeat' (first | (with_reducible first | intro _ | apply ZF | apply zI) | (refine .s ?_;grind [nA,NA,eA])))
end Go.D
namespace Go.D
def zcI{a0 a1}:Ag (Cl a0 a1) (Bp a0 a1):=by
 unfold Cl Bp Hh;have h1:=@LA a0.Top 1024;have h2:=@DA (sA .i64 a0.Top 1024) 1;((try simp only[YF,bc,bs]);repeat' (first | (with_reducible first | intro _ | apply gF | apply kF | exact .r0 | apply nB | apply oC | apply jB) | (with_reducible refine Ag.cr (λ_=>?_) (λ_=>?_)<;>try (exfalso;grind (splits:=3) [nA,NA,eA,iD];done)) | with_reducible apply qC | (refine .s ?_;grind [nA,NA,eA,TB,tC,List.length_eq_zero_iff,iD])))
instance{a0:Aq}{a1:Int}:MA (Bp a0 a1) (Cl a0 a1):=⟨zcI⟩
def zkG{a0:Aq}{a1:Int}{r:Bool}(h:Cl a0 a1=some r):r=true→iD a0=true:=by
 revert h;refine(?_:Pc _ (λr:Bool=>r=true→iD a0=true)) r
 unfold Cl;((try simp only[YF]);repeat' (first | (with_reducible first | intro _ | apply hG | apply nH | apply ZF) | (refine .s ?_;first | trivial | grind [nA,NA,eA])))
def zsv{a0:Aq}{a1:Int}{r2:Bool}(h:iD a0=true)(hr:Bp a0 a1=some r2):Ok (Cg a0 a1) λr=>r.2=nK a0 a1∧(r.2=false→r.1=a0)∧(r.2=true→zL a0 a1.toNat r.1):=by
 have hL:=DB;have hw:=zcO.1 h;have hwt:wt a0=32:=by have:=hw.words.1;simp only[N];exact this
 unfold Cg;refine Ok.same (qA (p:=wt a0≤bA) (by omega)) ?_;refine Ok.same hr ?_
 have eW:r2=nK a0 a1:=by
  obtain⟨q,hq,e⟩:=zfk (a1:=a1) h;rw[←e];exact(zcI q r2 hq hr).symm
 rw[←eW];refine Ok.cond' (λe=>Ok.some' ⟨(by simpa using e:r2=false).symm,λ_=>rfl,nofun⟩) (λh'=>?_);simp only[B]at h';have ht:=hw.top
 have hm:True∧0≤a1∧a1≤281474976710655:=by
  rw[eW]at h';simp only[nK,Bool.and_eq_true,fC]at h';exact⟨trivial,h'.1⟩
 rw[h'];clear eW hr;obtain⟨n,rfl⟩:=Int.eq_ofNat_of_zero_le hm.2.1;have e1:=mT (n:=(n:Int)) (by omega);have e2:=kT (n:=(n:Int) % 1024) (by omega) (by omega);have e3:=GO (a:=(n:Int) % 1024) (b:=32) (by omega);rw[e1,e2,e3];have q1:((n:Int) % 1024 / 32).toNat=n % 1024 / 32:=by omega
 have q2:(n:Int) % 1024 % 32=((n % 1024 % 32:Nat):Int):=by omega
 refine Ok.join (λy:Aq=>RF y.Bits∧y.Top=a0.Top∧∀i,gD y i=true↔gD a0 i=true∧¬UH (a0.Top+1) ((n:Int)+1) i) (λy hy=>?_) (λk hk=>?_)
 ·obtain⟨w1,w2,w3⟩:=hy;obtain⟨m,m1,m2⟩:=w1.get (j:=n % 1024 / 32) (by omega);have hl:=w1.1;refine Ok.chk ?_ ?_
  ·simp only[B];omega
  rw[q1,m2,Option.bind_some];refine Ok.chkn ?_ ?_
  ·simp only[B];omega
  refine Ok.chk ?_ ?_
  ·simp only[B];omega
  rw[Option.bind_some,q2,(zaw m1 (by omega)).1];refine Ok.join (λz:Aq=>zL a0 n z) (λz hz=>Ok.some' ⟨rfl,nofun,λ_=>hz⟩) (λk' dX=>?_)
  have key:∀t:Int,t=zG a0.Top (n:Int)→zL a0 n ⟨t,y.Bits.set (n % 1024 / 32) ((m|||2^(n % 1024 % 32):Nat):Int)⟩:=λt ht=>
   ⟨ht,w1.set _ (zaw m1 (by omega)).2,λi=>by rw[zlm (w:=y) (t:=t) w1 m1 m2,Bool.or_eq_true,w3,zdP]⟩
  refine Ok.cond' (λh3=>dX _ (key _ ?_)) (λh3=>dX _ (key _ ?_))
  ·simp only[B]at h3;unfold zG;rw[if_pos h3]
  ·simp only[B]at h3;unfold zG;rw[if_neg h3,w2]
 ·refine Ok.loop (λx:Int×Int×Aq=>(0≤x.2.1∧x.2.1≤281474976710656∧0≤x.1∧x.1≤1024∧a0.Top+1+x.1=x.2.1∧(x.1=0∨x.2.1≤(n:Int)+1))∧RF x.2.2.Bits∧x.2.2.Top=a0.Top∧∀i,gD x.2.2 i=true↔gD a0 i=true∧¬UH (a0.Top+1) x.2.1 i)
   (λx=>(1025 - x.1).toNat) (λx hx k' dX=>?_) ?_ ?_
  ·obtain⟨x0,x1,x2,x3⟩:=hx;obtain⟨p,hp⟩:=Int.eq_ofNat_of_zero_le x0.1;have f1:=mT x0.1;have f2:=kT (n:=x.2.1 % 1024) (by omega) (by omega);have f3:=GO (a:=x.2.1 % 1024) (b:=32) (by omega);rw[f1,f2,f3];have p1:(x.2.1 % 1024 / 32).toNat=p % 1024 / 32:=by omega
   have p2:x.2.1 % 1024 % 32=((p % 1024 % 32:Nat):Int):=by omega
   refine Ok.join (λy:Bool=>(y=true→x.1<1024∧x.2.1≤(n:Int))∧(y=false→1024≤x.1∨(n:Int)<x.2.1)) (λy hy=>?_) (λk2 IV=>?_)
   ·refine Ok.cond' (λh=>?_) (λh=>hk _ ⟨x1,x2,λi=>?_⟩)
    ·have hy:=hy.1 h;obtain⟨m,m1,m2⟩:=x1.get (j:=p % 1024 / 32) (by omega);have hl:=x1.1;refine Ok.chk ?_ ?_
     ·simp only[B];omega
     rw[p1,m2,Option.bind_some];refine Ok.chkn ?_ ?_
     ·simp only[B];omega
     refine Ok.chk ?_ ?_
     ·simp only[B];omega
     rw[Option.bind_some,p2];obtain⟨c,c1,c2,c3⟩:=zkH (k:=p % 1024 % 32) m1 (by omega);rw[c1];have g1:=DA (a:=x.1) (b:=1) (by omega) (by omega);have g2:=DA (a:=x.2.1) (b:=1) (by omega) (by omega);refine dX _ ?_ ?_
     ·refine⟨by simp only;omega,x1.set _ c2,x2,λi=>?_⟩;show gD ⟨x.2.2.Top,_⟩ i=true↔_∧¬UH _ (iA .i64 x.2.1 1) i
      rw[g2,zkL x1 m1 m2 c2 c3,Bool.and_eq_true,x3,zlJ (by omega),Bool.not_eq_true', ←Bool.not_eq_true,zdP,hp,not_or,and_assoc,eq_comm (a:=(i:Int) % 1024)]
     ·simp only;omega
    ·rw[x3]
     rcases hy.2 h with h | h
     ·exact⟨λk=>absurd (zmi (by omega)) k.2,λk=>absurd (zmi (by omega)) k.2⟩
     ·rcases x0.2.2.2.2.2 with e | e
      ·exact and_congr_right λ_=>not_congr ⟨λc=>absurd c (wO (by omega)),λc=>absurd c (wO (by omega))⟩
      ·rw[show x.2.1=(n:Int)+1 by omega]
   ·refine Ok.cond' (λh=>IV _ ⟨λq=>?_,λq=>?_⟩) (λh=>IV _ ⟨λq=>(nomatch q),λ_=>?_⟩)
    ·simp only[B]at h q;omega
    ·simp only[B]at h q;omega
    ·simp only[B]at h;omega
  ·have g:=DA (a:=a0.Top) (b:=1) (by have:=hw.top;omega) (by have:=hw.top;omega);have ht:=hw.top;exact⟨⟨by simp only;omega,by simp only;omega,Int.le_refl _,by show(0:Int)≤1024;decide,by simp only;omega, .inl rfl⟩,hw.words,rfl,λi=>⟨λh=>⟨h,wO (by show iA .i64 a0.Top 1≤_;omega)⟩,λh=>h.1⟩⟩
  ·simp only;omega
def ztE{a0 a1}:Ag (Dg a0 a1) (Cg a0 a1):=by
 cases h:iD a0
 ·unfold Dg Cg;refine .pl λ_=> .pr λ_=> .bd inferInstance λv hv _=> .cc (λ_=> .r0) λe=>?_;have:=zkG hv (by simpa using e);rw[h]at this;cases this
 ·cases hk:Bp a0 a1 with
  | none=>
   unfold Cg;refine .pr λ_=>?_;rw[hk];exact .nr
  | some m=>
   obtain⟨r,hr,r1,r2,r3⟩:=zsv h hk;obtain⟨q,hq,q1,q2,q3,_⟩:=zfm (a1:=a1) h;intro x y hx hy;cases hq.symm.trans hx;cases hr.symm.trans hy;obtain⟨u,b⟩:=r;obtain⟨v,c⟩:=q;have e:b=c:=r1.trans q1.symm;subst e;cases b
   ·rw[show u=a0 from r2 rfl,show v=a0 from q2 rfl]
   ·have:=(r3 rfl).same (q3 rfl);rw[show u=v from this]
theorem zsO{a0:Aq}{a1:Int}{r:Aq×Bool}{m:Bool}(h:Dg a0 a1=some r)(k:Bp a0 a1=some m):r.2=m:=by
 cases e:iD a0
 ·unfold Dg at h
  revert h;refine(?_:Pc _ (λr:Aq×Bool=>r.2=m)) r
  refine .p λ_=> .b λv hv=> .c (λhn=> .s ?_) λhn=>?_
  ·rw[←zcI v m hv k];simpa using hn.symm
  ·have:=zkG hv (by simpa using hn);rw[e]at this;cases this
 ·obtain⟨q,hq,q1,_⟩:=zfm (a1:=a1) e;obtain⟨p,hp,e2⟩:=zfk (a1:=a1) e;rw[←zcI p m hp k,e2];cases hq.symm.trans h;exact q1
end Go.D
namespace Go.D
def zjY{a0 a1}:Ag (Dj a0 a1) (Bv a0 a1):=by
 unfold Dj Bv Du;((try simp only[oA,ba,bx,EH]);repeat' ((with_reducible first | intro _ | exact .r0 | apply nB | apply oC | refine .bd inferInstance ?_ | apply DD | apply UB | apply jB | apply BL | apply SC | (apply_assumption;done) | refine .bR ‹_› ?_)))
instance{a0:Aj}{a1:Int}:MA (Bv a0 a1) (Dj a0 a1):=⟨zjY⟩
def zwp{p:Aj}{n:Int}(h:sC p=true)(k:eA n 0 1000000=true):Ag (Du p n) (Bv p n):=λv w hv hw=>by
 refine zjY v w ?_ hw;unfold Dj aA;rw[h,k,hv];rfl
def zvD{α:Type}{p:Aj}{a:Ai}{z:Option α}{x y:Option α}{s0:Aj}{n:Nat}(hw:wt p≤bA)(h1:0≤DE p a→Ag z x)(h2:DE p a<0→Ag z y):Ag z (tA n (λ(x8:Int×Aj) k9=>
  cond (decide (x8.1<(p.Cands.length:Int)))
   (cond (decide (0≤x8.1)&&decide (x8.1<(p.Cands.length:Int))) (Option.bind (p.Cands[x8.1.toNat]?) fun e10=>
    cond (cond (e10.A.Host==a.Host) (cond (e10.A.Port==a.Port) (true) false) false) x (k9 ((iA .i64 x8.1 1),x8.2))) none)
   y) (0,s0)):=by
 rcases zbt p a with⟨e,h⟩ | ⟨i,c,e,hi,hs⟩
 ·refine Ag.lI (λ_=>True) trivial (λx k _ hk=> .cr (λ_=> .gr λ_=> .br λc hc=> .cr (λhx=>?_) λ_=>hk _ trivial) λ_=>h2 (by omega)) n;rw[zcw,h c (List.mem_of_getElem? hc)]at hx;cases hx
 ·refine Ag.lI (λx:Int×Aj=>0≤x.1∧x.1≤i) ⟨Int.le_refl _,by simp only;omega⟩ (λx k hx hk=> .cr (λ_=> .gr λhg=> .br λd hd=> .cr (λ_=>h1 (by omega)) λQ6=>hk _ ?_) λqW=>?_) n
  ·by_cases he:x.1=(i:Int)
   ·rw[he,Int.toNat_natCast,hi]at hd;cases hd;rw[zcw,hs]at Q6;cases Q6
   ·simp only;have:=(List.getElem?_eq_some_iff.1 hi).1;have hL:=DB;have:=zB p.Cands;rw[YI]at hw;rw[DA (by omega) (by omega)];omega
  ·have:=(List.getElem?_eq_some_iff.1 hi).1;simp only[B]at qW;omega
def zuJ{a0 a1 a2 a3}:Ag (Gk a0 a1 a2 a3) (Ek a0 a1 a2 a3):=by
 unfold Gk Ek;cases h1:sC a0
 ·((try simp only[oA,BA,cJ,List.nil_append]);repeat' (first | (with_reducible first | intro _ | apply gF | apply kF | exact .r0 | apply nB | apply DD | apply jB) | (with_reducible refine Ag.cr (λ_=>?_) (λ_=>?_)<;>try (exfalso;grind (splits:=3) [nA,NA,eA];done)) | (with_reducible first | apply tD | apply qC | apply RG | apply FE) | (exfalso;grind [nA,NA,eA])))
 cases h2:eA a1 0 1000000
 ·((try simp only[oA,BA,cJ,List.nil_append]);repeat' (first | (with_reducible first | intro _ | apply gF | apply kF | exact .r0 | apply nB | apply DD | apply jB) | (with_reducible refine Ag.cr (λ_=>?_) (λ_=>?_)<;>try (exfalso;grind (splits:=3) [nA,NA,eA];done)) | (with_reducible first | apply tD | apply qC | apply RG | apply FE) | (exfalso;grind [nA,NA,eA])))
 haveI:MA (Bv a0 a1) (Du a0 a1):=⟨zwp h1 h2⟩
 ((try simp only[oA,BA,cJ,List.nil_append]);repeat' (first | (with_reducible first | intro _ | apply gF | apply kF | exact .r0 | apply nB | apply oC | refine .bd inferInstance ?_ | apply DD | apply jB) | (with_reducible refine Ag.cr (λ_=>?_) (λ_=>?_)<;>try (exfalso;grind (splits:=3) [nA,NA,eA];done)) | (with_reducible first | apply tD | apply qC | apply RG | apply FE) | (refine .s ?_;grind [nA,NA,eA,TB,tC,List.length_eq_zero_iff]) | (exfalso;grind [nA,NA,eA]) | dsimp only[cond_true,cond_false]))
 all_goals (refine zvD ‹_› (λ_=>?_) (λ_=>?_)<;>(repeat' (first | (with_reducible first | intro _ | exact .r0 | apply oC | apply UB | refine .ct ‹_› ?_ | refine .cf ‹_› ?_) | (with_reducible refine Ag.cr (λ_=>?_) (λ_=>?_)<;>try (exfalso;grind (splits:=3) [nA,NA,eA];done)) | (refine .s ?_;grind [nA,NA,eA,TB,tC,List.length_eq_zero_iff]))))
def zvA{p:Aj}{a:Ai}{i:Nat}{c:Az}(h:sC p=true)(hi:p.Cands[i]?=some c)(hs:RB c.A a=true):qK p a=(c,true)∧p.Cands.filter (λe=>!RB e.A a)=p.Cands.take i++p.Cands.drop (i+1):=by
 have hp:=OJ.1 h;obtain⟨h1,rfl⟩:=List.getElem?_eq_some_iff.1 hi
 have sp:p.Cands=p.Cands.take i++p.Cands[i] :: p.Cands.drop (i+1):=by
  rw[←List.drop_eq_getElem_cons h1,List.take_append_drop]
 have h2:=hp.two;rw[sp]at h2;have h3:=List.pairwise_append.1 h2
 have MV:∀e∈p.Cands.take i,RB e.A a=false:=λe he=>by
  have:=h3.2.2 e he _ List.mem_cons_self;rwa [pV.1 hs]at this
 have hgt:∀e∈p.Cands.drop (i+1),RB e.A a=false:=λe he=>by
  have:=(List.pairwise_cons.1 h3.2.1).1 e he;rw[pV.1 hs,zsU]at this;exact this
 constructor
 ·have hf:p.Cands.find? (λe=>RB e.A a)=some p.Cands[i]:=by
   rw[List.find?_eq_some_iff_append];exact⟨hs,_,_,sp,λe he=>by rw[MV e he];rfl⟩
  unfold qK;rw[h,hf];rfl
 ·conv=>lhs;rw[sp]
  rw[List.filter_append,List.filter_cons_of_neg (by rw[hs];decide),List.filter_eq_self.2 λe he=>by rw[MV e he];rfl,List.filter_eq_self.2 λe he=>by rw[hgt e he];rfl]
def zwE{α:Type}{l:List Az}{a:Ai}{z:Option α}{K:Aj→Option α}{c:List Az→Az→Bool}{n:Nat}(hl:l.length≤3)(h:Ag z (K ⟨a,l.filter λe=>!RB e.A a⟩)):Ag z (tA n (λ(x8:Int×Aj) k9=>
  cond (decide (x8.1<(l.length:Int)))
   (Option.bind (kA l x8.1) fun e10=>aA (fun (y12:Aj)=>k9 ((iA .i64 x8.1 1),y12)) fun k13=>
    cond (!(cond (e10.A.Host==a.Host) (cond (e10.A.Port==a.Port) (true) false) false))
     (Option.bind (kA l x8.1) λe14=>Option.bind (pt (wt e14≤bA) e14) λr15=>cond (c x8.2.Cands r15) (k13 (⟨x8.2.At,x8.2.Cands++[r15]⟩:Aj)) none)
     (k13 x8.2))
   (K x8.2)) (0,(⟨a,[]⟩:Aj))):=by
 refine Ag.lI (λx=>∃i:Nat,x=((i:Int),(⟨a,(l.take i).filter λe=>!RB e.A a⟩:Aj))∧i≤l.length) ⟨0,rfl,by omega⟩ (λx k hx hk=>?_) n;obtain⟨i,hx,h2⟩:=hx;subst hx;refine .cr (λhc=> .br λe he=> .jr ?_) λhc=>?_
 ·simp only[B]at hc;have hi:iA .i64 (i:Int) 1=((i+1:Nat):Int):=by rw[DA (by omega) (by omega)];omega
  have zX:l[i]?=some e:=by rw[kA,if_pos (by omega),Int.toNat_natCast]at he;exact he
  have ht:(l.take (i+1)).filter (λe=>!RB e.A a)=(l.take i).filter (λe=>!RB e.A a)++(if(!RB e.A a)=true then[e]else[]):=by
   rw[List.take_succ,zX,List.filter_append];cases hq:RB e.A a<;>simp[hq]
  rw[zcw];refine .cr (λh3=> .bR he (.pr λ_=> .gr λ_=>hk _ ⟨i+1,?_,by omega⟩)) λh3=>hk _ ⟨i+1,?_,by omega⟩
  ·rw[ht,if_pos h3,hi]
  ·rw[ht,if_neg (by rw[h3];decide),hi,List.append_nil]
 ·simp only[B]at hc;rw[List.take_of_length_le (by omega)];exact h
def ztr{a0 a1 a2 a3}:Ag (Gj a0 a1 a2 a3) (Fs a0 a1 a2 a3):=by
 unfold Gj Fs;cases h1:sC a0
 ·have:(qK a0 a2).2=false:=by unfold qK;rw[h1];rfl
  ((try simp only[oA,cJ,EB,LM,EH]);repeat' (first | (with_reducible first | intro _ | apply gF | apply kF | exact .r0 | apply nB | apply oC | apply DD) | (with_reducible refine Ag.cr (λ_=>?_) (λ_=>?_)<;>try (exfalso;grind (splits:=3) [nA,NA,eA];done)) | (with_reducible first | apply tD | apply qC) | (refine .s ?_;grind [nA,NA,eA,TB,tC,List.length_eq_zero_iff])))
 have hl:=(OJ.1 h1).len
 rcases zbt a0 a2 with⟨e,h⟩ | ⟨i,c,e,hi,hs⟩
 ·have:(qK a0 a2).2=false:=by
   unfold qK;rw[h1,List.find?_eq_none.2 λc hc=>by rw[h c hc];decide];rfl
  ((try simp only[oA,cJ,EB,LM,EH]);repeat' (first | (with_reducible first | intro _ | apply gF | apply kF | exact .r0 | apply nB | apply oC | apply DD) | (with_reducible refine Ag.cr (λ_=>?_) (λ_=>?_)<;>try (exfalso;grind (splits:=3) [nA,NA,eA];done)) | (with_reducible first | apply tD | apply qC) | (refine .s ?_;grind [nA,NA,eA,TB,tC,List.length_eq_zero_iff])))
 ·obtain⟨hc,hf⟩:=zvA h1 hi hs;have hx:kA a0.Cands (i:Int)=some c:=by rw[kA,if_pos (by omega),Int.toNat_natCast];exact hi
  have hn:=(List.getElem?_eq_some_iff.1 hi).1;have ha:=@DA i 1;simp only[cJ,LM,hc,e]
  ((try simp only[oA,cJ,EB,LM,EH]);repeat' (first | (with_reducible first | intro _ | apply gF | apply kF | exact .r0 | apply nB | apply oC | apply DD | apply jB) | (with_reducible refine Ag.cr (λ_=>?_) (λ_=>?_)<;>try (exfalso;grind (splits:=3) [nA,NA,eA];done)) | (with_reducible first | apply tD | apply qC | apply RG) | (refine .s ?_;grind [nA,NA,eA,TB,tC,List.length_eq_zero_iff]) | (exfalso;grind [nA,NA,eA]) | dsimp only[cond_true,cond_false]))
  all_goals (with_reducible refine zwE (a:=a2) (K:=λp=>some (p,true)) (c:=λl e=>decide (l.length+[e].length≤bA)) hl ?_)
  rw[hf,ha (by omega) (by omega),show((i:Int) - 0).toNat=i by omega,show((i:Int)+1).toNat=i+1 by omega,List.take_of_length_le (l:=a0.Cands.drop (i+1)) (by rw[List.length_drop];omega)];exact .r0
end Go.D
namespace Go.D
theorem zfy{a0:Ah}{a1:List UInt8}{r:Ah×List Av×List Ad×Int}(h:Di a0 a1=some r):(r.2.2.2≠0→r.2.1=[]∧r.2.2.1=[])∧(vC a0=true→a1.length>40→r.1=a0):=by
 revert h;refine(?_:Pc _ (λr:Ah×List Av×List Ad×Int=>(r.2.2.2≠0→r.2.1=[]∧r.2.2.1=[])∧(vC a0=true→a1.length>40→r.1=a0))) r
 unfold Di;((try simp only[oA,BA,LD]);repeat' (first | (with_reducible first | intro _ | apply hG | apply nH | apply ZF | apply zI) | (refine .s ?_;first | trivial | grind [nA,NA,eA])))
def zsl{a0:Ah}{a1:List UInt8}{r:Ah×List Av×List Ad×Int}(h:Di a0 a1=some r)(hs:vC a0=true):XE a0 r.1:=by
 by_cases hl:a1.length≤40
 ·obtain⟨q,hq,h1,_⟩:=ziu (a1:=a1) hs (by rw[FA];omega);cases hq.symm.trans h;exact h1
 ·rw[(zfy h).2 hs (by omega)];exact iO hs
def zcn{t:Ao}{i:Int}{e s:Ah}{r:Ao×Bool}(h:Bs t i s=some r)(ht:TC t=true)(he:kA t.L i=some e)(hs:XE e s):r=(⟨t.Cap,t.L.set i.toNat s⟩,true):=by
 have h0:0≤i:=by unfold kA at he;split at he<;>first | assumption | cases he
 rw[kA,if_pos h0]at he;have hk:=zvG ht he hs;have hn:=(List.getElem?_eq_some_iff.1 he).1
 revert h;refine(?_:Pc _ (λr:Ao×Bool=>r=(⟨t.Cap,t.L.set i.toNat s⟩,true))) r
 unfold Bs;((try simp only[oA,sG]);repeat' (first | (with_reducible first | intro _ | apply hG | apply nH | apply zaG | apply ZF | apply zI) | (refine .s ?_;first | trivial | grind [nA,NA,eA])))
def zd4{s:Ac}{i:Int}{e:Ah}(hs:KB s=true)(he:kA s.T.L i=some e):TC s.T=true∧vC e=true:=by
 have ht:=(rF.1 hs).tab;unfold kA at he;split at he
 ·exact⟨ht,(bF.1 ht).el _ (List.mem_of_getElem? he)⟩
 ·cases he
theorem zmo{s:Ac}{i:Int}{e:Ah}{b:List UInt8}{r:Ah×List Av×List Ad×Int}{t:Ao×Bool}(h1:Di e b=some r)(h2:Bs s.T i r.1=some t)(he:kA s.T.L i=some e)(hs:KB s=true):t=(⟨s.T.Cap,s.T.L.set i.toNat r.1⟩,true):=
 zcn h2 (zd4 hs he).1 he (zsl h1 (zd4 hs he).2)
theorem zl7{s:Ac}{i:Int}{e r:Ah}{t:Ao×Bool}(h1:Fa e=some r)(h2:Bs s.T i r=some t)(he:kA s.T.L i=some e)(hs:KB s=true):t=(⟨s.T.Cap,s.T.L.set i.toNat r⟩,true):=
 zcn h2 (zd4 hs he).1 he (by
  obtain⟨q,hq,h,_⟩:=zfw (zd4 hs he).2;cases hq.symm.trans h1;exact h)
def zmL{s:Ac}(h:KB s=true):sA .i64 (s.T.L.length:Int) 1=(s.T.L.length:Int) - 1:=by
 have:=(bF.1 (rF.1 h).tab).len;exact LA (by omega) (by omega)
end Go.D
namespace Go.D
def zuQ(u v:UInt8):BB .u8 ((u.toNat:Nat):Int) ((v.toNat:Nat):Int)=(((u^^^v).toNat:Nat):Int):=by
 unfold BB;show IntKind.wrap .u8 (((BitVec.ofInt 8 ((u.toNat:Nat):Int)^^^BitVec.ofInt 8 ((v.toNat:Nat):Int)).toNat:Nat):Int)=_
 rw[BitVec.ofInt_natCast,BitVec.ofInt_natCast];have:(BitVec.ofNat 8 u.toNat^^^BitVec.ofNat 8 v.toNat)=(u^^^v).toBitVec:=by simp
 rw[this];have h:(u^^^v).toNat<256:=UInt8.toNat_lt _;show IntKind.wrap .u8 (((u^^^v).toNat:Nat):Int)=_
 generalize (u^^^v).toNat=n at h;simp[IntKind.wrap,IntKind.bits,IntKind.signed];omega
def zmn{m n:Nat}(hm:m<256)(hn:n<256):zK .i64 (m:Int) (n:Int)=((m|||n:Nat):Int)∧m|||n<256:=by
 have h2:m|||n<2^8:=Nat.or_lt_two_pow hm hn
 refine⟨?_,h2⟩;unfold zK;show IntKind.wrap .i64 (((BitVec.ofInt 64 (m:Int)|||BitVec.ofInt 64 (n:Int)).toNat:Nat):Int)=_
 rw[BitVec.ofInt_natCast,BitVec.ofInt_natCast,BitVec.toNat_or,BitVec.toNat_ofNat,BitVec.toNat_ofNat,Nat.mod_eq_of_lt (by omega),Nat.mod_eq_of_lt (by omega)];exact MB (by omega) (by omega)
theorem zlV{a b:List UInt8}{r:Int}(h:Bo a b=some r)(hl:a.length≤1000000):r=0↔a=b:=by
 revert h;refine(?_:Pc _ (λr:Int=>r=0↔a=b)) r
 unfold Bo;refine .c (λh=> .s ?_) λh=> .j ?_
 ·simp only[bne_iff_ne,ne_eq]at h;exact⟨λk=>by omega,λk=>by rw[k]at h;omega⟩
 have h:a.length=b.length:=by simp at h;omega
 refine Pc.l (λx=>∃i m:Nat,x=((m:Int),(i:Int))∧m<256∧i≤a.length∧(m=0↔a.take i=b.take i)) ⟨0,0,rfl,by decide,by omega,by simp⟩ (λx k hx hk=>?_) _;obtain⟨i,m,hx,h1,h2,h3⟩:=hx;subst hx;refine .c (λhc=> .b λe he=> .b λf hf=>?_) λhc=> .s ?_
 ·simp only[B]at hc;rw[kA,if_pos (by omega),Int.toNat_natCast]at he hf;have hx:(e^^^f).toNat<256:=UInt8.toNat_lt _;dsimp only;rw[zuQ,MB (by omega) (by omega),(zmn h1 hx).1,DA (by omega) (by omega)];refine hk _ ⟨i+1,m|||(e^^^f).toNat,rfl,(zmn h1 hx).2,by omega,?_⟩;rw[Nat.or_eq_zero_iff,h3,List.take_add_one,List.take_add_one,he,hf]
  have hz:(e^^^f).toNat=0↔e=f:=by
   rw[←UInt8.toNat_zero,UInt8.toNat_inj];exact UInt8.xor_eq_zero_iff
  rw[hz];constructor
  ·rintro⟨p,rfl⟩;rw[p]
  ·intro p;have:=List.append_inj p (by rw[List.length_take,List.length_take,h]);exact⟨this.1,by simpa using this.2⟩
 ·simp only[B]at hc;have e:i=a.length:=by omega
  rw[e,List.take_length,h,List.take_length]at h3;rw[←h3];dsimp only;omega
def zsC{a0 a1 a2}(hE:∀e:Ax,∀r f,Ag (Ew e r f) (Cy e r f))(hN:∀n k,Ag (Df n k) (By n k)):Ag (Dh a0 a1 a2) (Ej a0 a1 a2):=by
 haveI:∀e r f,MA (Cy e r f) (Ew e r f):=λe r f=>⟨hE e r f⟩
 haveI:∀n k,MA (By n k) (Df n k):=λn k=>⟨hN n k⟩
 unfold Dh Ej
 (try simp only[oA,uC,VC,EB])
 refine .pl λ_=> .pr λ_=> .jBl (.jBr (.pl λ_=> .pr λ_=> .cc (λ_=> .r0) λh1=> .cc (λ_=> .r0) λh2=>?_));cases hs:jC a2.Kind<;>cases hf:wB a2<;>simp only[Bool.not_true,Bool.not_false,cond_true,cond_false]
 ·exact .r0
 ·exact .r0
 ·exact .pl λ_=> .r0
 have hc:nC a0=true:=by simpa using h1
 have cn:=XC hc;have fl:=(uD hf).2.1;have ha:=DA (a:=a0.Cur.N) (b:=1) (by omega) (by omega);have hb:=LA (a:=a0.Cur.N) (b:=1) (by omega) (by omega)
 have ho:a0.HasOld=true→a0.Old.N=a0.Cur.N - 1:=λh=>by
  simp only[nC,TG,h,cond_true,Bool.and_eq_true,beq_iff_eq]at hc;rw[hc.1.2.1.2,hb]
 rw[ha]
 have hd:∀r,Bo a2.Sn a0.Sn=some r→(r !=0)= !(a2.Sn==a0.Sn):=λr h=>by
  have:=zlV h (by omega)
  grind
 have f1:(a2.Epoch==a0.Cur.N)=true→(a2.Epoch==a0.Cur.N+1)=false:=λh=>by
  rw[beq_iff_eq]at h;exact beq_eq_false_iff_ne.2 (by omega)
 have f2:(a2.Epoch==a0.Cur.N)=true→a0.HasOld=true→(a2.Epoch==a0.Old.N)=false:=λh k=>by
  rw[beq_iff_eq]at h;have:=ho k;exact beq_eq_false_iff_ne.2 (by omega)
 have f3:(a2.Epoch==a0.Old.N)=true→a0.HasOld=true→(a2.Epoch==a0.Cur.N+1)=false:=λh k=>by
  rw[beq_iff_eq]at h;have:=ho k;exact beq_eq_false_iff_ne.2 (by omega)
 refine .pl λ_=>?_;generalize (a2.Epoch==a0.Cur.N)=p at *;generalize (a2.Epoch==a0.Old.N)=q at *;generalize (a2.Epoch==a0.Cur.N+1)=x at *;generalize decide ((a0.Next.length:Int)>0)=n at *
 cases h0:a0.HasOld<;>cases p<;>cases q<;>cases x<;>cases n<;>first
  | exact absurd (f1 rfl) (by decide)
  | exact absurd (f2 rfl h0) (by decide)
  | exact absurd (f3 rfl h0) (by decide)
  | (simp only [aA,cond_true,cond_false,Bool.not_true,Bool.not_false]
     refine .bl λr hr=> .pr λ_=>?_;rw[hd r hr];cases(a2.Sn==a0.Sn)<;>simp only[cond_true,cond_false,Bool.not_true,Bool.not_false]
     ·exact .r0
     ·first
      | exact .r0
      | exact .bd inferInstance λ_ _ _=> .cc (λ_=> .r0) λ_=> .r0
      | exact .bd inferInstance λ_ _ _=> .bd inferInstance λ_ _ _=> .cc (λ_=> .r0) λ_=> .r0
      | (repeat' ((with_reducible first | intro _ | exact .r0 | refine .bd inferInstance ?_ | apply jB))))
end Go.D
namespace Go.D
open Option renaming bind→ob
def zsy{a0}:Ag (Bg a0) (Bj a0):=by
 unfold Bg Bj;simp only[zg4];((try simp only[VC,zah,YB,ZS,zgI]);repeat' (first | (with_reducible first | intro _ | exact .r0 | apply nB | apply oC | apply UB | apply jB | refine .ct ‹_› ?_ | refine .cf ‹_› ?_) | (with_reducible first | apply qC | apply RG) | (refine .s ?_;grind [nA,NA,eA,TB,tC,List.length_eq_zero_iff,zlE]) | dsimp only[cond_true,cond_false]));(refine Ag.lI (λx=>∃i:Nat,x=(λi:Nat=>([UInt8.ofNat (IntKind.u8.wrap a0.Kind).toNat]++[UInt8.ofNat (IntKind.u8.wrap a0.Id).toNat]++a0.Cn++List.replicate i 0,(i:Int))) i∧i≤20) ⟨0,by first | rfl | simp,by decide⟩ (λx k hx hk=>?_) _;obtain⟨i,hx,h2⟩:=hx;have hi:(i:Int)<20→iA .i64 (i:Int) 1=((i+1:Nat):Int):=λh=>(by rw[DA (by omega) (by omega)];omega);subst hx;refine .cr (λhc=> .gr λ_=>hk _ ⟨i+1,?_,?_⟩) λhc=>?_;(· simp only[B]at hc;simp[hi hc,List.replicate_succ']);(· simp only[B]at hc;omega);have he:i=20:=(by simp only[B]at hc;omega);subst he;try dsimp only);(repeat' ((refine .s ?_;grind [nA,NA,eA,TB,tC,List.length_eq_zero_iff])))
instance{a0:Ab}:MA (Bj a0) (Bg a0):=⟨zsy⟩
def zjC{F:Ab}(h:wB F=true):(F.Kind=1∧F.Cn.length=12)∨(F.Kind=2∧F.Cn.length=12∧F.Sn.length=12∧F.Cookie.length=16)∨(F.Kind=3∧F.Cn.length=12∧F.Sn.length=12∧F.Cookie.length=16∧F.Proof.length=16)∨(jC F.Kind=true∧F.Sn.length=12∧F.Tag.length=16∧F.Body.length≤40):=by
 have hb:=(uD h).2.2.2.2.1;unfold wB at h;cases hs:jC F.Kind
 ·simp only[hs,cond_false,Bool.and_eq_true,beq_iff_eq]at h;obtain⟨⟨_,h1⟩,h⟩:=h
  by_cases k1:F.Kind=1
  ·exact .inl ⟨k1,by omega⟩
  ·by_cases k2:F.Kind=2
   ·simp only[k2,show((2:Int)==1)=false from rfl,beq_self_eq_true,cond_true,cond_false,Bool.and_eq_true,beq_iff_eq]at h;exact .inr (.inl ⟨k2,by omega⟩)
   ·simp only[beq_eq_false_iff_ne.2 k1,beq_eq_false_iff_ne.2 k2,cond_false,Bool.and_eq_true,beq_iff_eq]at h;exact .inr (.inr (.inl ⟨h.1.1.1.1.1,by omega⟩))
 ·simp only[hs,cond_true,Bool.and_eq_true,beq_iff_eq]at h;exact .inr (.inr (.inr ⟨rfl,by omega,by omega,hb⟩))
def zwr{F:Ab}{r:List UInt8}(h:Bg F=some r):(wB F=false→r=[])∧(wB F=true→(F.Kind=1∧r.length=34)∨(F.Kind=2∧r.length=45)∨(F.Kind=3∧r.length=62)∨(jC F.Kind=true∧r.length=39+F.Body.length∧F.Body.length≤40)):=by
 revert h;refine(?_:Pc _ (λr:List UInt8=>(wB F=false→r=[])∧(wB F=true→(F.Kind=1∧r.length=34)∨(F.Kind=2∧r.length=45)∨(F.Kind=3∧r.length=62)∨(jC F.Kind=true∧r.length=39+F.Body.length∧F.Body.length≤40)))) r
 have hk:=@zjC F;unfold Bg;simp only[zg4];have l4:∀n,(FD [] n 4).length=4:=λn=>(PG [] n 4).2;have l6:∀n,(FD [] n 6).length=6:=λn=>(PG [] n 6).2
 ((try simp only[VC,zah,YB,ZS,zgI]);repeat' (first | (with_reducible first | intro _ | apply hG | apply ZF) | (refine .s ?_;grind [nA,NA,eA,jC,List.length_append,List.length_replicate,List.length_cons,List.length_nil])))
def zvu{b:List UInt8}{n:Int}{v:List UInt8×List UInt8}(hn:0≤n)(h:Bl b n=some v):v=(b.take n.toNat,b.drop n.toNat):=by
 revert h;refine(?_:Pc _ (λv:List UInt8×List UInt8=>v=(b.take n.toNat,b.drop n.toNat))) v
 unfold Bl;refine .g λ_=>?_;dsimp only;refine .p λ_=> .g λ_=> .s ?_;unfold pD;split
 ·rw[Int.sub_zero,Int.toNat_natCast,List.drop_zero,List.take_length,List.drop_length,List.take_of_length_le (l:=b) (i:=n.toNat) (by omega),List.drop_eq_nil_of_le (as:=b) (i:=n.toNat) (by omega)];simp
 ·rw[Int.sub_zero,List.drop_zero,List.take_of_length_le (l:=b.drop n.toNat) (by rw[List.length_drop];omega)]
def wI{α:Type}{b:List UInt8}{n:Int}{f:List UInt8×List UInt8→Option α}{z:Option α}(hn:0≤n)(k:Ag (f (b.take n.toNat,b.drop n.toNat)) z):Ag (ob (Bl b n) f) z:= .bl λv hv=>by
 rw[zvu hn hv];exact k
def QO{α:Type}{b:List UInt8}{n:Int}{f:Int×List UInt8→Option α}{z:Option α}(hn:0≤n)(k:Ag (f ((sH (b.take n.toNat) 0 n).1,b.drop n.toNat)) z):Ag (ob (Ck b n) f) z:=by
 unfold Ck;rw[ba];refine wI hn ?_;rw[ba];exact .pl λ_=>k
def zd1{a0:List UInt8}{F:Ab}{z:Option (Ab×Bool)}(hf:wB F=false)(h:Ag (some ((⟨0,0,[],[],0,[],[],0,0,[],[]⟩:Ab),false)) z):Ag (ob (VC F) λr29=>cond (!r29) (some ((⟨0,0,[],[],0,[],[],0,0,[],[]⟩:Ab),false)) (ob (Bg F) λr30=>ob (EB r30 a0) λr31=>cond (!r31) (some ((⟨0,0,[],[],0,[],[],0,0,[],[]⟩:Ab),false)) (some (F,true)))) z:=
 .pl λ_=>by rw[hf];exact h
def zhk{a0:List UInt8}{K:Ab}(h:a0≠[])(hf:wB K=false):Ag (some ((⟨0,0,[],[],0,[],[],0,0,[],[]⟩:Ab),false)) (ob (Bj K) λr28=>cond (Nat.ble r28.length bA) (cond (Nat.ble a0.length bA) (cond (!(r28==a0)) (some ((⟨0,0,[],[],0,[],[],0,0,[],[]⟩:Ab),false)) (some (K,true))) none) none):=by
 have:Bj K=some []:=by unfold Bj;rw[hf];rfl
 rw[this]
 ((try simp only[bs]);repeat' (first | (with_reducible first | intro _ | exact .r0 | apply UB) | (with_reducible refine Ag.cr (λ_=>?_) (λ_=>?_)<;>try (exfalso;grind (splits:=3) [nA,NA,eA];done))))
def zdD{a0:List UInt8}{F:Ab}(h:∀r,Bg F=some r→wB F=true→r≠a0):Ag (ob (VC F) λr29=>cond (!r29) (some ((⟨0,0,[],[],0,[],[],0,0,[],[]⟩:Ab),false)) (ob (Bg F) λr30=>ob (EB r30 a0) λr31=>cond (!r31) (some ((⟨0,0,[],[],0,[],[],0,0,[],[]⟩:Ab),false)) (some (F,true)))) (some ((⟨0,0,[],[],0,[],[],0,0,[],[]⟩:Ab),false)):=by
 ((try simp only[VC,EB]);repeat' (first | (with_reducible first | intro _ | exact .r0 | apply nB) | (with_reducible first | apply tD | apply qC) | (refine .s ?_;grind [nA,NA,eA,TB,tC,List.length_eq_zero_iff])))
def zc7{a0:List UInt8}{F K:Ab}(h:a0≠[])(e:F=K):Ag (ob (VC F) λr29=>cond (!r29) (some ((⟨0,0,[],[],0,[],[],0,0,[],[]⟩:Ab),false)) (ob (Bg F) λr30=>ob (EB r30 a0) λr31=>cond (!r31) (some ((⟨0,0,[],[],0,[],[],0,0,[],[]⟩:Ab),false)) (some (F,true))))
  (ob (Bj K) λr28=>cond (Nat.ble r28.length bA) (cond (Nat.ble a0.length bA) (cond (!(r28==a0)) (some ((⟨0,0,[],[],0,[],[],0,0,[],[]⟩:Ab),false)) (some (K,true))) none) none):=by
 subst e;cases hf:wB F
 ·exact zd1 hf (zhk h hf)
 ·((try simp only[VC,EB]);repeat' (first | (with_reducible first | intro _ | exact .r0 | apply nB | refine .bd inferInstance ?_ | apply UB) | (with_reducible refine Ag.cr (λ_=>?_) (λ_=>?_)<;>try (exfalso;grind (splits:=3) [nA,NA,eA];done)) | (with_reducible first | apply qC | apply FE)))
def zmH{e:UInt8}{t:List UInt8}:(sH ((e :: t).take 1) 0 1).1=(e.toNat:Int):=by
 show iA .i64 (OB .i64 0 256) (IntKind.wrap .i64 ((e.toNat:Nat):Int))=_
 have h:=UInt8.toNat_lt e;rw[MB (by omega) (by omega),show OB .i64 0 256=0 from rfl,DA (by omega) (by omega)];omega
def zdb{a:List UInt8}{p:Nat}{k:Int}(hk:1≤k∧k≤6)(h:(p:Int)+k≤a.length):(sH ((a.drop p).take k.toNat) 0 k).1=(sH a (p:Int) k).1:=by
 unfold sH;rw[decide_eq_false (by omega),decide_eq_false (by omega),decide_eq_false (by omega),decide_eq_false (by rw[List.length_take,List.length_drop];omega),decide_eq_false (by omega),decide_eq_false (by omega)];show MG ((((a.drop p).take k.toNat).drop (0:Int).toNat).take k.toNat)=MG ((a.drop (p:Int).toNat).take k.toNat)
 rw[show((0:Int).toNat)=0 from rfl,List.drop_zero,List.take_take,Nat.min_self,Int.toNat_natCast]
def zmR{a:List UInt8}{p:Nat}{e:UInt8}(h:kA a (p:Int)=some e):(sH ((a.drop p).take 1) 0 1).1=IntKind.wrap .i64 (e.toNat:Int):=by
 rw[kA,if_pos (by omega),Int.toNat_natCast]at h;obtain⟨h1,rfl⟩:=List.getElem?_eq_some_iff.1 h;have hn:=UInt8.toNat_lt a[p];rw[List.drop_eq_getElem_cons h1,zmH,MB (by omega) (by omega)]
def zr6{a0}:Ag (Dc a0) (Ef a0):=by
 unfold Dc Ef;refine QO (by decide) ?_;cases a0 with
 | nil=>
  rw[show(sH (List.take (1:Int).toNat []) 0 1).1=0 from rfl];exact zd1 rfl .r0
 | cons e t=>
  rw[show(1:Int).toNat=1 from rfl,zmH];refine .cr (λh=>?_) λ_=> .br λe1 he=>?_
  ·simp only[B,List.length_cons]at h;omega
  cases he.symm.trans (show kA (e :: t) 0=some e from rfl);have hn:=UInt8.toNat_lt e;dsimp only;rw[MB (by omega) (by omega)];generalize ha:e :: t=a;have h0:a≠[]:=by rw[←ha];exact List.cons_ne_nil _ _
  generalize hk:(e.toNat:Int)=k
  have no:∀F:Ab,F.Kind=k→(k=1→a.length≠34)→(k=2→a.length≠45)→(k=3→a.length≠62)→(jC k=true→a.length<39)→∀r,Bg F=some r→wB F=true→r≠a:=λF q p1 p2 p3 p4 r hr hf e=>by
   subst e
   rcases(zwr hr).2 hf with h | h | h | h
   ·exact p1 (q▸h.1) h.2
   ·exact p2 (q▸h.1) h.2
   ·exact p3 (q▸h.1) h.2
   ·have:=p4 (q▸h.1);omega
  by_cases k1:k=1
  ·subst k1;simp only[aA,cond_true,beq_self_eq_true];refine QO (by decide) (wI (by decide) (.cr (λhl=>zdD (no _ rfl (λ_=>?_) ?_ ?_ ?_)) λhl=> .br λe5 BX=> .gr λ_=> .gr λ_=>zc7 h0 ?_))
   ·simp only[B]at hl;omega
   ·omega
   ·omega
   ·intro h;cases h
   ·simp only[List.nil_append];have:=zmR (p:=1) BX;rw[show(1:Int).toNat=1 from rfl,this,show(12:Int).toNat=12 from rfl,List.drop_drop]
  by_cases k2:k=2
  ·subst k2;simp only[aA,cond_true,cond_false,beq_self_eq_true,show((2:Int)==1)=false from rfl,show((2:Int)==3)=false from rfl];refine wI (by decide) (wI (by decide) (QO (by decide) (wI (by decide) (.cr (λhl=>zdD (no _ rfl ?_ (λ_=>?_) ?_ ?_)) λhl=> .gr λ_=> .gr λ_=> .gr λ_=> .gr λ_=> .pr λ_=> .gr λ_=> .gr λ_=>zc7 h0 ?_))))
   ·omega
   ·simp only[B]at hl;omega
   ·omega
   ·intro h;cases h
   ·simp only[B]at hl;have:=zdb (a:=a) (p:=25) (k:=4) (by decide) (by omega);simp only[List.nil_append,List.drop_drop,show(1:Int).toNat=1 from rfl,show(12:Int).toNat=12 from rfl,show(4:Int).toNat=4 from rfl,show(16:Int).toNat=16 from rfl]at this⊢;rw[this,show((a.length:Int) - 29).toNat=16 by omega];rfl
  by_cases k3:k=3
  ·subst k3;simp only[aA,cond_true,cond_false,beq_self_eq_true,show((3:Int)==1)=false from rfl,show((3:Int)==2)=false from rfl];refine QO (by decide) (wI (by decide) (wI (by decide) (QO (by decide) (wI (by decide) (wI (by decide) (.cr (λhl=>zdD (no _ rfl ?_ ?_ (λ_=>?_) ?_)) λhl=> .br λe5 BX=> .gr λ_=> .gr λ_=> .gr λ_=> .gr λ_=> .pr λ_=> .gr λ_=> .gr λ_=> .gr λ_=> .gr λ_=>zc7 h0 ?_))))))
   ·omega
   ·omega
   ·simp only[B]at hl;omega
   ·intro h;cases h
   ·simp only[B]at hl;have h1:=zmR (p:=1) BX;have:=zdb (a:=a) (p:=26) (k:=4) (by decide) (by omega);simp only[List.nil_append,List.drop_drop,show(1:Int).toNat=1 from rfl,show(12:Int).toNat=12 from rfl,show(4:Int).toNat=4 from rfl,show(16:Int).toNat=16 from rfl]at this h1⊢;rw[this,h1,show((a.length:Int) - 46).toNat=16 by omega];rfl
  simp only[aA,cond_false,beq_eq_false_iff_ne.2 k1,beq_eq_false_iff_ne.2 k2,beq_eq_false_iff_ne.2 k3]
  have bad:∀F:Ab,F.Kind=k→jC k=false→wB F=false:=λF q hs=>by
   cases hf:wB F
   ·rfl
   ·rcases zjC hf with h | h | h | h
    ·exact absurd (q▸h.1) k1
    ·exact absurd (q▸h.1) k2
    ·exact absurd (q▸h.1) k3
    ·rw[q,hs]at h;cases h.1
  cases hs:jC k
  ·simp only[cond_false];exact zd1 (bad _ rfl hs) (.cr (λ_=> .r0) λ_=> .gr λ_=> .gr λ_=> .pr λ_=> .pr λ_=> .gr λ_=> .gr λ_=> .gr λ_=> .gr λ_=>zhk h0 (bad _ rfl hs))
  ·simp only[cond_true];refine wI (by decide) (QO (by decide) (QO (by decide) (wI (by decide) (wI (by decide) (.cr (λhl=>zdD (no _ rfl ?_ ?_ ?_ (λ_=>?_))) λhl=> .gr λ_=> .gr λ_=> .pr λ_=> .pr λ_=> .gr λ_=> .gr λ_=> .gr λ_=> .gr λ_=>?_)))))
   ·omega
   ·omega
   ·omega
   ·simp only[B]at hl;omega
   ·simp only[B]at hl
    by_cases hb:a.length≤79
    ·refine zc7 h0 ?_;have g1:=zdb (a:=a) (p:=13) (k:=4) (by decide) (by omega);have g2:=zdb (a:=a) (p:=17) (k:=6) (by decide) (by omega);simp only[List.nil_append,List.drop_drop,show(1:Int).toNat=1 from rfl,show(12:Int).toNat=12 from rfl,show(4:Int).toNat=4 from rfl,show(6:Int).toNat=6 from rfl,show(16:Int).toNat=16 from rfl,show(41:Int).toNat=41 from rfl]at g1 g2⊢;rw[g1,g2,List.take_of_length_le (l:=a.drop _) (i:=41) (by rw[List.length_drop];omega),List.take_of_length_le (l:=a.drop 39) (i:=((a.length:Int) - 39).toNat) (by rw[List.length_drop];omega)];rfl
    ·have DT:∀F:Ab,F.Kind=k→41≤F.Body.length→wB F=false:=λF q hb=>by
      cases hf:wB F
      ·rfl
      ·have:=(uD hf).2.2.2.2.1;omega
     refine zd1 (DT _ rfl ?_) (zhk h0 (DT _ rfl ?_))
     ·simp only[List.drop_drop,List.length_take,List.length_drop,show(1:Int).toNat=1 from rfl,show(12:Int).toNat=12 from rfl,show(4:Int).toNat=4 from rfl,show(6:Int).toNat=6 from rfl,show(16:Int).toNat=16 from rfl,show(41:Int).toNat=41 from rfl];omega
     ·simp only[List.nil_append,List.length_take,List.length_drop];omega
end Go.D
namespace Go.D
def zrC{p r:List UInt8}(h:Bh p=some r)(k:GC p=true):r.length=32:=by
 revert h;refine(?_:Pc _ (λr:List UInt8=>r.length=32)) r
 unfold Bh Bx;rw[k];refine .c nofun λ_=>?_;dsimp only;refine .b λv hv=>?_;cases hv;refine .p λ_=> .s (AM ?_ (by decide));have:=iL [UInt8.ofNat (114:Int).toNat,UInt8.ofNat (111:Int).toNat,UInt8.ofNat (97:Int).toNat,UInt8.ofNat (109:Int).toNat] p;omega
def zrY{i t:Int}{c s k r:List UInt8}(h:De i c s t k=some r)(h1:eA i 1 9=true)(h2:c.length=12)(h3:s.length=12)(h4:eA t 0 1000000=true)(h5:k.length=16):r.length=46:=by
 revert h;refine(?_:Pc _ (λr:List UInt8=>r.length=46)) r
 unfold De;have l4:∀n,(FD [] n 4).length=4:=λn=>(PG [] n 4).2
 ((try simp only[YB,ZS]);repeat' (first | (with_reducible first | intro _ | apply hG | apply nH | apply ZF) | (refine .s ?_;first | trivial | grind [nA,NA,eA,List.length_append,List.length_cons,List.length_nil])))
theorem zwK{a b r:List UInt8}(h:Bz a b=some r)(h1:a.length=32)(h2:b.length≤100):r.length=16:=by
 revert h;refine(?_:Pc _ (λr:List UInt8=>r.length=16)) r
 have:=KH (k:=a) (b:=b) (by omega) (by omega);unfold Bz;dsimp only
 ((try simp only[BA]);repeat' (first | (with_reducible first | intro _ | apply hG | apply zaG | apply ZF) | (refine .s ?_;grind [nA,NA,eA,List.length_take,List.length_drop])))
theorem zjX{p:List UInt8}{i:Int}{f:Ab}{r:Ab×Bool}(h:Ey p i f=some r)(hp:GC p=true)(hi:eA i 1 9=true)(hf:wB f=true)(hk:f.Kind=2):r.2=true:=by
 revert h;refine(?_:Pc _ (λr:Ab×Bool=>r.2=true)) r
 have Q5:=zar hf hk;have ht:eA f.Tick 0 1000000=true:=fC.2 ⟨Q5.2.2.1,Q5.2.2.2.1⟩
 have hpr:∀q,Ds p i f.Cn f.Sn f.Tick f.Cookie=some q→q.length=16:=λq h=>by
  revert h;refine(?_:Pc _ (λq:List UInt8=>q.length=16)) q
  unfold Ds;refine .b λv hv=> .b λw hw=>?_;have h1:=zrC hv hp;have h2:=zrY hw hi Q5.1 Q5.2.1 ht Q5.2.2.2.2.1
  (repeat' (first | (with_reducible first | intro _ | apply hG | apply nH | apply ZF | apply zI) | (refine .s ?_;first | trivial | grind [nA,NA,eA, →zwK])))
 unfold Ey
 ((try simp only[BA,VC]);repeat' (first | (with_reducible first | intro _ | apply hG | apply nH | apply ZF | apply zI) | (refine .s ?_;first | trivial | grind [nA,NA,eA])))
set_option maxHeartbeats 1000000 in
theorem zjT{a0:Ak}{a1:Int}{a2:Ab}{r:Ak×List UInt8×Int}(h:Dh a0 a1 a2=some r):r.2.2=0→a2.Sn=a0.Sn∧r.1.Sn=a2.Sn:=by
 revert h;refine(?_:Pc _ (λr:Ak×List UInt8×Int=>r.2.2=0→a2.Sn=a0.Sn∧r.1.Sn=a2.Sn)) r
 have fl:=λh=>(@uD a2 h).2.1;unfold Dh
 ((try simp only[oA,uC,VC]);repeat' (first | (with_reducible first | intro _ | apply hG | apply nH | apply ZF | apply zI) | (refine .s ?_;first | trivial | grind [nA,NA,eA, →zlV])))
end Go.D
namespace Go.D
open Option renaming bind→ob
def zxB{c:Ae}(h:tB c=true):GC c.Psk=true∧eA c.Id 1 9=true∧(c.St=0∨c.St=1∨c.St=2∨c.St=3):=by
 unfold tB at h;simp only[Bool.and_eq_true]at h;refine⟨h.1.1.2,h.1.1.1,?_⟩;have h:=h.2
 by_cases h0:c.St=0
 ·exact .inl h0
 by_cases h1:c.St=1
 ·exact .inr (.inl h1)
 by_cases h2:c.St=2
 ·exact .inr (.inr (.inl h2))
 ·simp only[beq_eq_false_iff_ne.2 h0,beq_eq_false_iff_ne.2 h1,beq_eq_false_iff_ne.2 h2,cond_false,Bool.and_eq_true,beq_iff_eq]at h;omega
def Ag.lB{α β σ:Type}{f:σ→(σ→Option α)→Option α}{f':σ→(σ→Option β)→Option β}{g:β→Option α}(e:∀x k k',(∀y,Ag (k y) (ob (k' y) g))→Ag (f x k) (ob (f' x k') g)):∀(n:Nat) (x:σ),Ag (tA n f x) (ob (tA n f' x) g):=by
 intro n;induction n with
 | zero=>exact λ_=>Ag.nl
 | succ n ih=>exact λx=>e _ _ _ λ_=>ih _
def zvE{o:List Av}{n:List Ad}{s:Ac}{z:Option (Ac×List Av×List Ad)}{f:List Av×Int×Ac→(List Av×Int×Ac→Option (Ac×List Av×List Ad))→Option (Ac×List Av×List Ad)}(ho:o=[])(h:Ag (some (s,[],n)) z):Ag (tA FU (λx k=>cond (decide (x.2.1<(o.length:Int))) (f x k) (some (x.2.2,x.1,n))) ([],0,s)) z:=by
 subst ho;refine Ag.lJ (λx=>x=([],0,s)) rfl (λx k hx _=>?_) _;subst hx;exact h
def zxd{o:List Av}{n:List Ad}{s:Ac}(hA:∀t a,Ag (Dd t a) (Dn t a))(hZ:∀f,Ag (Dv f) (Em f))(hP:∀c a n,Ag (Dw c a n) (Dp c a n)):Ag (aA (λ(y18:(List Av)×Ac)=>
 some (y18.2,y18.1,n)) λk19=>
 tA FU (λ(x20:(List Av)×Int×Ac) k21=>
 cond (decide (x20.2.1<(o.length:Int)))
 (aA (λ(y22:(List Av)×Ac)=>
 k21 (y22.1,(iA .i64 x20.2.1 1),y22.2)) λk23=>
 cond (decide (0≤x20.2.1)&&decide (x20.2.1<(o.length:Int))) (ob (o[x20.2.1.toNat]?) λe24=>
 ob (Dd x20.2.2.T e24.To) λr25=>
 aA (λ(y26:Ac)=>
 cond (decide (x20.1.length+[e24].length≤bA)) (k23 ((x20.1++[e24]),y26)) none) λk27=>
 cond (!r25)
 (ob (Dv e24.F) λr28=>
 ob (Dw x20.2.2.Cr e24.To r28) λr29=>
 cond (!r29.2)
 (k23 (x20.1,x20.2.2))
 (k27 (⟨x20.2.2.Psks,x20.2.2.J,x20.2.2.D,x20.2.2.T,r29.1⟩:Ac)))
 (k27 x20.2.2)) none)
 (k19 (x20.1,x20.2.2))) ([],0,s)) (ob (Hm s o) λr65=>some (r65.2,r65.1,n)):=by
 haveI:∀t a,MA (Dn t a) (Dd t a):=λt a=>⟨hA t a⟩
 haveI:∀f,MA (Em f) (Dv f):=λf=>⟨hZ f⟩
 haveI:∀c a n,MA (Dp c a n) (Dw c a n):=λc a n=>⟨hP c a n⟩
 unfold Hm;refine .jl (.jbr (Ag.lB (λx k k' hk=>?_) _ _));simp only[ba,bc,bs,bn]
 (repeat' (first | (with_reducible first | intro _ | exact .r0 | refine .bd inferInstance ?_ | apply DD | apply UB | apply jB | (apply_assumption;done) | refine .ct ‹_› ?_ | refine .cf ‹_› ?_) | (with_reducible first | apply zhn | (apply zxa;simp only[ba,bc,bs,bn]) | apply tD | apply qC | refine .bT inferInstance ‹_› ?_ | refine .bR ‹_› ?_)))
end Go.D
namespace Go.D
def zfS{t:Ao}{s:Ah}{r:Ao×Int}(h:Bi t s=some r):r.2=0→r.1=⟨t.Cap,t.L++[s]⟩∧OE t s.Sn<0∧TC t=true∧vC s=true:=by
 revert h;refine(?_:Pc _ (λr:Ao×Int=>r.2=0→r.1=⟨t.Cap,t.L++[s]⟩∧OE t s.Sn<0∧TC t=true∧vC s=true)) r
 unfold Bi;((try simp only[oA,KD,qJ,sG,LD]);repeat' (first | (with_reducible first | intro _ | apply hG | apply nH | apply zaG | apply ZF) | (refine .s ?_;first | trivial | grind [nA,NA,eA])))
def ztF{t:Ao}{s:Ah}(h:OE t s.Sn<0):OE ⟨t.Cap,t.L++[s]⟩ s.Sn=(t.L.length:Int):=by
 unfold OE at h⊢
 rcases MJ t.L.length (vG t s.Sn)with⟨h1,_⟩ | ⟨m,_,_,_,h4⟩
 ·rcases MJ (t.L++[s]).length (vG ⟨t.Cap,t.L++[s]⟩ s.Sn)with⟨h3,h4⟩ | ⟨m,h5,h6,_,h4⟩
  ·have:=yS (i:=t.L.length) (by rw[h3];rfl) (by simp);simp[vG]at this
  ·rw[h4];have:=dH.1 h1 m;rw[List.length_append]at h5;simp only[List.length_cons,List.length_nil]at h5
   by_cases hm:m<t.L.length
   ·have:=this hm;unfold vG at this h6;rw[List.getElem?_append_left hm]at h6;rw[h6]at this;cases this
   ·omega
 ·omega
def zta{t:Ao}{s:Ah}{r:Ao×Int}(h:Bi t s=some r)(h0:r.2=0):OE r.1 s.Sn=sA .i64 (r.1.L.length:Int) 1:=by
 obtain⟨e,h1,h2,_⟩:=zfS h h0;have:=(bF.1 h2).len;rw[e,ztF h1,List.length_append,LA (by simp only[List.length_cons,List.length_nil];omega) (by simp only[List.length_cons,List.length_nil];omega)];simp only[List.length_cons,List.length_nil];omega
def zth{p:List UInt8}{n:Int}{a:Ai}{f:Ab}{s:Ah}(h:Eu p n a f=some s)(hs:vC s=true):s.Sn=f.Sn:=by
 revert hs
 revert h;refine(?_:Pc _ (λs:Ah=>vC s=true→s.Sn=f.Sn)) s
 have:vC (⟨0,[],[],(⟨0,[],(⟨0,[],0,(⟨0,[]⟩:Aq)⟩:Ax),(⟨0,[],0,(⟨0,[]⟩:Aq)⟩:Ax),false,0,[]⟩:Ak),(⟨(⟨0,0⟩:Ai),[]⟩:Aj),0,0,false⟩:Ah)=false:=by
  unfold vC;rfl
 unfold Eu;((try simp only[BA,VC]);repeat' (first | (with_reducible first | intro _ | apply hG | apply nH | apply ZF | apply zI) | (refine .s ?_;first | trivial | grind [nA,NA,eA])))
def zs5{a0:Ah}{r:Ah×List Av×List Ad}(h:Ev a0=some r)(hs:vC a0=true):XE a0 r.1:=by
 obtain⟨q,hq,h1,_⟩:=ziR hs;cases hq.symm.trans h;exact h1
def zl4{t:Ao}{i:Int}{e:Ah}(ht:TC t=true)(he:kA t.L i=some e):vC e=true:=by
 unfold kA at he;split at he
 ·exact(bF.1 ht).el _ (List.mem_of_getElem? he)
 ·cases he
theorem dT{t:Ao}{i:Int}{e:Ah}{r:Ah×List Av×List Ad}{p:Ao×Bool}(h1:Ev e=some r)(h2:Bs t i r.1=some p)(he:kA t.L i=some e)(ht:TC t=true):p=(⟨t.Cap,t.L.set i.toNat r.1⟩,true):=
 zcn h2 ht he (zs5 h1 (zl4 ht he))
def ztc{t:Ao}{s:Ah}{r:Ao×Int}(h:Bi t s=some r)(h0:r.2=0):TC r.1=true:=by
 obtain⟨_,_,h2,h3⟩:=zfS h h0;obtain⟨q,hq,h1,_⟩:=ziU (a1:=s) h2 (by have:=mF h3;omega);cases hq.symm.trans h;exact h1
def Pc.jj{α σ:Type}{Q:α→Prop}{h:σ→Option α}{f:(σ→Option α)→Option α}(a:∀y,Pc (h y) Q)(e:∀k,(∀y,Pc (k y) Q)→Pc (f k) Q):Pc (aA h f) Q:=e _ a
def zsG{b:List UInt8}{r:Ab×Bool}(h:Dc b=some r):r.2=true→wB r.1=true:=by
 revert h;refine(?_:Pc _ (λr:Ab×Bool=>r.2=true→wB r.1=true)) r
 unfold Dc;refine .b λ_ _=>Pc.jj (λy=>?_) λk hk=>?_
 ·((try simp only[VC,EB]);repeat' (first | (with_reducible first | intro _ | apply hG | apply nH | apply ZF | apply zI) | (refine .s ?_;first | trivial | grind [nA,NA,eA])))
 ·repeat' first
   | exact hk _
   | apply_assumption
   | refine Pc.b λ_ _=>?_
   | refine Pc.c (λ_=>?_) λ_=>?_
   | refine Pc.jj (λ_=>?_) λ_ _=>?_
theorem XS{t:Ao}{i n:Int}{e:Ah}{a:Ai}{f:Ab}{b:List UInt8}{r:Ah×List Av×List Ad×Bool}{p:Ao×Bool}(h1:Gm e n a f b=some r)(h2:Bs t i r.1=some p)(he:kA t.L i=some e)(ht:TC t=true)(hf:wB f=true)(hb:b.length≤100):p=(⟨t.Cap,t.L.set i.toNat r.1⟩,true):=
 zcn h2 ht he (by
  obtain⟨q,hq,h,_⟩:=zir (a1:=n) (a2:=a) (zl4 ht he) hf hb;cases hq.symm.trans h1;exact h)
end Go.D

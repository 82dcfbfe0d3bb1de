/-
 Two partial results agree: where both have one, it is the same.
-/
import Derived.Test.YtfealdecpglcnaaGreatE1
import Derived.Test.YtfealdecpglcnaaGreatN8
import Derived.Test.YtfealdecpglcnaaGreatN12
import Derived.Test.YtfealdecpglcnaaGreatP2
import Derived.Test.YtfealdecpglcnaaGreatN11
set_option linter.all false
namespace Go.D
open Option renaming bind→ob
def Ag{α:Type}(x y:Option α):Prop:=∀v w,x=some v→y=some w→v=w
class NM{α:Type}(x y:Option α):Prop where h:Ag x y
class KA{α:Type}(y:Option α)(x:outParam (Option α)):Prop where h:Ag x y
instance{α:Type}{x y:Option α}[KA y x]:NM x y:=⟨KA.h⟩
namespace Ag
variable {α β σ τ:Type} {x y:Option α} {c d:Bool}
def r0:Ag x x:=λ_ _ h k=>Option.some.inj (h.symm.trans k)
def nl:Ag none y:=λ_ _ h=>nomatch h
def nr:Ag x none:=λ_ _ _ h=>nomatch h
def s{a b:α}(h:a=b):Ag (some a) (some b):=λ_ _ k l=>(Option.some.inj k).symm.trans (h.trans (Option.some.inj l))
def sy(h:Ag x y):Ag y x:=λv w k l=>(h w v l k).symm
def b{f g:α→Option β}(h:Ag x y)(k:∀v,x=some v→y=some v→Ag (f v) (g v)):Ag (x.bind f) (y.bind g):=by
 cases x with
 | none=>exact nl
 | some v=>cases y with
  | none=>exact nr
  | some w=>cases h v w rfl rfl;exact k v rfl rfl
def bc[NM x y]{f g:α→Option β}(k:∀v,x=some v→y=some v→Ag (f v) (g v)):Ag (x.bind f) (y.bind g):=b NM.h k
def bl{f:α→Option β}{z:Option β}(k:∀v,x=some v→Ag (f v) z):Ag (x.bind f) z:=by
 cases x with
 | none=>exact nl
 | some v=>exact k v rfl
def br{f:α→Option β}{z:Option β}(k:∀v,x=some v→Ag z (f v)):Ag z (x.bind f):=sy (bl λv h=>sy (k v h))
def bd{f g:α→Option β}(i:NM x y)(k:∀v,x=some v→y=some v→Ag (f v) (g v)):Ag (x.bind f) (y.bind g):=b i.h k
def bT{f:α→Option β}{z:Option β}{v:α}(i:KA y x)(h:x=some v)(k:y=some v→Ag z (f v)):Ag z (y.bind f):=br λw hw=>by
 cases i.h v w h hw;exact k hw
def bR{f:α→Option β}{z:Option β}{v:α}(h:x=some v)(k:Ag z (f v)):Ag z (x.bind f):=by subst h;exact k
def cc{p q:Option α}(h:c=true→Ag x p)(k:c=false→Ag y q):Ag (cond c x y) (cond c p q):=by
 cases c
 ·exact k rfl
 ·exact h rfl
def ce{p q:Option α}(e:c=d)(h:c=true→Ag x p)(k:c=false→Ag y q):Ag (cond c x y) (cond d p q):=by subst e;exact cc h k
def cl{z:Option α}(h:c=true→Ag x z)(k:c=false→Ag y z):Ag (cond c x y) z:=by
 cases c
 ·exact k rfl
 ·exact h rfl
def cr{z:Option α}(h:c=true→Ag z x)(k:c=false→Ag z y):Ag z (cond c x y):=by
 cases c
 ·exact k rfl
 ·exact h rfl
def ct{z:Option α}(e:c=true)(h:Ag z x):Ag z (cond c x y):=by subst e;exact h
def cf{z:Option α}(e:c=false)(h:Ag z y):Ag z (cond c x y):=by subst e;exact h
def gl{z:Option α}(h:c=true→Ag x z):Ag (cond c x none) z:=cl h λ_=>nl
def gr{z:Option α}(h:c=true→Ag z x):Ag z (cond c x none):=cr h λ_=>nr
def jj{h h':σ→Option α}{f f':(σ→Option α)→Option α}(a:∀y,Ag (h y) (h' y))(e:∀k k',(∀y,Ag (k y) (k' y))→Ag (f k) (f' k')):Ag (aA h f) (aA h' f'):=e _ _ a
def hj{ρ:Type}(P:(σ→Option ρ)→(τ→Option ρ)→Prop){c:Bool}{t:σ→Option ρ}{t':τ→Option ρ}{b:(σ→Option ρ)→Option ρ}{b':(τ→Option ρ)→Option ρ}{e:Option ρ}(h0:P t t')(h:∀k k',P k k'→Ag (b k) (cond c e (b' k'))):Ag (aA t b) (cond c e (aA t' b')):=h _ _ h0
def jl{z:Option α}{h:σ→Option α}{f:(σ→Option α)→Option α}(a:Ag (f h) z):Ag (aA h f) z:=a
def jr{z:Option α}{h:σ→Option α}{f:(σ→Option α)→Option α}(a:Ag z (f h)):Ag z (aA h f):=a
def ll{f f':σ→(σ→Option α)→Option α}{x0:σ}(e:∀x k k',(∀y,Ag (k y) (k' y))→Ag (f x k) (f' x k')):∀n,Ag (qA n f x0) (qA n f' x0):=by
 intro n;induction n generalizing x0 with
 | zero=>exact nl
 | succ n ih=>exact e _ _ _ λ_=>ih
def lI(I:σ→Prop){f:σ→(σ→Option α)→Option α}{z:Option α}{x0:σ}(h0:I x0)(e:∀x k,I x→(∀y,I y→Ag z (k y))→Ag z (f x k)):∀n,Ag z (qA n f x0):=by
 intro n;induction n generalizing x0 with
 | zero=>exact nr
 | succ n ih=>exact e _ _ h0 λ_ h=>ih h
def lJ(I:σ→Prop){f:σ→(σ→Option α)→Option α}{z:Option α}{x0:σ}(h0:I x0)(e:∀x k,I x→(∀y,I y→Ag (k y) z)→Ag (f x k) z)(n:Nat):Ag (qA n f x0) z:=
 sy (lI I h0 (λx k h l=>sy (e x k h λy hy=>sy (l y hy))) n)
end Ag
instance(priority:=low){α:Type}{x:Option α}:NM x x:=⟨.r0⟩
def zfN{a b:List UInt8}:jD [a,b]=pt (wt [a,b]≤bA) (a++b):=by unfold jD;simp
def jV{a b c d:List UInt8}:jD [a,b,c,d]=pt (wt [a,b,c,d]≤bA) (a++b++c++d):=by unfold jD;simp
def DS{a b c d e:List UInt8}:jD [a,b,c,d,e]=pt (wt [a,b,c,d,e]≤bA) (a++b++c++d++e):=by unfold jD;simp
def zfF{a b c d e f:List UInt8}:jD [a,b,c,d,e,f]=pt (wt [a,b,c,d,e,f]≤bA) (a++b++c++d++e++f):=by unfold jD;simp
def bn{α β:Type}{f:α→Option β}:ob none f=none:=rfl
def bs{α β:Type}{v:α}{f:α→Option β}:ob (some v) f=f v:=rfl
def ba{α β γ:Type}{x:Option α}{f:α→Option β}{g:β→Option γ}:ob (ob x f) g=ob x λv=>ob (f v) g:=by cases x<;>rfl
def bc{α β:Type}{c:Bool}{x y:Option α}{f:α→Option β}:ob (cond c x y) f=cond c (ob x f) (ob y f):=by cases c<;>rfl
def Ag.pl{α β:Type}{p:Prop}{v:α}{f:α→Option β}{z:Option β}(k:p→Ag (f v) z):Ag (ob (pt p v) f) z:=by
 unfold pt
 by_cases h:p
 ·rw[if_pos h];exact k h
 ·rw[if_neg h];exact .nl
def Ag.pr{α β:Type}{p:Prop}{v:α}{f:α→Option β}{z:Option β}(k:p→Ag z (f v)):Ag z (ob (pt p v) f):= .sy (.pl λh=> .sy (k h))
def Ag.jbl{α β σ:Type}{z:Option β}{h:σ→Option α}{f:(σ→Option α)→Option α}{g:α→Option β}(a:Ag (ob (f h) g) z):Ag (ob (aA h f) g) z:=a
def Ag.jbr{α β σ:Type}{z:Option β}{h:σ→Option α}{f:(σ→Option α)→Option α}{g:α→Option β}(a:Ag z (ob (f h) g)):Ag z (ob (aA h f) g):=a
def Ag.kk{α β:Type}{k k':α→Option β}{a b:α}(h:∀y,Ag (k y) (k' y))(e:a=b):Ag (k a) (k' b):=e▸h a
def bx0{α:Type}{x:Option α}:ob x (λv=>some v)=x:=by cases x<;>rfl
def bx{α σ:Type}{h:σ→Option α}{f:(σ→Option α)→Option α}:ob (aA h f) (λv=>some v)=aA h f:=bx0
instance{α:Type}{l:List α}{i:Int}:NM (l[i.toNat]?) (kA l i):=⟨by
 unfold kA;split
 ·exact Ag.r0
 ·exact Ag.nr⟩
instance{α:Type}{l:List α}{i:Int}:NM (kA l i) (l[i.toNat]?):=⟨.sy NM.h⟩
def Ag.bI{α β:Type}{l:List α}{i:Int}{v:α}{f:α→Option β}{z:Option β}(h:kA l i=some v)(k:Ag z (f v)):Ag z (ob (l[i.toNat]?) f):=by
 unfold kA at h;split at h
 ·rw[h];exact k
 ·cases h
def Ag.jBl{α:Type}{z:Option α}{h:Bool→Option α}{f:(Bool→Option α)→Option α}(a:Ag (f h) z):Ag (aA h f) z:=a
def Ag.jBr{α:Type}{z:Option α}{h:Bool→Option α}{f:(Bool→Option α)→Option α}(a:Ag z (f h)):Ag z (aA h f):=a
def Pc{α:Type}(x:Option α)(Q:α→Prop):Prop:=∀r,x=some r→Q r
namespace Pc
variable {α β σ:Type} {x y:Option α} {d:Bool} {Q:α→Prop}
def n:Pc (none:Option α) Q:=λ_ h=>nomatch h
def s{v:α}(h:Q v):Pc (some v) Q:=λ_ k=>Option.some.inj k▸h
def b{f:α→Option β}{P:β→Prop}(k:∀v,x=some v→Pc (f v) P):Pc (x.bind f) P:=by
 cases x with
 | none=>exact n
 | some v=>exact k v rfl
def p{q:Prop}{v:α}{f:α→Option β}{P:β→Prop}(k:q→Pc (f v) P):Pc (ob (pt q v) f) P:=by
 unfold pt
 by_cases h:q
 ·rw[if_pos h];exact k h
 ·rw[if_neg h];exact n
def g(h:d=true→Pc x Q):Pc (cond d x none) Q:=by
 cases d
 ·exact n
 ·exact h rfl
def c(h:d=true→Pc x Q)(k:d=false→Pc y Q):Pc (cond d x y) Q:=by
 cases d
 ·exact k rfl
 ·exact h rfl
def j{h:σ→Option α}{f:(σ→Option α)→Option α}(a:Pc (f h) Q):Pc (aA h f) Q:=a
def l(I:σ→Prop){f:σ→(σ→Option α)→Option α}{x0:σ}(h0:I x0)(e:∀x k,I x→(∀y,I y→Pc (k y) Q)→Pc (f x k) Q):∀n,Pc (qA n f x0) Q:=by
 intro n;induction n generalizing x0 with
 | zero=>exact Pc.n
 | succ n ih=>exact e _ _ h0 λ_ h=>ih h
def of{r:α}(h:Pc x Q)(k:x=some r):Q r:=h r k
end Pc
def pB:=@Ag.pl
def kC:=@Ag.pr
def yD:=@Ag.gl
def RB:=@Ag.gr
def jB:=@Ag.cc
def jL:=@Ag.ll
def MC:=@Ag.jj
def zgi:=@Ag.jl
def yM:=@Ag.jbl
def zvZ:=@Ag.jbr
def oD:=@Ag.bl
def mC:=@Ag.cl
def HG:=@Ag.jr
def BE:=@Ag.br
def XF:=@Ag.cr
def ZE:=@Ag.jBl
def cF:=@Ag.jBr
def oG:=@Pc.p
def DH:=@Pc.j
def zdM:=@Pc.g
def aG:=@Pc.c
def kJ:=@Pc.b
end Go.D
namespace Go.D
structure EvP(a0:Ab)(l:List Am)(w:Ab):Prop where
 ok:oB w=true
 notes:∃m,w.Notes=a0.Notes++m
 seen:w.Seen=a0.Seen
 sz:wt w≤wt a0+120000
 wl:wt l≤1000
 wires:∀x∈l,LC x=true
def zp8{a0 a1}(ha:oB a0=true)(hw:wt a0≤500000000)(hb:wt a1≤1000):Ok (Ck a0 a1) λr=>oB r=true∧∃m,r=⟨a0.Now,a0.Clients,a0.S,a0.D,a0.Seen++m,a0.Known,a0.Notes⟩:=by
 unfold Ck;have hL:=IB;have hw1:=JB a1;let Q:Ab→Prop:=λr=>oB r=true∧∃m,r=⟨a0.Now,a0.Clients,a0.S,a0.D,a0.Seen++m,a0.Known,a0.Notes⟩
 refine .cp (by omega) (.j Q (λy2 zW=> .s zW)
  λk3 KV=> .l (λx4:Int×Ab=>(0≤x4.1∧x4.1≤(a1.length:Int))∧Q x4.2) (λx4:Int×Ab=>((a1.length:Int) - x4.1).toNat) (λx4 ⟨hx,GZ,m,FY⟩ k5 mW=> .c (λh1=> .bi hx.1 (by simpa using h1) λe6 IZ dY=> .b (zrF (by have:=(ze7 (vF.1 GZ).seen).1;omega) (by omega)) λr7 NW=>?_)
  λh1=>KV _ ⟨GZ,m,FY⟩) ⟨⟨by show(0:Int)≤0;omega,by show(0:Int)≤_;omega⟩,ha,[],by simp⟩ (by simp only;omega))
 have h1:x4.1<(a1.length:Int):=by simpa using h1
 have e1:iA .i64 x4.1 1=x4.1+1:=DA (by omega) (by omega);refine mW _ ⟨⟨by simp only[e1];omega,by simp only[e1];omega⟩,?_⟩ (by simp only[e1];omega)
 rcases NW with h | ⟨h,h'⟩
 ·rw[h];exact⟨GZ,m,FY⟩
 ·exact⟨zuZ GZ h',m++[e6],by rw[h,FY,List.append_assoc]⟩
end Go.D
namespace Go.D
structure DoP(a0:Ab)(a1:Aq)(r:Ab×Bool):Prop where
 no:r.2=false→r.1=a0
 yes:r.2=true→oB a0=true∧a0.Notes.length≤500∧nM a1=true∧oB r.1=true∧(∃m,r.1.Notes=a0.Notes++m)∧(∃m,r.1.Seen=a0.Seen++m)
 sz:wt r.1≤wt a0+140000
end Go.D
namespace Go.D
theorem zg3{c:Ad}(h:aC c=true):QB c.Id c.Psk c.At=⟨c.Id,c.Psk,c.At,0,[],⟨0,0,[],[],0,[],[],0,0,[],[]⟩,⟨0,[],⟨0,[],0,⟨0,[]⟩⟩,⟨0,[],0,⟨0,[]⟩⟩,false,0,[]⟩,⟨false,0,0,0⟩,⟨false,0,0,0⟩,0⟩:=by
 unfold aC at h;simp only[Bool.and_eq_true]at h;unfold QB;rw[h.1.1.1,h.1.1.2,h.1.2];rfl
theorem zeS{a0 a1:List UInt8}{a2:Int}{r:List UInt8}(h:Ey a0 a1 a2=some r)(h0:¬a1.length>100)(h1:0≤a2)(h2:¬a2>200)(h3:¬a0.length>1048576):(r.length:Int)=a2:=by
 obtain⟨s,hs,_,hl⟩:=zh0 (a0:=a0) (a1:=a1) (a2:=a2) (by rw[FA];omega);rw[h]at hs;cases hs;exact hl (by omega)
theorem zgd(k:IntKind)(a b:Int):CB k a b=CB k b a:=by unfold CB;rw[BitVec.xor_comm]
theorem zeK{a0:Int}{a1:List UInt8}{a2 a3:Int}{r:List UInt8}(h:Cb a0 a1 a2 a3=some r):(r.length=0↔¬(eA a0 0 1=true∧a1.length=12∧eA a2 0 4294967295=true∧eA a3 0 281474976710655=true)):=by
 revert h;refine(?_:Pc _ (λr:List UInt8=>(r.length=0↔¬(eA a0 0 1=true∧a1.length=12∧eA a2 0 4294967295=true∧eA a3 0 281474976710655=true)))) r
 unfold Cb;((try simp only[UB]);repeat' (first | (with_reducible first | intro _ | apply oG | apply DH | apply zdM | apply aG) | (refine .s ?_;first | trivial | grind [oA,NA,eA,FG])))
theorem zli{a0:List UInt8}{a1:Int}{a2:List UInt8}{a3 a4 a5:Int}{a6:List UInt8}{r:Aa×Bool}(h:Dl a0 a1 a2 a3 a4 a5 a6=some r):(r.2=true↔a0.length=32∧NA a1=true∧gC a5=true∧a2.length=12∧eA a3 0 4294967295=true∧eA a4 0 281474976710655=true∧VF a5 (a6.length:Int)=true)∧(r.2=true→r.1.Sn=a2∧r.1.Epoch=a3∧r.1.Seq=a4):=by
 revert h;refine(?_:Pc _ (λr:Aa×Bool=>(r.2=true↔a0.length=32∧NA a1=true∧gC a5=true∧a2.length=12∧eA a3 0 4294967295=true∧eA a4 0 281474976710655=true∧VF a5 (a6.length:Int)=true)∧(r.2=true→r.1.Sn=a2∧r.1.Epoch=a3∧r.1.Seq=a4))) r
 unfold Dl;((try simp only[CA,TC]);repeat' (first | (with_reducible first | intro _ | apply oG | apply DH | apply aG | apply kJ) | (refine .s ?_;first | trivial | grind [oA,NA,eA,wB])))
theorem zjT{a0:Aw}{a1:Int}{a2:List UInt8}{a3:Int}{a4:List UInt8}{r:Aw×Aa×Int}(h:Eo a0 a1 a2 a3 a4=some r):(r.2.2≠0→r.1=a0)∧(r.2.2=0→r.2.1.Sn=a2∧r.2.1.Epoch=a0.N∧r.2.1.Seq=a0.Seq):=by
 revert h;refine(?_:Pc _ (λr:Aw×Aa×Int=>(r.2.2≠0→r.1=a0)∧(r.2.2=0→r.2.1.Sn=a2∧r.2.1.Epoch=a0.N∧r.2.1.Seq=a0.Seq))) r
 unfold Eo;((try simp only[nA]);repeat' (first | (with_reducible first | intro _ | apply oG | apply DH | apply aG | apply kJ) | (refine .s ?_;first | trivial | grind [oA,NA,eA, →zli,cD])))
theorem zeG{a0:Ak}{a1:Int}{a2:List UInt8}{r:Ak×Aa×Int}(h:Br a0 a1 a2=some r):(r.2.2≠0→r.1=a0)∧(r.2.2=0→r.2.1.Sn=a0.Sn∧r.2.1.Epoch=a0.Cur.N∧r.2.1.Seq=a0.Cur.Seq):=by
 revert h;refine(?_:Pc _ (λr:Ak×Aa×Int=>(r.2.2≠0→r.1=a0)∧(r.2.2=0→r.2.1.Sn=a0.Sn∧r.2.1.Epoch=a0.Cur.N∧r.2.1.Seq=a0.Cur.Seq))) r
 unfold Br;cases a0;((try simp only[nA,sC]);repeat' (first | (with_reducible first | intro _ | apply oG | apply aG | apply kJ) | (refine .s ?_;grind [oA,NA,eA, →zjT])))
theorem zkJ(b:List UInt8)(n k:Int):AD b n k=b++AD [] n k:=by
 unfold AD;cases decide (k<1)||decide (k>6)<;>simp
def zf0{a b c d e f g:List UInt8}:jD [a,b,c,d,e,f,g]=pt (wt [a,b,c,d,e,f,g]≤bA) (a++b++c++d++e++f++g):=by unfold jD;simp
theorem zir{a0:Av}{a1:Int}{r:Av×Int}(h:Dt a0 a1=some r):r.2=0→r.1=a0:=by
 revert h;refine(?_:Pc _ (λr:Av×Int=>r.2=0→r.1=a0)) r
 unfold Dt;((try simp only);repeat' (first | (with_reducible first | intro _ | apply aG | apply kJ) | (refine .s ?_;grind [oA,NA,eA])))
end Go.D
namespace Go.D
def zbY{a0 a1}:Ag (Cj a0 a1) (Bq a0 a1):=by
 unfold Cj Bq Hc;have h1:=@PA a0.Top 1024;have h2:=@DA (wA .i64 a0.Top 1024) 1;((try simp only[NF,bc,bs]);repeat' (first | (with_reducible first | intro _ | apply ZE | apply cF | exact .r0 | apply pB | apply kC | apply jB) | (with_reducible refine Ag.cr (λ_=>?_) (λ_=>?_)<;>try (exfalso;grind (splits:=3) [oA,NA,eA,bD];done)) | with_reducible apply mC | (refine .s ?_;grind [oA,NA,eA,QB,rC,List.length_eq_zero_iff,bD])))
instance{a0:Ap}{a1:Int}:KA (Bq a0 a1) (Cj a0 a1):=⟨zbY⟩
def zjG{a0:Ap}{a1:Int}{r:Bool}(h:Cj a0 a1=some r):r=true→bD a0=true:=by
 revert h;refine(?_:Pc _ (λr:Bool=>r=true→bD a0=true)) r
 unfold Cj;((try simp only[NF]);repeat' (first | (with_reducible first | intro _ | apply oG | apply DH | apply aG) | (refine .s ?_;first | trivial | grind [oA,NA,eA])))
def zro{a0:Ap}{a1:Int}{r2:Bool}(h:bD a0=true)(hr:Bq a0 a1=some r2):Ok (Cf a0 a1) λr=>r.2=aK a0 a1∧(r.2=false→r.1=a0)∧(r.2=true→gL a0 a1.toNat r.1):=by
 have hL:=IB;have hw:=zb4.1 h;have hwt:wt a0=32:=by have:=hw.words.1;simp only[N];exact this
 unfold Cf;refine Ok.same (uA (p:=wt a0≤bA) (by omega)) ?_;refine Ok.same hr ?_
 have dW:r2=aK a0 a1:=by
  obtain⟨q,hq,e⟩:=zel (a1:=a1) h;rw[←e];exact(zbY q r2 hq hr).symm
 rw[←dW];refine Ok.cond' (λe=>Ok.some' ⟨(by simpa using e:r2=false).symm,λ_=>rfl,nofun⟩) (λh'=>?_);simp only[B]at h';have ht:=hw.top
 have hm:True∧0≤a1∧a1≤281474976710655:=by
  rw[dW]at h';simp only[aK,Bool.and_eq_true,pC]at h';exact⟨trivial,h'.1⟩
 rw[h'];clear dW hr;obtain⟨n,rfl⟩:=Int.eq_ofNat_of_zero_le hm.2.1;have e1:=NS (n:=(n:Int)) (by omega);have e2:=LS (n:=(n:Int) % 1024) (by omega) (by omega);have e3:=hO (a:=(n:Int) % 1024) (b:=32) (by omega);rw[e1,e2,e3];have q1:((n:Int) % 1024 / 32).toNat=n % 1024 / 32:=by omega
 have q2:(n:Int) % 1024 % 32=((n % 1024 % 32:Nat):Int):=by omega
 refine Ok.join (λy:Ap=>HF y.Bits∧y.Top=a0.Top∧∀i,ZC y i=true↔ZC a0 i=true∧¬GH (a0.Top+1) ((n:Int)+1) i) (λy hy=>?_) (λk hk=>?_)
 ·obtain⟨w1,w2,w3⟩:=hy;obtain⟨m,m1,m2⟩:=w1.get (j:=n % 1024 / 32) (by omega);have hl:=w1.1;refine Ok.chk ?_ ?_
  ·simp only[B];omega
  rw[q1,m2,Option.bind_some];refine Ok.chkn ?_ ?_
  ·simp only[B];omega
  refine Ok.chk ?_ ?_
  ·simp only[B];omega
  rw[Option.bind_some,q2,(xV m1 (by omega)).1];refine Ok.join (λz:Ap=>gL a0 n z) (λz hz=>Ok.some' ⟨rfl,nofun,λ_=>hz⟩) (λk' bX=>?_)
  have key:∀t:Int,t=qG a0.Top (n:Int)→gL a0 n ⟨t,y.Bits.set (n % 1024 / 32) ((m|||2^(n % 1024 % 32):Nat):Int)⟩:=λt ht=>
   ⟨ht,w1.set _ (xV m1 (by omega)).2,λi=>by rw[zkr (w:=y) (t:=t) w1 m1 m2,Bool.or_eq_true,w3,zc0]⟩
  refine Ok.cond' (λh3=>bX _ (key _ ?_)) (λh3=>bX _ (key _ ?_))
  ·simp only[B]at h3;unfold qG;rw[if_pos h3]
  ·simp only[B]at h3;unfold qG;rw[if_neg h3,w2]
 ·refine Ok.loop (λx:Int×Int×Ap=>(0≤x.2.1∧x.2.1≤281474976710656∧0≤x.1∧x.1≤1024∧a0.Top+1+x.1=x.2.1∧(x.1=0∨x.2.1≤(n:Int)+1))∧HF x.2.2.Bits∧x.2.2.Top=a0.Top∧∀i,ZC x.2.2 i=true↔ZC a0 i=true∧¬GH (a0.Top+1) x.2.1 i)
   (λx=>(1025 - x.1).toNat) (λx hx k' bX=>?_) ?_ ?_
  ·obtain⟨x0,x1,x2,x3⟩:=hx;obtain⟨p,hp⟩:=Int.eq_ofNat_of_zero_le x0.1;have f1:=NS x0.1;have f2:=LS (n:=x.2.1 % 1024) (by omega) (by omega);have f3:=hO (a:=x.2.1 % 1024) (b:=32) (by omega);rw[f1,f2,f3];have p1:(x.2.1 % 1024 / 32).toNat=p % 1024 / 32:=by omega
   have p2:x.2.1 % 1024 % 32=((p % 1024 % 32:Nat):Int):=by omega
   refine Ok.join (λy:Bool=>(y=true→x.1<1024∧x.2.1≤(n:Int))∧(y=false→1024≤x.1∨(n:Int)<x.2.1)) (λy hy=>?_) (λk2 JV=>?_)
   ·refine Ok.cond' (λh=>?_) (λh=>hk _ ⟨x1,x2,λi=>?_⟩)
    ·have hy:=hy.1 h;obtain⟨m,m1,m2⟩:=x1.get (j:=p % 1024 / 32) (by omega);have hl:=x1.1;refine Ok.chk ?_ ?_
     ·simp only[B];omega
     rw[p1,m2,Option.bind_some];refine Ok.chkn ?_ ?_
     ·simp only[B];omega
     refine Ok.chk ?_ ?_
     ·simp only[B];omega
     rw[Option.bind_some,p2];obtain⟨c,c1,c2,c3⟩:=zjH (k:=p % 1024 % 32) m1 (by omega);rw[c1];have g1:=DA (a:=x.1) (b:=1) (by omega) (by omega);have g2:=DA (a:=x.2.1) (b:=1) (by omega) (by omega);refine bX _ ?_ ?_
     ·refine⟨by simp only;omega,x1.set _ c2,x2,λi=>?_⟩;show ZC ⟨x.2.2.Top,_⟩ i=true↔_∧¬GH _ (iA .i64 x.2.1 1) i
      rw[g2,zjN x1 m1 m2 c2 c3,Bool.and_eq_true,x3,zkP (by omega),Bool.not_eq_true', ←Bool.not_eq_true,zc0,hp,not_or,and_assoc,eq_comm (a:=(i:Int) % 1024)]
     ·simp only;omega
    ·rw[x3]
     rcases hy.2 h with h | h
     ·exact⟨λk=>absurd (zlk (by omega)) k.2,λk=>absurd (zlk (by omega)) k.2⟩
     ·rcases x0.2.2.2.2.2 with e | e
      ·exact and_congr_right λ_=>not_congr ⟨λc=>absurd c (WN (by omega)),λc=>absurd c (WN (by omega))⟩
      ·rw[show x.2.1=(n:Int)+1 by omega]
   ·refine Ok.cond' (λh=>JV _ ⟨λq=>?_,λq=>?_⟩) (λh=>JV _ ⟨λq=>(nomatch q),λ_=>?_⟩)
    ·simp only[B]at h q;omega
    ·simp only[B]at h q;omega
    ·simp only[B]at h;omega
  ·have g:=DA (a:=a0.Top) (b:=1) (by have:=hw.top;omega) (by have:=hw.top;omega);have ht:=hw.top;exact⟨⟨by simp only;omega,by simp only;omega,Int.le_refl _,by show(0:Int)≤1024;decide,by simp only;omega, .inl rfl⟩,hw.words,rfl,λi=>⟨λh=>⟨h,WN (by show iA .i64 a0.Top 1≤_;omega)⟩,λh=>h.1⟩⟩
  ·simp only;omega
def zsw{a0 a1}:Ag (Da a0 a1) (Cf a0 a1):=by
 cases h:bD a0
 ·unfold Da Cf;refine .pl λ_=> .pr λ_=> .bd inferInstance λv hv _=> .cc (λ_=> .r0) λe=>?_;have:=zjG hv (by simpa using e);rw[h]at this;cases this
 ·cases hk:Bq a0 a1 with
  | none=>
   unfold Cf;refine .pr λ_=>?_;rw[hk];exact .nr
  | some m=>
   obtain⟨r,hr,r1,r2,r3⟩:=zro h hk;obtain⟨q,hq,q1,q2,q3,_⟩:=zen (a1:=a1) h;intro x y hx hy;cases hq.symm.trans hx;cases hr.symm.trans hy;obtain⟨u,b⟩:=r;obtain⟨v,c⟩:=q;have e:b=c:=r1.trans q1.symm;subst e;cases b
   ·rw[show u=a0 from r2 rfl,show v=a0 from q2 rfl]
   ·have:=(r3 rfl).same (q3 rfl);rw[show u=v from this]
theorem zrH{a0:Ap}{a1:Int}{r:Ap×Bool}{m:Bool}(h:Da a0 a1=some r)(k:Bq a0 a1=some m):r.2=m:=by
 cases e:bD a0
 ·unfold Da at h
  revert h;refine(?_:Pc _ (λr:Ap×Bool=>r.2=m)) r
  refine .p λ_=> .b λv hv=> .c (λhn=> .s ?_) λhn=>?_
  ·rw[←zbY v m hv k];simpa using hn.symm
  ·have:=zjG hv (by simpa using hn);rw[e]at this;cases this
 ·obtain⟨q,hq,q1,_⟩:=zen (a1:=a1) e;obtain⟨p,hp,e2⟩:=zel (a1:=a1) e;rw[←zbY p m hp k,e2];cases hq.symm.trans h;exact q1
end Go.D
namespace Go.D
def ziT{a0 a1}:Ag (Dc a0 a1) (Bw a0 a1):=by
 unfold Dc Bw Dp;((try simp only[nA,ba,bx,qH]);repeat' ((with_reducible first | intro _ | exact .r0 | apply pB | apply kC | refine .bd inferInstance ?_ | apply yD | apply RB | apply jB | apply jL | apply MC | (apply_assumption;done) | refine .bR ‹_› ?_)))
instance{a0:Aj}{a1:Int}:KA (Bw a0 a1) (Dc a0 a1):=⟨ziT⟩
def zve{p:Aj}{n:Int}(h:qC p=true)(k:eA n 0 1000000=true):Ag (Dp p n) (Bw p n):=λv w hv hw=>by
 refine ziT v w ?_ hw;unfold Dc aA;rw[h,k,hv];rfl
def zuw{α:Type}{p:Aj}{a:Ai}{z:Option α}{x y:Option α}{s0:Aj}{n:Nat}(hw:wt p≤bA)(h1:0≤yE p a→Ag z x)(h2:yE p a<0→Ag z y):Ag z (qA n (λ(x8:Int×Aj) k9=>
  cond (decide (x8.1<(p.Cands.length:Int)))
   (cond (decide (0≤x8.1)&&decide (x8.1<(p.Cands.length:Int))) (Option.bind (p.Cands[x8.1.toNat]?) fun e10=>
    cond (cond (e10.A.Host==a.Host) (cond (e10.A.Port==a.Port) (true) false) false) x (k9 ((iA .i64 x8.1 1),x8.2))) none)
   y) (0,s0)):=by
 rcases zaP p a with⟨e,h⟩ | ⟨i,c,e,hi,hs⟩
 ·refine Ag.lI (λ_=>True) trivial (λx k _ hk=> .cr (λ_=> .gr λ_=> .br λc hc=> .cr (λhx=>?_) λ_=>hk _ trivial) λ_=>h2 (by omega)) n;rw[zbN,h c (List.mem_of_getElem? hc)]at hx;cases hx
 ·refine Ag.lI (λx:Int×Aj=>0≤x.1∧x.1≤i) ⟨Int.le_refl _,by simp only;omega⟩ (λx k hx hk=> .cr (λ_=> .gr λhg=> .br λd hd=> .cr (λ_=>h1 (by omega)) λI6=>hk _ ?_) λnW=>?_) n
  ·by_cases he:x.1=(i:Int)
   ·rw[he,Int.toNat_natCast,hi]at hd;cases hd;rw[zbN,hs]at I6;cases I6
   ·simp only;have:=(List.getElem?_eq_some_iff.1 hi).1;have hL:=IB;have:=JB p.Cands;rw[II]at hw;rw[DA (by omega) (by omega)];omega
  ·have:=(List.getElem?_eq_some_iff.1 hi).1;simp only[B]at nW;omega
def ztB{a0 a1 a2 a3}:Ag (Gf a0 a1 a2 a3) (Eg a0 a1 a2 a3):=by
 unfold Gf Eg;cases h1:qC a0
 ·((try simp only[nA,CA,MI,List.nil_append]);repeat' (first | (with_reducible first | intro _ | apply ZE | apply cF | exact .r0 | apply pB | apply yD | apply jB) | (with_reducible refine Ag.cr (λ_=>?_) (λ_=>?_)<;>try (exfalso;grind (splits:=3) [oA,NA,eA];done)) | (with_reducible first | apply oD | apply mC | apply HG | apply BE) | (exfalso;grind [oA,NA,eA])))
 cases h2:eA a1 0 1000000
 ·((try simp only[nA,CA,MI,List.nil_append]);repeat' (first | (with_reducible first | intro _ | apply ZE | apply cF | exact .r0 | apply pB | apply yD | apply jB) | (with_reducible refine Ag.cr (λ_=>?_) (λ_=>?_)<;>try (exfalso;grind (splits:=3) [oA,NA,eA];done)) | (with_reducible first | apply oD | apply mC | apply HG | apply BE) | (exfalso;grind [oA,NA,eA])))
 haveI:KA (Bw a0 a1) (Dp a0 a1):=⟨zve h1 h2⟩
 ((try simp only[nA,CA,MI,List.nil_append]);repeat' (first | (with_reducible first | intro _ | apply ZE | apply cF | exact .r0 | apply pB | apply kC | refine .bd inferInstance ?_ | apply yD | apply jB) | (with_reducible refine Ag.cr (λ_=>?_) (λ_=>?_)<;>try (exfalso;grind (splits:=3) [oA,NA,eA];done)) | (with_reducible first | apply oD | apply mC | apply HG | apply BE) | (refine .s ?_;grind [oA,NA,eA,QB,rC,List.length_eq_zero_iff]) | (exfalso;grind [oA,NA,eA]) | dsimp only[cond_true,cond_false]))
 all_goals (refine zuw ‹_› (λ_=>?_) (λ_=>?_)<;>(repeat' (first | (with_reducible first | intro _ | exact .r0 | apply kC | apply RB | refine .ct ‹_› ?_ | refine .cf ‹_› ?_) | (with_reducible refine Ag.cr (λ_=>?_) (λ_=>?_)<;>try (exfalso;grind (splits:=3) [oA,NA,eA];done)) | (refine .s ?_;grind [oA,NA,eA,QB,rC,List.length_eq_zero_iff]))))
def zut{p:Aj}{a:Ai}{i:Nat}{c:Az}(h:qC p=true)(hi:p.Cands[i]?=some c)(hs:PB c.A a=true):dK p a=(c,true)∧p.Cands.filter (λe=>!PB e.A a)=p.Cands.take i++p.Cands.drop (i+1):=by
 have hp:=CJ.1 h;obtain⟨h1,rfl⟩:=List.getElem?_eq_some_iff.1 hi
 have sp:p.Cands=p.Cands.take i++p.Cands[i] :: p.Cands.drop (i+1):=by
  rw[←List.drop_eq_getElem_cons h1,List.take_append_drop]
 have h2:=hp.two;rw[sp]at h2;have h3:=List.pairwise_append.1 h2
 have NV:∀e∈p.Cands.take i,PB e.A a=false:=λe he=>by
  have:=h3.2.2 e he _ List.mem_cons_self;rwa [HU.1 hs]at this
 have hgt:∀e∈p.Cands.drop (i+1),PB e.A a=false:=λe he=>by
  have:=(List.pairwise_cons.1 h3.2.1).1 e he;rw[HU.1 hs,zrN]at this;exact this
 constructor
 ·have hf:p.Cands.find? (λe=>PB e.A a)=some p.Cands[i]:=by
   rw[List.find?_eq_some_iff_append];exact⟨hs,_,_,sp,λe he=>by rw[NV e he];rfl⟩
  unfold dK;rw[h,hf];rfl
 ·conv=>lhs;rw[sp]
  rw[List.filter_append,List.filter_cons_of_neg (by rw[hs];decide),List.filter_eq_self.2 λe he=>by rw[NV e he];rfl,List.filter_eq_self.2 λe he=>by rw[hgt e he];rfl]
def zvt{α:Type}{l:List Az}{a:Ai}{z:Option α}{K:Aj→Option α}{c:List Az→Az→Bool}{n:Nat}(hl:l.length≤3)(h:Ag z (K ⟨a,l.filter λe=>!PB e.A a⟩)):Ag z (qA n (λ(x8:Int×Aj) k9=>
  cond (decide (x8.1<(l.length:Int)))
   (Option.bind (kA l x8.1) fun e10=>aA (fun (y12:Aj)=>k9 ((iA .i64 x8.1 1),y12)) fun k13=>
    cond (!(cond (e10.A.Host==a.Host) (cond (e10.A.Port==a.Port) (true) false) false))
     (Option.bind (kA l x8.1) λe14=>Option.bind (pt (wt e14≤bA) e14) λr15=>cond (c x8.2.Cands r15) (k13 (⟨x8.2.At,x8.2.Cands++[r15]⟩:Aj)) none)
     (k13 x8.2))
   (K x8.2)) (0,(⟨a,[]⟩:Aj))):=by
 refine Ag.lI (λx=>∃i:Nat,x=((i:Int),(⟨a,(l.take i).filter λe=>!PB e.A a⟩:Aj))∧i≤l.length) ⟨0,rfl,by omega⟩ (λx k hx hk=>?_) n;obtain⟨i,hx,h2⟩:=hx;subst hx;refine .cr (λhc=> .br λe he=> .jr ?_) λhc=>?_
 ·simp only[B]at hc;have hi:iA .i64 (i:Int) 1=((i+1:Nat):Int):=by rw[DA (by omega) (by omega)];omega
  have tX:l[i]?=some e:=by rw[kA,if_pos (by omega),Int.toNat_natCast]at he;exact he
  have ht:(l.take (i+1)).filter (λe=>!PB e.A a)=(l.take i).filter (λe=>!PB e.A a)++(if(!PB e.A a)=true then[e]else[]):=by
   rw[List.take_succ,tX,List.filter_append];cases hq:PB e.A a<;>simp[hq]
  rw[zbN];refine .cr (λh3=> .bR he (.pr λ_=> .gr λ_=>hk _ ⟨i+1,?_,by omega⟩)) λh3=>hk _ ⟨i+1,?_,by omega⟩
  ·rw[ht,if_pos h3,hi]
  ·rw[ht,if_neg (by rw[h3];decide),hi,List.append_nil]
 ·simp only[B]at hc;rw[List.take_of_length_le (by omega)];exact h
def zsk{a0 a1 a2 a3}:Ag (Ge a0 a1 a2 a3) (Fp a0 a1 a2 a3):=by
 unfold Ge Fp;cases h1:qC a0
 ·have:(dK a0 a2).2=false:=by unfold dK;rw[h1];rfl
  ((try simp only[nA,MI,BB,pM,qH]);repeat' (first | (with_reducible first | intro _ | apply ZE | apply cF | exact .r0 | apply pB | apply kC | apply yD) | (with_reducible refine Ag.cr (λ_=>?_) (λ_=>?_)<;>try (exfalso;grind (splits:=3) [oA,NA,eA];done)) | (with_reducible first | apply oD | apply mC) | (refine .s ?_;grind [oA,NA,eA,QB,rC,List.length_eq_zero_iff])))
 have hl:=(CJ.1 h1).len
 rcases zaP a0 a2 with⟨e,h⟩ | ⟨i,c,e,hi,hs⟩
 ·have:(dK a0 a2).2=false:=by
   unfold dK;rw[h1,List.find?_eq_none.2 λc hc=>by rw[h c hc];decide];rfl
  ((try simp only[nA,MI,BB,pM,qH]);repeat' (first | (with_reducible first | intro _ | apply ZE | apply cF | exact .r0 | apply pB | apply kC | apply yD) | (with_reducible refine Ag.cr (λ_=>?_) (λ_=>?_)<;>try (exfalso;grind (splits:=3) [oA,NA,eA];done)) | (with_reducible first | apply oD | apply mC) | (refine .s ?_;grind [oA,NA,eA,QB,rC,List.length_eq_zero_iff])))
 ·obtain⟨hc,hf⟩:=zut h1 hi hs;have hx:kA a0.Cands (i:Int)=some c:=by rw[kA,if_pos (by omega),Int.toNat_natCast];exact hi
  have hn:=(List.getElem?_eq_some_iff.1 hi).1;have ha:=@DA i 1;simp only[MI,pM,hc,e]
  ((try simp only[nA,MI,BB,pM,qH]);repeat' (first | (with_reducible first | intro _ | apply ZE | apply cF | exact .r0 | apply pB | apply kC | apply yD | apply jB) | (with_reducible refine Ag.cr (λ_=>?_) (λ_=>?_)<;>try (exfalso;grind (splits:=3) [oA,NA,eA];done)) | (with_reducible first | apply oD | apply mC | apply HG) | (refine .s ?_;grind [oA,NA,eA,QB,rC,List.length_eq_zero_iff]) | (exfalso;grind [oA,NA,eA]) | dsimp only[cond_true,cond_false]))
  all_goals (with_reducible refine zvt (a:=a2) (K:=λp=>some (p,true)) (c:=λl e=>decide (l.length+[e].length≤bA)) hl ?_)
  rw[hf,ha (by omega) (by omega),show((i:Int) - 0).toNat=i by omega,show((i:Int)+1).toNat=i+1 by omega,List.take_of_length_le (l:=a0.Cands.drop (i+1)) (by rw[List.length_drop];omega)];exact .r0
end Go.D
namespace Go.D
theorem zey{a0:Ah}{a1:List UInt8}{r:Ah×List Au×List Ae×Int}(h:Ds a0 a1=some r):(r.2.2.2≠0→r.2.1=[]∧r.2.2.1=[])∧(uC a0=true→a1.length>40→r.1=a0):=by
 revert h;refine(?_:Pc _ (λr:Ah×List Au×List Ae×Int=>(r.2.2.2≠0→r.2.1=[]∧r.2.2.1=[])∧(uC a0=true→a1.length>40→r.1=a0))) r
 unfold Ds;((try simp only[nA,CA,FD]);repeat' (first | (with_reducible first | intro _ | apply oG | apply DH | apply aG | apply kJ) | (refine .s ?_;first | trivial | grind [oA,NA,eA])))
def zre{a0:Ah}{a1:List UInt8}{r:Ah×List Au×List Ae×Int}(h:Ds a0 a1=some r)(hs:uC a0=true):RE a0 r.1:=by
 by_cases hl:a1.length≤40
 ·obtain⟨q,hq,h1,_⟩:=zoQ (a1:=a1) hs (by rw[FA];omega);cases hq.symm.trans h;exact h1
 ·rw[(zey h).2 hs (by omega)];exact IN hs
def zbC{t:Ao}{i:Int}{e s:Ah}{r:Ao×Bool}(h:Bt t i s=some r)(ht:UC t=true)(he:kA t.L i=some e)(hs:RE e s):r=(⟨t.Cap,t.L.set i.toNat s⟩,true):=by
 have h0:0≤i:=by unfold kA at he;split at he<;>first | assumption | cases he
 rw[kA,if_pos h0]at he;have hk:=zuA ht he hs;have hn:=(List.getElem?_eq_some_iff.1 he).1
 revert h;refine(?_:Pc _ (λr:Ao×Bool=>r=(⟨t.Cap,t.L.set i.toNat s⟩,true))) r
 unfold Bt;((try simp only[nA,iG]);repeat' (first | (with_reducible first | intro _ | apply oG | apply DH | apply zdM | apply aG | apply kJ) | (refine .s ?_;first | trivial | grind [oA,NA,eA])))
def zde{s:Ac}{i:Int}{e:Ah}(hs:fC s=true)(he:kA s.T.L i=some e):UC s.T=true∧uC e=true:=by
 have ht:=(MH.1 hs).tab;unfold kA at he;split at he
 ·exact⟨ht,(UG.1 ht).el _ (List.mem_of_getElem? he)⟩
 ·cases he
theorem zlq{s:Ac}{i:Int}{e:Ah}{b:List UInt8}{r:Ah×List Au×List Ae×Int}{t:Ao×Bool}(h1:Ds e b=some r)(h2:Bt s.T i r.1=some t)(he:kA s.T.L i=some e)(hs:fC s=true):t=(⟨s.T.Cap,s.T.L.set i.toNat r.1⟩,true):=
 zbC h2 (zde hs he).1 he (zre h1 (zde hs he).2)
theorem zla{s:Ac}{i:Int}{e r:Ah}{t:Ao×Bool}(h1:Ew e=some r)(h2:Bt s.T i r=some t)(he:kA s.T.L i=some e)(hs:fC s=true):t=(⟨s.T.Cap,s.T.L.set i.toNat r⟩,true):=
 zbC h2 (zde hs he).1 he (by
  obtain⟨q,hq,h,_⟩:=ziv (zde hs he).2;cases hq.symm.trans h1;exact h)
def zlL{s:Ac}(h:fC s=true):wA .i64 (s.T.L.length:Int) 1=(s.T.L.length:Int) - 1:=by
 have:=(UG.1 (MH.1 h).tab).len;exact PA (by omega) (by omega)
end Go.D
namespace Go.D
def ztJ(u v:UInt8):CB .u8 ((u.toNat:Nat):Int) ((v.toNat:Nat):Int)=(((u^^^v).toNat:Nat):Int):=by
 unfold CB;show IntKind.wrap .u8 (((BitVec.ofInt 8 ((u.toNat:Nat):Int)^^^BitVec.ofInt 8 ((v.toNat:Nat):Int)).toNat:Nat):Int)=_
 rw[BitVec.ofInt_natCast,BitVec.ofInt_natCast];have:(BitVec.ofNat 8 u.toNat^^^BitVec.ofNat 8 v.toNat)=(u^^^v).toBitVec:=by simp
 rw[this];have h:(u^^^v).toNat<256:=UInt8.toNat_lt _;show IntKind.wrap .u8 (((u^^^v).toNat:Nat):Int)=_
 generalize (u^^^v).toNat=n at h;simp[IntKind.wrap,IntKind.bits,IntKind.signed];omega
def zlp{m n:Nat}(hm:m<256)(hn:n<256):mK .i64 (m:Int) (n:Int)=((m|||n:Nat):Int)∧m|||n<256:=by
 have h2:m|||n<2^8:=Nat.or_lt_two_pow hm hn
 refine⟨?_,h2⟩;unfold mK;show IntKind.wrap .i64 (((BitVec.ofInt 64 (m:Int)|||BitVec.ofInt 64 (n:Int)).toNat:Nat):Int)=_
 rw[BitVec.ofInt_natCast,BitVec.ofInt_natCast,BitVec.toNat_or,BitVec.toNat_ofNat,BitVec.toNat_ofNat,Nat.mod_eq_of_lt (by omega),Nat.mod_eq_of_lt (by omega)];exact XB (by omega) (by omega)
theorem zkZ{a b:List UInt8}{r:Int}(h:Bp a b=some r)(hl:a.length≤1000000):r=0↔a=b:=by
 revert h;refine(?_:Pc _ (λr:Int=>r=0↔a=b)) r
 unfold Bp;refine .c (λh=> .s ?_) λh=> .j ?_
 ·simp only[bne_iff_ne,ne_eq]at h;exact⟨λk=>by omega,λk=>by rw[k]at h;omega⟩
 have h:a.length=b.length:=by simp at h;omega
 refine Pc.l (λx=>∃i m:Nat,x=((m:Int),(i:Int))∧m<256∧i≤a.length∧(m=0↔a.take i=b.take i)) ⟨0,0,rfl,by decide,by omega,by simp⟩ (λx k hx hk=>?_) _;obtain⟨i,m,hx,h1,h2,h3⟩:=hx;subst hx;refine .c (λhc=> .b λe he=> .b λf hf=>?_) λhc=> .s ?_
 ·simp only[B]at hc;rw[kA,if_pos (by omega),Int.toNat_natCast]at he hf;have hx:(e^^^f).toNat<256:=UInt8.toNat_lt _;dsimp only;rw[ztJ,XB (by omega) (by omega),(zlp h1 hx).1,DA (by omega) (by omega)];refine hk _ ⟨i+1,m|||(e^^^f).toNat,rfl,(zlp h1 hx).2,by omega,?_⟩;rw[Nat.or_eq_zero_iff,h3,List.take_add_one,List.take_add_one,he,hf]
  have hz:(e^^^f).toNat=0↔e=f:=by
   rw[←UInt8.toNat_zero,UInt8.toNat_inj];exact UInt8.xor_eq_zero_iff
  rw[hz];constructor
  ·rintro⟨p,rfl⟩;rw[p]
  ·intro p;have:=List.append_inj p (by rw[List.length_take,List.length_take,h]);exact⟨this.1,by simpa using this.2⟩
 ·simp only[B]at hc;have e:i=a.length:=by omega
  rw[e,List.take_length,h,List.take_length]at h3;rw[←h3];dsimp only;omega
def zrv{a0 a1 a2}(hE:∀e:Aw,∀r f,Ag (Eu e r f) (Ct e r f))(hN:∀n k,Ag (Cz n k) (Bz n k)):Ag (Db a0 a1 a2) (Ef a0 a1 a2):=by
 haveI:∀e r f,KA (Ct e r f) (Eu e r f):=λe r f=>⟨hE e r f⟩
 haveI:∀n k,KA (Bz n k) (Cz n k):=λn k=>⟨hN n k⟩
 unfold Db Ef
 (try simp only[nA,sC,TC,BB])
 refine .pl λ_=> .pr λ_=> .jBl (.jBr (.pl λ_=> .pr λ_=> .cc (λ_=> .r0) λh1=> .cc (λ_=> .r0) λh2=>?_));cases hs:gC a2.Kind<;>cases hf:wB a2<;>simp only[Bool.not_true,Bool.not_false,cond_true,cond_false]
 ·exact .r0
 ·exact .r0
 ·exact .pl λ_=> .r0
 have hc:xC a0=true:=by simpa using h1
 have cn:=TD hc;have fl:=(pD hf).2.1;have ha:=DA (a:=a0.Cur.N) (b:=1) (by omega) (by omega);have hb:=PA (a:=a0.Cur.N) (b:=1) (by omega) (by omega)
 have ho:a0.HasOld=true→a0.Old.N=a0.Cur.N - 1:=λh=>by
  simp only[xC,CH,h,cond_true,Bool.and_eq_true,beq_iff_eq]at hc;rw[hc.1.2.1.2,hb]
 rw[ha]
 have hd:∀r,Bp a2.Sn a0.Sn=some r→(r !=0)= !(a2.Sn==a0.Sn):=λr h=>by
  have:=zkZ h (by omega)
  grind
 have f1:(a2.Epoch==a0.Cur.N)=true→(a2.Epoch==a0.Cur.N+1)=false:=λh=>by
  rw[beq_iff_eq]at h;exact beq_eq_false_iff_ne.2 (by omega)
 have f2:(a2.Epoch==a0.Cur.N)=true→a0.HasOld=true→(a2.Epoch==a0.Old.N)=false:=λh k=>by
  rw[beq_iff_eq]at h;have:=ho k;exact beq_eq_false_iff_ne.2 (by omega)
 have f3:(a2.Epoch==a0.Old.N)=true→a0.HasOld=true→(a2.Epoch==a0.Cur.N+1)=false:=λh k=>by
  rw[beq_iff_eq]at h;have:=ho k;exact beq_eq_false_iff_ne.2 (by omega)
 refine .pl λ_=>?_;generalize (a2.Epoch==a0.Cur.N)=p at *;generalize (a2.Epoch==a0.Old.N)=q at *;generalize (a2.Epoch==a0.Cur.N+1)=x at *;generalize decide ((a0.Next.length:Int)>0)=n at *
 cases h0:a0.HasOld<;>cases p<;>cases q<;>cases x<;>cases n<;>first
  | exact absurd (f1 rfl) (by decide)
  | exact absurd (f2 rfl h0) (by decide)
  | exact absurd (f3 rfl h0) (by decide)
  | (simp only [aA,cond_true,cond_false,Bool.not_true,Bool.not_false]
     refine .bl λr hr=> .pr λ_=>?_;rw[hd r hr];cases(a2.Sn==a0.Sn)<;>simp only[cond_true,cond_false,Bool.not_true,Bool.not_false]
     ·exact .r0
     ·first
      | exact .r0
      | exact .bd inferInstance λ_ _ _=> .cc (λ_=> .r0) λ_=> .r0
      | exact .bd inferInstance λ_ _ _=> .bd inferInstance λ_ _ _=> .cc (λ_=> .r0) λ_=> .r0
      | (repeat' ((with_reducible first | intro _ | exact .r0 | refine .bd inferInstance ?_ | apply jB))))
end Go.D
namespace Go.D
open Option renaming bind→ob
def zrr{a0}:Ag (Bg a0) (Bj a0):=by
 unfold Bg Bj;simp only[zf0];((try simp only[TC,jV,UB,DS,zfF]);repeat' (first | (with_reducible first | intro _ | exact .r0 | apply pB | apply kC | apply RB | apply jB | refine .ct ‹_› ?_ | refine .cf ‹_› ?_) | (with_reducible first | apply mC | apply HG) | (refine .s ?_;grind [oA,NA,eA,QB,rC,List.length_eq_zero_iff,zkJ]) | dsimp only[cond_true,cond_false]));(refine Ag.lI (λx=>∃i:Nat,x=(λi:Nat=>([UInt8.ofNat (IntKind.u8.wrap a0.Kind).toNat]++[UInt8.ofNat (IntKind.u8.wrap a0.Id).toNat]++a0.Cn++List.replicate i 0,(i:Int))) i∧i≤20) ⟨0,by first | rfl | simp,by decide⟩ (λx k hx hk=>?_) _;obtain⟨i,hx,h2⟩:=hx;have hi:(i:Int)<20→iA .i64 (i:Int) 1=((i+1:Nat):Int):=λh=>(by rw[DA (by omega) (by omega)];omega);subst hx;refine .cr (λhc=> .gr λ_=>hk _ ⟨i+1,?_,?_⟩) λhc=>?_;(· simp only[B]at hc;simp[hi hc,List.replicate_succ']);(· simp only[B]at hc;omega);have he:i=20:=(by simp only[B]at hc;omega);subst he;try dsimp only);(repeat' ((refine .s ?_;grind [oA,NA,eA,QB,rC,List.length_eq_zero_iff])))
instance{a0:Aa}:KA (Bj a0) (Bg a0):=⟨zrr⟩
def ziy{F:Aa}(h:wB F=true):(F.Kind=1∧F.Cn.length=12)∨(F.Kind=2∧F.Cn.length=12∧F.Sn.length=12∧F.Cookie.length=16)∨(F.Kind=3∧F.Cn.length=12∧F.Sn.length=12∧F.Cookie.length=16∧F.Proof.length=16)∨(gC F.Kind=true∧F.Sn.length=12∧F.Tag.length=16∧F.Body.length≤40):=by
 have hb:=(pD h).2.2.2.2.1;unfold wB at h;cases hs:gC F.Kind
 ·simp only[hs,cond_false,Bool.and_eq_true,beq_iff_eq]at h;obtain⟨⟨_,h1⟩,h⟩:=h
  by_cases k1:F.Kind=1
  ·exact .inl ⟨k1,by omega⟩
  ·by_cases k2:F.Kind=2
   ·simp only[k2,show((2:Int)==1)=false from rfl,beq_self_eq_true,cond_true,cond_false,Bool.and_eq_true,beq_iff_eq]at h;exact .inr (.inl ⟨k2,by omega⟩)
   ·simp only[beq_eq_false_iff_ne.2 k1,beq_eq_false_iff_ne.2 k2,cond_false,Bool.and_eq_true,beq_iff_eq]at h;exact .inr (.inr (.inl ⟨h.1.1.1.1.1,by omega⟩))
 ·simp only[hs,cond_true,Bool.and_eq_true,beq_iff_eq]at h;exact .inr (.inr (.inr ⟨rfl,by omega,by omega,hb⟩))
def zvg{F:Aa}{r:List UInt8}(h:Bg F=some r):(wB F=false→r=[])∧(wB F=true→(F.Kind=1∧r.length=34)∨(F.Kind=2∧r.length=45)∨(F.Kind=3∧r.length=62)∨(gC F.Kind=true∧r.length=39+F.Body.length∧F.Body.length≤40)):=by
 revert h;refine(?_:Pc _ (λr:List UInt8=>(wB F=false→r=[])∧(wB F=true→(F.Kind=1∧r.length=34)∨(F.Kind=2∧r.length=45)∨(F.Kind=3∧r.length=62)∨(gC F.Kind=true∧r.length=39+F.Body.length∧F.Body.length≤40)))) r
 have hk:=@ziy F;unfold Bg;simp only[zf0];have l4:∀n,(AD [] n 4).length=4:=λn=>(FG [] n 4).2;have l6:∀n,(AD [] n 6).length=6:=λn=>(FG [] n 6).2
 ((try simp only[TC,jV,UB,DS,zfF]);repeat' (first | (with_reducible first | intro _ | apply oG | apply aG) | (refine .s ?_;grind [oA,NA,eA,gC,List.length_append,List.length_replicate,List.length_cons,List.length_nil])))
def zun{b:List UInt8}{n:Int}{v:List UInt8×List UInt8}(hn:0≤n)(h:Bl b n=some v):v=(b.take n.toNat,b.drop n.toNat):=by
 revert h;refine(?_:Pc _ (λv:List UInt8×List UInt8=>v=(b.take n.toNat,b.drop n.toNat))) v
 unfold Bl;refine .g λ_=>?_;dsimp only;refine .p λ_=> .g λ_=> .s ?_;unfold UD;split
 ·rw[Int.sub_zero,Int.toNat_natCast,List.drop_zero,List.take_length,List.drop_length,List.take_of_length_le (l:=b) (i:=n.toNat) (by omega),List.drop_eq_nil_of_le (as:=b) (i:=n.toNat) (by omega)];simp
 ·rw[Int.sub_zero,List.drop_zero,List.take_of_length_le (l:=b.drop n.toNat) (by rw[List.length_drop];omega)]
def jI{α:Type}{b:List UInt8}{n:Int}{f:List UInt8×List UInt8→Option α}{z:Option α}(hn:0≤n)(k:Ag (f (b.take n.toNat,b.drop n.toNat)) z):Ag (ob (Bl b n) f) z:= .bl λv hv=>by
 rw[zun hn hv];exact k
def rO{α:Type}{b:List UInt8}{n:Int}{f:Int×List UInt8→Option α}{z:Option α}(hn:0≤n)(k:Ag (f ((dH (b.take n.toNat) 0 n).1,b.drop n.toNat)) z):Ag (ob (Ci b n) f) z:=by
 unfold Ci;rw[ba];refine jI hn ?_;rw[ba];exact .pl λ_=>k
def zdb{a0:List UInt8}{F:Aa}{z:Option (Aa×Bool)}(hf:wB F=false)(h:Ag (some ((⟨0,0,[],[],0,[],[],0,0,[],[]⟩:Aa),false)) z):Ag (ob (TC F) λr29=>cond (!r29) (some ((⟨0,0,[],[],0,[],[],0,0,[],[]⟩:Aa),false)) (ob (Bg F) λr30=>ob (BB r30 a0) λr31=>cond (!r31) (some ((⟨0,0,[],[],0,[],[],0,0,[],[]⟩:Aa),false)) (some (F,true)))) z:=
 .pl λ_=>by rw[hf];exact h
def zgh{a0:List UInt8}{K:Aa}(h:a0≠[])(hf:wB K=false):Ag (some ((⟨0,0,[],[],0,[],[],0,0,[],[]⟩:Aa),false)) (ob (Bj K) λr28=>cond (Nat.ble r28.length bA) (cond (Nat.ble a0.length bA) (cond (!(r28==a0)) (some ((⟨0,0,[],[],0,[],[],0,0,[],[]⟩:Aa),false)) (some (K,true))) none) none):=by
 have:Bj K=some []:=by unfold Bj;rw[hf];rfl
 rw[this]
 ((try simp only[bs]);repeat' (first | (with_reducible first | intro _ | exact .r0 | apply RB) | (with_reducible refine Ag.cr (λ_=>?_) (λ_=>?_)<;>try (exfalso;grind (splits:=3) [oA,NA,eA];done))))
def zcP{a0:List UInt8}{F:Aa}(h:∀r,Bg F=some r→wB F=true→r≠a0):Ag (ob (TC F) λr29=>cond (!r29) (some ((⟨0,0,[],[],0,[],[],0,0,[],[]⟩:Aa),false)) (ob (Bg F) λr30=>ob (BB r30 a0) λr31=>cond (!r31) (some ((⟨0,0,[],[],0,[],[],0,0,[],[]⟩:Aa),false)) (some (F,true)))) (some ((⟨0,0,[],[],0,[],[],0,0,[],[]⟩:Aa),false)):=by
 ((try simp only[TC,BB]);repeat' (first | (with_reducible first | intro _ | exact .r0 | apply pB) | (with_reducible first | apply oD | apply mC) | (refine .s ?_;grind [oA,NA,eA,QB,rC,List.length_eq_zero_iff])))
def zck{a0:List UInt8}{F K:Aa}(h:a0≠[])(e:F=K):Ag (ob (TC F) λr29=>cond (!r29) (some ((⟨0,0,[],[],0,[],[],0,0,[],[]⟩:Aa),false)) (ob (Bg F) λr30=>ob (BB r30 a0) λr31=>cond (!r31) (some ((⟨0,0,[],[],0,[],[],0,0,[],[]⟩:Aa),false)) (some (F,true))))
  (ob (Bj K) λr28=>cond (Nat.ble r28.length bA) (cond (Nat.ble a0.length bA) (cond (!(r28==a0)) (some ((⟨0,0,[],[],0,[],[],0,0,[],[]⟩:Aa),false)) (some (K,true))) none) none):=by
 subst e;cases hf:wB F
 ·exact zdb hf (zgh h hf)
 ·((try simp only[TC,BB]);repeat' (first | (with_reducible first | intro _ | exact .r0 | apply pB | refine .bd inferInstance ?_ | apply RB) | (with_reducible refine Ag.cr (λ_=>?_) (λ_=>?_)<;>try (exfalso;grind (splits:=3) [oA,NA,eA];done)) | (with_reducible first | apply mC | apply BE)))
def zlH{e:UInt8}{t:List UInt8}:(dH ((e :: t).take 1) 0 1).1=(e.toNat:Int):=by
 show iA .i64 (YB .i64 0 256) (IntKind.wrap .i64 ((e.toNat:Nat):Int))=_
 have h:=UInt8.toNat_lt e;rw[XB (by omega) (by omega),show YB .i64 0 256=0 from rfl,DA (by omega) (by omega)];omega
def zco{a:List UInt8}{p:Nat}{k:Int}(hk:1≤k∧k≤6)(h:(p:Int)+k≤a.length):(dH ((a.drop p).take k.toNat) 0 k).1=(dH a (p:Int) k).1:=by
 unfold dH;rw[decide_eq_false (by omega),decide_eq_false (by omega),decide_eq_false (by omega),decide_eq_false (by rw[List.length_take,List.length_drop];omega),decide_eq_false (by omega),decide_eq_false (by omega)];show CG ((((a.drop p).take k.toNat).drop (0:Int).toNat).take k.toNat)=CG ((a.drop (p:Int).toNat).take k.toNat)
 rw[show((0:Int).toNat)=0 from rfl,List.drop_zero,List.take_take,Nat.min_self,Int.toNat_natCast]
def zlR{a:List UInt8}{p:Nat}{e:UInt8}(h:kA a (p:Int)=some e):(dH ((a.drop p).take 1) 0 1).1=IntKind.wrap .i64 (e.toNat:Int):=by
 rw[kA,if_pos (by omega),Int.toNat_natCast]at h;obtain⟨h1,rfl⟩:=List.getElem?_eq_some_iff.1 h;have hn:=UInt8.toNat_lt a[p];rw[List.drop_eq_getElem_cons h1,zlH,XB (by omega) (by omega)]
def zq0{a0}:Ag (Cv a0) (Eb a0):=by
 unfold Cv Eb;refine rO (by decide) ?_;cases a0 with
 | nil=>
  rw[show(dH (List.take (1:Int).toNat []) 0 1).1=0 from rfl];exact zdb rfl .r0
 | cons e t=>
  rw[show(1:Int).toNat=1 from rfl,zlH];refine .cr (λh=>?_) λ_=> .br λe1 he=>?_
  ·simp only[B,List.length_cons]at h;omega
  cases he.symm.trans (show kA (e :: t) 0=some e from rfl);have hn:=UInt8.toNat_lt e;dsimp only;rw[XB (by omega) (by omega)];generalize ha:e :: t=a;have h0:a≠[]:=by rw[←ha];exact List.cons_ne_nil _ _
  generalize hk:(e.toNat:Int)=k
  have no:∀F:Aa,F.Kind=k→(k=1→a.length≠34)→(k=2→a.length≠45)→(k=3→a.length≠62)→(gC k=true→a.length<39)→∀r,Bg F=some r→wB F=true→r≠a:=λF q p1 p2 p3 p4 r hr hf e=>by
   subst e
   rcases(zvg hr).2 hf with h | h | h | h
   ·exact p1 (q▸h.1) h.2
   ·exact p2 (q▸h.1) h.2
   ·exact p3 (q▸h.1) h.2
   ·have:=p4 (q▸h.1);omega
  by_cases k1:k=1
  ·subst k1;simp only[aA,cond_true,beq_self_eq_true];refine rO (by decide) (jI (by decide) (.cr (λhl=>zcP (no _ rfl (λ_=>?_) ?_ ?_ ?_)) λhl=> .br λe5 DX=> .gr λ_=> .gr λ_=>zck h0 ?_))
   ·simp only[B]at hl;omega
   ·omega
   ·omega
   ·intro h;cases h
   ·simp only[List.nil_append];have:=zlR (p:=1) DX;rw[show(1:Int).toNat=1 from rfl,this,show(12:Int).toNat=12 from rfl,List.drop_drop]
  by_cases k2:k=2
  ·subst k2;simp only[aA,cond_true,cond_false,beq_self_eq_true,show((2:Int)==1)=false from rfl,show((2:Int)==3)=false from rfl];refine jI (by decide) (jI (by decide) (rO (by decide) (jI (by decide) (.cr (λhl=>zcP (no _ rfl ?_ (λ_=>?_) ?_ ?_)) λhl=> .gr λ_=> .gr λ_=> .gr λ_=> .gr λ_=> .pr λ_=> .gr λ_=> .gr λ_=>zck h0 ?_))))
   ·omega
   ·simp only[B]at hl;omega
   ·omega
   ·intro h;cases h
   ·simp only[B]at hl;have:=zco (a:=a) (p:=25) (k:=4) (by decide) (by omega);simp only[List.nil_append,List.drop_drop,show(1:Int).toNat=1 from rfl,show(12:Int).toNat=12 from rfl,show(4:Int).toNat=4 from rfl,show(16:Int).toNat=16 from rfl]at this⊢;rw[this,show((a.length:Int) - 29).toNat=16 by omega];rfl
  by_cases k3:k=3
  ·subst k3;simp only[aA,cond_true,cond_false,beq_self_eq_true,show((3:Int)==1)=false from rfl,show((3:Int)==2)=false from rfl];refine rO (by decide) (jI (by decide) (jI (by decide) (rO (by decide) (jI (by decide) (jI (by decide) (.cr (λhl=>zcP (no _ rfl ?_ ?_ (λ_=>?_) ?_)) λhl=> .br λe5 DX=> .gr λ_=> .gr λ_=> .gr λ_=> .gr λ_=> .pr λ_=> .gr λ_=> .gr λ_=> .gr λ_=> .gr λ_=>zck h0 ?_))))))
   ·omega
   ·omega
   ·simp only[B]at hl;omega
   ·intro h;cases h
   ·simp only[B]at hl;have h1:=zlR (p:=1) DX;have:=zco (a:=a) (p:=26) (k:=4) (by decide) (by omega);simp only[List.nil_append,List.drop_drop,show(1:Int).toNat=1 from rfl,show(12:Int).toNat=12 from rfl,show(4:Int).toNat=4 from rfl,show(16:Int).toNat=16 from rfl]at this h1⊢;rw[this,h1,show((a.length:Int) - 46).toNat=16 by omega];rfl
  simp only[aA,cond_false,beq_eq_false_iff_ne.2 k1,beq_eq_false_iff_ne.2 k2,beq_eq_false_iff_ne.2 k3]
  have bad:∀F:Aa,F.Kind=k→gC k=false→wB F=false:=λF q hs=>by
   cases hf:wB F
   ·rfl
   ·rcases ziy hf with h | h | h | h
    ·exact absurd (q▸h.1) k1
    ·exact absurd (q▸h.1) k2
    ·exact absurd (q▸h.1) k3
    ·rw[q,hs]at h;cases h.1
  cases hs:gC k
  ·simp only[cond_false];exact zdb (bad _ rfl hs) (.cr (λ_=> .r0) λ_=> .gr λ_=> .gr λ_=> .pr λ_=> .pr λ_=> .gr λ_=> .gr λ_=> .gr λ_=> .gr λ_=>zgh h0 (bad _ rfl hs))
  ·simp only[cond_true];refine jI (by decide) (rO (by decide) (rO (by decide) (jI (by decide) (jI (by decide) (.cr (λhl=>zcP (no _ rfl ?_ ?_ ?_ (λ_=>?_))) λhl=> .gr λ_=> .gr λ_=> .pr λ_=> .pr λ_=> .gr λ_=> .gr λ_=> .gr λ_=> .gr λ_=>?_)))))
   ·omega
   ·omega
   ·omega
   ·simp only[B]at hl;omega
   ·simp only[B]at hl
    by_cases hb:a.length≤79
    ·refine zck h0 ?_;have g1:=zco (a:=a) (p:=13) (k:=4) (by decide) (by omega);have g2:=zco (a:=a) (p:=17) (k:=6) (by decide) (by omega);simp only[List.nil_append,List.drop_drop,show(1:Int).toNat=1 from rfl,show(12:Int).toNat=12 from rfl,show(4:Int).toNat=4 from rfl,show(6:Int).toNat=6 from rfl,show(16:Int).toNat=16 from rfl,show(41:Int).toNat=41 from rfl]at g1 g2⊢;rw[g1,g2,List.take_of_length_le (l:=a.drop _) (i:=41) (by rw[List.length_drop];omega),List.take_of_length_le (l:=a.drop 39) (i:=((a.length:Int) - 39).toNat) (by rw[List.length_drop];omega)];rfl
    ·have cT:∀F:Aa,F.Kind=k→41≤F.Body.length→wB F=false:=λF q hb=>by
      cases hf:wB F
      ·rfl
      ·have:=(pD hf).2.2.2.2.1;omega
     refine zdb (cT _ rfl ?_) (zgh h0 (cT _ rfl ?_))
     ·simp only[List.drop_drop,List.length_take,List.length_drop,show(1:Int).toNat=1 from rfl,show(12:Int).toNat=12 from rfl,show(4:Int).toNat=4 from rfl,show(6:Int).toNat=6 from rfl,show(16:Int).toNat=16 from rfl,show(41:Int).toNat=41 from rfl];omega
     ·simp only[List.nil_append,List.length_take,List.length_drop];omega
end Go.D
namespace Go.D
def zqx{p r:List UInt8}(h:Bh p=some r)(k:CC p=true):r.length=32:=by
 revert h;refine(?_:Pc _ (λr:List UInt8=>r.length=32)) r
 unfold Bh By;rw[k];refine .c nofun λ_=>?_;dsimp only;refine .b λv hv=>?_;cases hv;refine .p λ_=> .s (MU ?_ (by decide));have:=mM [UInt8.ofNat (114:Int).toNat,UInt8.ofNat (111:Int).toNat,UInt8.ofNat (97:Int).toNat,UInt8.ofNat (109:Int).toNat] p;omega
def zqU{i t:Int}{c s k r:List UInt8}(h:Cy i c s t k=some r)(h1:eA i 1 9=true)(h2:c.length=12)(h3:s.length=12)(h4:eA t 0 1000000=true)(h5:k.length=16):r.length=46:=by
 revert h;refine(?_:Pc _ (λr:List UInt8=>r.length=46)) r
 unfold Cy;have l4:∀n,(AD [] n 4).length=4:=λn=>(FG [] n 4).2
 ((try simp only[UB,DS]);repeat' (first | (with_reducible first | intro _ | apply oG | apply DH | apply aG) | (refine .s ?_;first | trivial | grind [oA,NA,eA,List.length_append,List.length_cons,List.length_nil])))
theorem zvz{a b r:List UInt8}(h:Ca a b=some r)(h1:a.length=32)(h2:b.length≤100):r.length=16:=by
 revert h;refine(?_:Pc _ (λr:List UInt8=>r.length=16)) r
 have:=wH (k:=a) (b:=b) (by omega) (by omega);unfold Ca;dsimp only
 ((try simp only[CA]);repeat' (first | (with_reducible first | intro _ | apply oG | apply zdM | apply aG) | (refine .s ?_;grind [oA,NA,eA,List.length_take,List.length_drop])))
theorem ziS{p:List UInt8}{i:Int}{f:Aa}{r:Aa×Bool}(h:Ev p i f=some r)(hp:CC p=true)(hi:eA i 1 9=true)(hf:wB f=true)(hk:f.Kind=2):r.2=true:=by
 revert h;refine(?_:Pc _ (λr:Aa×Bool=>r.2=true)) r
 have K5:=sV hf hk;have ht:eA f.Tick 0 1000000=true:=pC.2 ⟨K5.2.2.1,K5.2.2.2.1⟩
 have hpr:∀q,Dn p i f.Cn f.Sn f.Tick f.Cookie=some q→q.length=16:=λq h=>by
  revert h;refine(?_:Pc _ (λq:List UInt8=>q.length=16)) q
  unfold Dn;refine .b λv hv=> .b λw hw=>?_;have h1:=zqx hv hp;have h2:=zqU hw hi K5.1 K5.2.1 ht K5.2.2.2.2.1
  (repeat' (first | (with_reducible first | intro _ | apply oG | apply DH | apply aG | apply kJ) | (refine .s ?_;first | trivial | grind [oA,NA,eA, →zvz])))
 unfold Ev
 ((try simp only[CA,TC]);repeat' (first | (with_reducible first | intro _ | apply oG | apply DH | apply aG | apply kJ) | (refine .s ?_;first | trivial | grind [oA,NA,eA])))
set_option maxHeartbeats 1000000 in
theorem ziP{a0:Ak}{a1:Int}{a2:Aa}{r:Ak×List UInt8×Int}(h:Db a0 a1 a2=some r):r.2.2=0→a2.Sn=a0.Sn∧r.1.Sn=a2.Sn:=by
 revert h;refine(?_:Pc _ (λr:Ak×List UInt8×Int=>r.2.2=0→a2.Sn=a0.Sn∧r.1.Sn=a2.Sn)) r
 have fl:=λh=>(@pD a2 h).2.1;unfold Db
 ((try simp only[nA,sC,TC]);repeat' (first | (with_reducible first | intro _ | apply oG | apply DH | apply aG | apply kJ) | (refine .s ?_;first | trivial | grind [oA,NA,eA, →zkZ])))
end Go.D
namespace Go.D
open Option renaming bind→ob
def zwp{c:Ad}(h:aC c=true):CC c.Psk=true∧eA c.Id 1 9=true∧(c.St=0∨c.St=1∨c.St=2∨c.St=3):=by
 unfold aC at h;simp only[Bool.and_eq_true]at h;refine⟨h.1.1.2,h.1.1.1,?_⟩;have h:=h.2
 by_cases h0:c.St=0
 ·exact .inl h0
 by_cases h1:c.St=1
 ·exact .inr (.inl h1)
 by_cases h2:c.St=2
 ·exact .inr (.inr (.inl h2))
 ·simp only[beq_eq_false_iff_ne.2 h0,beq_eq_false_iff_ne.2 h1,beq_eq_false_iff_ne.2 h2,cond_false,Bool.and_eq_true,beq_iff_eq]at h;omega
def Ag.lB{α β σ:Type}{f:σ→(σ→Option α)→Option α}{f':σ→(σ→Option β)→Option β}{g:β→Option α}(e:∀x k k',(∀y,Ag (k y) (ob (k' y) g))→Ag (f x k) (ob (f' x k') g)):∀(n:Nat) (x:σ),Ag (qA n f x) (ob (qA n f' x) g):=by
 intro n;induction n with
 | zero=>exact λ_=>Ag.nl
 | succ n ih=>exact λx=>e _ _ _ λ_=>ih _
def zux{o:List Au}{n:List Ae}{s:Ac}{z:Option (Ac×List Au×List Ae)}{f:List Au×Int×Ac→(List Au×Int×Ac→Option (Ac×List Au×List Ae))→Option (Ac×List Au×List Ae)}(ho:o=[])(h:Ag (some (s,[],n)) z):Ag (qA FU (λx k=>cond (decide (x.2.1<(o.length:Int))) (f x k) (some (x.2.2,x.1,n))) ([],0,s)) z:=by
 subst ho;refine Ag.lJ (λx=>x=([],0,s)) rfl (λx k hx _=>?_) _;subst hx;exact h
def zv2{o:List Au}{n:List Ae}{s:Ac}(hA:∀t a,Ag (Cw t a) (Dh t a))(hZ:∀f,Ag (Dq f) (Eh f))(hP:∀c a n,Ag (Dr c a n) (Dj c a n)):Ag (aA (λ(y18:(List Au)×Ac)=>
 some (y18.2,y18.1,n)) λk19=>
 qA FU (λ(x20:(List Au)×Int×Ac) k21=>
 cond (decide (x20.2.1<(o.length:Int)))
 (aA (λ(y22:(List Au)×Ac)=>
 k21 (y22.1,(iA .i64 x20.2.1 1),y22.2)) λk23=>
 cond (decide (0≤x20.2.1)&&decide (x20.2.1<(o.length:Int))) (ob (o[x20.2.1.toNat]?) λe24=>
 ob (Cw x20.2.2.T e24.To) λr25=>
 aA (λ(y26:Ac)=>
 cond (decide (x20.1.length+[e24].length≤bA)) (k23 ((x20.1++[e24]),y26)) none) λk27=>
 cond (!r25)
 (ob (Dq e24.F) λr28=>
 ob (Dr x20.2.2.Cr e24.To r28) λr29=>
 cond (!r29.2)
 (k23 (x20.1,x20.2.2))
 (k27 (⟨x20.2.2.Psks,x20.2.2.J,x20.2.2.D,x20.2.2.T,r29.1⟩:Ac)))
 (k27 x20.2.2)) none)
 (k19 (x20.1,x20.2.2))) ([],0,s)) (ob (Hh s o) λr65=>some (r65.2,r65.1,n)):=by
 haveI:∀t a,KA (Dh t a) (Cw t a):=λt a=>⟨hA t a⟩
 haveI:∀f,KA (Eh f) (Dq f):=λf=>⟨hZ f⟩
 haveI:∀c a n,KA (Dj c a n) (Dr c a n):=λc a n=>⟨hP c a n⟩
 unfold Hh;refine .jl (.jbr (Ag.lB (λx k k' hk=>?_) _ _));simp only[ba,bc,bs,bn]
 (repeat' (first | (with_reducible first | intro _ | exact .r0 | refine .bd inferInstance ?_ | apply yD | apply RB | apply jB | (apply_assumption;done) | refine .ct ‹_› ?_ | refine .cf ‹_› ?_) | (with_reducible first | apply zgi | (apply zvZ;simp only[ba,bc,bs,bn]) | apply oD | apply mC | refine .bT inferInstance ‹_› ?_ | refine .bR ‹_› ?_)))
end Go.D
namespace Go.D
def zeQ{t:Ao}{s:Ah}{r:Ao×Int}(h:Bi t s=some r):r.2=0→r.1=⟨t.Cap,t.L++[s]⟩∧JE t s.Sn<0∧UC t=true∧uC s=true:=by
 revert h;refine(?_:Pc _ (λr:Ao×Int=>r.2=0→r.1=⟨t.Cap,t.L++[s]⟩∧JE t s.Sn<0∧UC t=true∧uC s=true)) r
 unfold Bi;((try simp only[nA,ED,bJ,iG,FD]);repeat' (first | (with_reducible first | intro _ | apply oG | apply DH | apply zdM | apply aG) | (refine .s ?_;first | trivial | grind [oA,NA,eA])))
def zsx{t:Ao}{s:Ah}(h:JE t s.Sn<0):JE ⟨t.Cap,t.L++[s]⟩ s.Sn=(t.L.length:Int):=by
 unfold JE at h⊢
 rcases AJ t.L.length (lG t s.Sn)with⟨h1,_⟩ | ⟨m,_,_,_,h4⟩
 ·rcases AJ (t.L++[s]).length (lG ⟨t.Cap,t.L++[s]⟩ s.Sn)with⟨h3,h4⟩ | ⟨m,h5,h6,_,h4⟩
  ·have:=cS (i:=t.L.length) (by rw[h3];rfl) (by simp);simp[lG]at this
  ·rw[h4];have:=TG.1 h1 m;rw[List.length_append]at h5;simp only[List.length_cons,List.length_nil]at h5
   by_cases hm:m<t.L.length
   ·have:=this hm;unfold lG at this h6;rw[List.getElem?_append_left hm]at h6;rw[h6]at this;cases this
   ·omega
 ·omega
def zr3{t:Ao}{s:Ah}{r:Ao×Int}(h:Bi t s=some r)(h0:r.2=0):JE r.1 s.Sn=wA .i64 (r.1.L.length:Int) 1:=by
 obtain⟨e,h1,h2,_⟩:=zeQ h h0;have:=(UG.1 h2).len;rw[e,zsx h1,List.length_append,PA (by simp only[List.length_cons,List.length_nil];omega) (by simp only[List.length_cons,List.length_nil];omega)];simp only[List.length_cons,List.length_nil];omega
def zsa{p:List UInt8}{n:Int}{a:Ai}{f:Aa}{s:Ah}(h:Es p n a f=some s)(hs:uC s=true):s.Sn=f.Sn:=by
 revert hs
 revert h;refine(?_:Pc _ (λs:Ah=>uC s=true→s.Sn=f.Sn)) s
 have:uC (⟨0,[],[],(⟨0,[],(⟨0,[],0,(⟨0,[]⟩:Ap)⟩:Aw),(⟨0,[],0,(⟨0,[]⟩:Ap)⟩:Aw),false,0,[]⟩:Ak),(⟨(⟨0,0⟩:Ai),[]⟩:Aj),0,0,false⟩:Ah)=false:=by
  unfold uC;rfl
 unfold Es;((try simp only[CA,TC]);repeat' (first | (with_reducible first | intro _ | apply oG | apply DH | apply aG | apply kJ) | (refine .s ?_;first | trivial | grind [oA,NA,eA])))
def zrY{a0:Ah}{r:Ah×List Au×List Ae}(h:Et a0=some r)(hs:uC a0=true):RE a0 r.1:=by
 obtain⟨q,hq,h1,_⟩:=zhM hs;cases hq.symm.trans h;exact h1
def zk7{t:Ao}{i:Int}{e:Ah}(ht:UC t=true)(he:kA t.L i=some e):uC e=true:=by
 unfold kA at he;split at he
 ·exact(UG.1 ht).el _ (List.mem_of_getElem? he)
 ·cases he
theorem GS{t:Ao}{i:Int}{e:Ah}{r:Ah×List Au×List Ae}{p:Ao×Bool}(h1:Et e=some r)(h2:Bt t i r.1=some p)(he:kA t.L i=some e)(ht:UC t=true):p=(⟨t.Cap,t.L.set i.toNat r.1⟩,true):=
 zbC h2 ht he (zrY h1 (zk7 ht he))
def zr5{t:Ao}{s:Ah}{r:Ao×Int}(h:Bi t s=some r)(h0:r.2=0):UC r.1=true:=by
 obtain⟨_,_,h2,h3⟩:=zeQ h h0;obtain⟨q,hq,h1,_⟩:=zhP (a1:=s) h2 (by have:=mG h3;omega);cases hq.symm.trans h;exact h1
def Pc.jj{α σ:Type}{Q:α→Prop}{h:σ→Option α}{f:(σ→Option α)→Option α}(a:∀y,Pc (h y) Q)(e:∀k,(∀y,Pc (k y) Q)→Pc (f k) Q):Pc (aA h f) Q:=e _ a
def zrz{b:List UInt8}{r:Aa×Bool}(h:Cv b=some r):r.2=true→wB r.1=true:=by
 revert h;refine(?_:Pc _ (λr:Aa×Bool=>r.2=true→wB r.1=true)) r
 unfold Cv;refine .b λ_ _=>Pc.jj (λy=>?_) λk hk=>?_
 ·((try simp only[TC,BB]);repeat' (first | (with_reducible first | intro _ | apply oG | apply DH | apply aG | apply kJ) | (refine .s ?_;first | trivial | grind [oA,NA,eA])))
 ·repeat' first
   | exact hk _
   | apply_assumption
   | refine Pc.b λ_ _=>?_
   | refine Pc.c (λ_=>?_) λ_=>?_
   | refine Pc.jj (λ_=>?_) λ_ _=>?_
theorem AS{t:Ao}{i n:Int}{e:Ah}{a:Ai}{f:Aa}{b:List UInt8}{r:Ah×List Au×List Ae×Bool}{p:Ao×Bool}(h1:Gg e n a f b=some r)(h2:Bt t i r.1=some p)(he:kA t.L i=some e)(ht:UC t=true)(hf:wB f=true)(hb:b.length≤100):p=(⟨t.Cap,t.L.set i.toNat r.1⟩,true):=
 zbC h2 ht he (by
  obtain⟨q,hq,h,_⟩:=zhj (a1:=n) (a2:=a) (zk7 ht he) hf hb;cases hq.symm.trans h1;exact h)
end Go.D

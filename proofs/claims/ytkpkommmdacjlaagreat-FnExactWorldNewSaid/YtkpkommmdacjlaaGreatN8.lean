/-
 Sizes of the program's data.
-/
import Derived.Test.YtkpkommmdacjlaaGreatN9
set_option linter.all false
namespace Go.D
end Go.D
namespace Go.D
end Go.D
namespace Go.D
end Go.D
namespace Go.D
end Go.D
namespace Go.D
end Go.D
namespace Go.D
instance:Wt Bb:=⟨λx=>wt x.To+wt x.F⟩
def zi1(x:Bb):wt x=wt x.To+wt x.F:=rfl
instance:Wt Nat:=⟨λ_=>0⟩
def Ok.guard{α γ β:Type}[Wt α][Wt γ]{l:List α}{m:List γ}{x:Option β}{P:β→Prop}(h:wt l+wt m≤eA)(k:Ok x P):Ok (cond (decide (l.length+m.length≤eA)) x none) P:=by
 have h1:=fJ l;have h2:=fJ m;rw[decide_eq_true (by omega)];exact k
def Ok.ble{α β:Type}[Wt α]{l:List α}{x:Option β}{P:β→Prop}(h:wt l≤eA)(k:Ok x P):Ok (cond (Nat.ble l.length eA) x none) P:=by
 have h1:=fJ l;rw[Nat.ble_eq_true_of_le (by omega)];exact k
def Ok.chk{β:Type}{b:Bool}{x:Option β}{P:β→Prop}(h:b=true)(k:Ok x P):Ok (cond b x none) P:=by rw[h];exact k
def Ok.chkn{β:Type}{b:Bool}{x:Option β}{P:β→Prop}(h:b=false)(k:Ok x P):Ok (cond b none x) P:=by rw[h];exact k
def Ok.idx{α:Type}{l:List α}{i:Int}(h0:0≤i)(h1:i<(l.length:Int)):Ok (vA l i) λx=>l[i.toNat]?=some x:=by
 obtain⟨j,rfl⟩:=Int.eq_ofNat_of_zero_le h0;have hj:j<l.length:=by omega
 exact⟨l[j],rC hj,by rw[Int.toNat_natCast,List.getElem?_eq_getElem hj]⟩
def Ok.get{α:Type}{l:List α}{i:Nat}(h:i<l.length):Ok (l[i]?) λx=>l[i]?=some x:=⟨l[i],List.getElem?_eq_getElem h,List.getElem?_eq_getElem h⟩
def Ok.same{α β:Type}{o:Option α}{a:α}{f:α→Option β}{P:β→Prop}(h:o=some a)(k:Ok (f a) P):Ok (Option.bind o f) P:=by rw[h];exact k
def zaK{x a b:Int}:oA x a b=true↔a≤x∧x≤b:=by simp[oA]
def zgi{x a b:Int}:oA x a b=false↔¬(a≤x∧x≤b):=by rw[←Bool.not_eq_true,zaK]
def SF(s:Aa):Prop:=wt s≤3300∧s.T.L.length≤12∧s.Psks.length≤9∧s.J.Secret.length=32
def CF(c:Ab):Prop:=wt c≤350∧1≤c.Id∧c.Id≤9∧1≤c.Psk.length∧c.Psk.length≤32∧0≤c.At.Host∧c.At.Host≤4294967295∧0≤c.At.Port∧c.At.Port≤65535
def gR(l:List Ab)(i:Nat):Int:=match l[i]? with
 | some c=>c.Id
 | none=>0
def TW(w:Ag):Prop:=w.Clients.length=2∧gR w.Clients 0=1∧gR w.Clients 1=2
def N:(∀x:Ab,wt x=wt x.Psk+wt x.Cn+wt x.Fin+wt x.C)∧(∀x:Ah,wt x=x.Sn.length+wt x.Cur+wt x.Old+x.Next.length)∧(∀x:Aq,wt x=x.Key.length+wt x.Win)∧(∀x:Al,wt x=x.Bits.length)∧
  (∀x:Ac,wt x=x.Cn.length+x.Sn.length+x.Cookie.length+x.Proof.length+x.Body.length+x.Tag.length)∧(∀x:Ak,wt x=x.Cn.length+x.Sn.length+x.Body.length+x.Key.length)∧
  (∀x:Am,wt x=x.Cn.length+x.Sn.length+wt x.C+wt x.P)∧(∀x:Ao,wt x=wt x.Cands)∧(∀x:Ar,wt x=x.Draw.length)∧(∀x:Ai,wt x=wt x.L)∧
  (∀x:Aa,wt x=wt x.Psks+wt x.J+wt x.D+wt x.T+wt x.Cr)∧(∀x:Ap,wt x=x.Secret.length)∧(∀x:Ae,wt x=x.Seed.length)∧(∀x:Ad,wt x=0)∧(∀x:As,wt x=x.B.length)∧
  (∀x:Ag,wt x=wt x.Clients+wt x.S+wt x.D+wt x.Seen+wt x.Known+wt x.Notes)∧(∀x:Ei,wt x=x.B.length)∧(∀x:Av,wt x=x.B.length+wt x.Ops)∧(∀x:Bb,wt x=wt x.F)∧
  (∀p:Prop,(True∧p)=p)∧(∀p:Prop,(p∧True)=p)∧(∀x:UInt8,wt x=0)∧(∀x:Int,wt x=0)∧(∀x:Nat,wt x=0)∧(∀x:List UInt8,wt x=x.length)∧(∀x:List Int,wt x=x.length)∧(∀(α:Type) [Wt α] (l m:List α),wt (l++m)=wt l+wt m)∧(∀(α:Type) [Wt α] (x:α) (l:List α),wt (x :: l)=wt x+wt l+1)∧(∀(α:Type) [Wt α],wt ([]:List α)=0)∧
  (∀(α:Type) (l m:List α),(l++m).length=l.length+m.length)∧(∀(α:Type) (x:α) (l:List α),(x :: l).length=l.length+1)∧(∀(α:Type),([]:List α).length=0)∧(∀(α:Type) (l:List α) (i:Nat) (x:α),(l.set i x).length=l.length)∧
  (∀(α:Type) (l:List α) (i:Nat),(l.take i).length=min i l.length)∧(∀(α:Type) (l:List α) (i:Nat),(l.drop i).length=l.length - i)∧
  (∀c,CF c↔(wt c≤350∧1≤c.Id∧c.Id≤9∧1≤c.Psk.length∧c.Psk.length≤32∧0≤c.At.Host∧c.At.Host≤4294967295∧0≤c.At.Port∧c.At.Port≤65535))∧
  (∀s,SF s↔(wt s≤3300∧s.T.L.length≤12∧s.Psks.length≤9∧s.J.Secret.length=32))∧(∀w,TW w↔(w.Clients.length=2∧gR w.Clients 0=1∧gR w.Clients 1=2))∧(∀c,zi8 c↔(0≤c.i∧c.i≤c.b.length∧c.b.length≤1048576)):=by
 refine⟨λx=>?_,λx=>?_,λx=>?_,λx=>?_,λx=>?_,λx=>?_,λx=>?_,λx=>?_,λx=>?_,λx=>?_,λx=>?_,λx=>?_,λx=>?_,λx=>?_,λx=>?_,λx=>?_,λx=>?_,λx=>?_,λx=>?_,
  true_and,and_true,λ_=>rfl,λ_=>rfl,λ_=>rfl,LA,sN,λ_ _=>iP,λ_ _=>HD,λ_ _=>eG,λ_ _ _=>List.length_append,λ_ _ _=>List.length_cons,λ_=>List.length_nil,λ_ _ _ _=>List.length_set,λ_ _ _=>List.length_take,λ_ _ _=>List.length_drop,
  λ_=>Iff.rfl,λ_=>Iff.rfl,λ_=>Iff.rfl,λ_=>Iff.rfl⟩
 ·rw[vP,bF,AS,AS];omega
 ·rw[XH,LA,LA]
 ·rw[IN,LA]
 ·rw[xT,sN]
 ·rw[gH,LA,LA,LA,LA,LA,LA]
 ·rw[oQ,LA,LA,LA,LA,bF];omega
 ·rw[AL,LA,LA]
 ·rw[zbl,bF];omega
 ·rw[zb1,bF,LA];omega
 ·rw[iI]
 ·rw[dP]
 ·rw[BT,LA]
 ·rw[TH,LA]
 ·rfl
 ·rw[zbU,bF,bF,LA];omega
 ·rw[IS]
 ·rw[zjw,LA]
 ·rw[zgZ,LA]
 ·rw[zi1,bF];omega
def B:(∀b:Bool,((!b)=true)=(b=false))∧(∀b:Bool,((!b)=false)=(b=true))∧(∀(p:Prop) [Decidable p],(decide p=true)=p)∧(∀(p:Prop) [Decidable p],(decide p=false)=¬p)∧
  (∀(α:Type) [BEq α] [LawfulBEq α] (a b:α),((a==b)=true)=(a=b))∧(∀(α:Type) [BEq α] [LawfulBEq α] (a b:α),((a==b)=false)=¬(a=b))∧
  (∀(α:Type) [BEq α] [LawfulBEq α] (a b:α),((a !=b)=true)=¬(a=b))∧(∀(α:Type) [BEq α] [LawfulBEq α] (a b:α),((a !=b)=false)=(a=b))∧
  (∀x a b:Int,(oA x a b=true)=(a≤x∧x≤b))∧(∀x a b:Int,(oA x a b=false)=¬(a≤x∧x≤b))∧(∀a b:Bool,((a&&b)=true)=(a=true∧b=true))∧(∀a b:Bool,((a||b)=true)=(a=true∨b=true)):=by
 refine⟨λb=>by cases b<;>simp,λb=>by cases b<;>simp,λp _=>by simp,λp _=>by simp,λ_ _ _ a b=>by simp,λ_ _ _ a b=>by simp,λ_ _ _ a b=>by simp,λ_ _ _ a b=>by simp,
  λx a b=>propext zaK,λx a b=>propext zgi,λa b=>by simp,λa b=>by simp⟩
end Go.D
namespace Go.D
namespace Ok
variable {α β σ:Type} {P:β→Prop}
def s{x:α}{P:α→Prop}(h:P x):Ok (some x) P:=⟨x,rfl,h⟩
def x{P:α→Prop}(h:False):Ok (none:Option α) P:=h.elim
def c{b:Bool}{x y:Option β}(h1:b=true→Ok x P)(h2:b=false→Ok y P):Ok (cond b x y) P:=Ok.cond' h1 h2
def b{o:Option α}{P:α→Prop}{Q:β→Prop}{f:α→Option β}(h:Ok o P)(k:∀r,P r→Ok (f r) Q):Ok (Option.bind o f) Q:=Ok.bind h k
def g{γ:Type}[Wt α][Wt γ]{l:List α}{m:List γ}{x:Option β}(h:wt l+wt m≤eA)(k:Ok x P):Ok (cond (decide (l.length+m.length≤eA)) x none) P:=Ok.guard h k
def e[Wt α]{l:List α}{x:Option β}(h:wt l≤eA)(k:Ok x P):Ok (cond (Nat.ble l.length eA) x none) P:=Ok.ble h k
def h{b:Bool}{x:Option β}(h:b=true)(k:Ok x P):Ok (cond b x none) P:=Ok.chk h k
def n{b:Bool}{x:Option β}(h:b=false)(k:Ok x P):Ok (cond b none x) P:=Ok.chkn h k
def j{F:α→Option β}{G:(α→Option β)→Option β}(Q:α→Prop)(h1:∀y,Q y→Ok (F y) P)(h2:∀k:α→Option β,(∀y,Q y→Ok (k y) P)→Ok (G k) P):Ok (fA F G) P:=h2 F h1
def m{o:Option α}{a:α}{f:α→Option β}(h:o=some a)(k:Ok (f a) P):Ok (Option.bind o f) P:=Ok.same h k
def l{f:σ→(σ→Option β)→Option β}{x:σ}(inv:σ→Prop)(μ:σ→Nat)(h:∀x,inv x→∀k:σ→Option β,(∀y,inv y→μ y<μ x→Ok (k y) P)→Ok (f x k) P)(hx:inv x)(hμ:μ x<2^64):Ok (yA FU f x) P:=Ok.loop inv μ h hx hμ
end Ok
def nt{b:Bool}(h:(!b)=true):b=false:=by simpa using h
end Go.D

/-
 Sizes of the program's data.
-/
import Derived.Test.YtkpkommmdacjlaaGreatN9
set_option linter.all false
namespace Go.D
end Go.D
namespace Go.D
noncomputable def YM(e:As)(_:Bool):Option As:=pt (wt e≤nA) e
end Go.D
namespace Go.D
open Option renaming bind→ob
noncomputable section
def Di(a0:Ap):=
 cond (decide (([]:List Int).length+a0.Bits.length≤nA)) (some (⟨a0.Top,[]++a0.Bits⟩:Ap)) none
def Dj(a0:As):=
 cond (decide (([]:List UInt8).length+a0.Key.length≤nA)) (ob (eA a0.Win) λr1=>
 some (⟨a0.N,[]++a0.Key,a0.Seq,r1⟩:As)) none
def Dk(a0:As)(a1:Bool):=
 cond (!a1)
 (cond (decide (([]:List UInt8).length+a0.Key.length≤nA)) (cond (decide (([]:List Int).length+a0.Win.Bits.length≤nA)) (some (⟨a0.N,[]++a0.Key,a0.Seq,(⟨a0.Win.Top,[]++a0.Win.Bits⟩:Ap)⟩:As)) none) none)
 (ob (eA a0) λr1=>
 some r1)
def Dl(a0:Al):=
 cond (decide (([]:List UInt8).length+a0.Sn.length≤nA)) (ob (eA a0.Cur) λr1=>
 ob (YM a0.Old a0.HasOld) λr2=>
 cond (decide (([]:List UInt8).length+a0.Next.length≤nA)) (some (⟨a0.Role,[]++a0.Sn,r1,r2,a0.HasOld,a0.Until,[]++a0.Next⟩:Al)) none) none
def Dm(a0:Ah):=
 DA (λ(y1:Ah)=>
 some y1) λk2=>
 KA FU (λ(x3:Int×Ah) k4=>
 cond (decide (x3.1<(a0.Cands.length:Int)))
 (ob (NA a0.Cands x3.1) λe5=>
 ob (iM e5) λr6=>
 cond (decide (x3.2.Cands.length+[r6].length≤nA)) (k4 ((PA .i64 x3.1 1),(⟨x3.2.At,x3.2.Cands++[r6]⟩:Ah))) none)
 (k2 x3.2)) (0,(⟨a0.At,[]⟩:Ah))
def Dn(a0:Ag):=
 cond (decide (([]:List UInt8).length+a0.Cn.length≤nA)) (cond (decide (([]:List UInt8).length+a0.Sn.length≤nA)) (ob (eA a0.C) λr1=>
 ob (eA a0.P) λr2=>
 some (⟨a0.Id,[]++a0.Cn,[]++a0.Sn,r1,r2,a0.Tick,a0.Last,a0.Dead⟩:Ag)) none) none
def Do(a0:Am):=
 DA (λ(y1:Am)=>
 some y1) λk2=>
 KA FU (λ(x3:Int×Am) k4=>
 cond (decide (x3.1<(a0.L.length:Int)))
 (ob (NA a0.L x3.1) λe5=>
 ob (eA e5) λr6=>
 cond (decide (x3.2.L.length+[r6].length≤nA)) (k4 ((PA .i64 x3.1 1),(⟨x3.2.Cap,x3.2.L++[r6]⟩:Am))) none)
 (k2 x3.2)) (0,(⟨a0.Cap,[]⟩:Am))
def Dp(a0:Ad):=
 cond (decide (([]:List UInt8).length+a0.J.Secret.length≤nA)) (ob (UI a0.D) λr1=>
 ob (eA a0.T) λr2=>
 cond (decide (([]:List Af).length+a0.Cr.length≤nA)) (DA (λ(y3:Ad)=>
 some y3) λk4=>
 KA FU (λ(x5:Int×Ad) k6=>
 cond (decide (x5.1<(a0.Psks.length:Int)))
 (ob (NA a0.Psks x5.1) λe7=>
 cond (decide (([]:List UInt8).length+e7.length≤nA)) (cond (decide (x5.2.Psks.length+[[]++e7].length≤nA)) (k6 ((PA .i64 x5.1 1),(⟨x5.2.Psks++[[]++e7],x5.2.J,x5.2.D,x5.2.T,x5.2.Cr⟩:Ad))) none) none)
 (k4 x5.2)) (0,(⟨[],(⟨[]++a0.J.Secret⟩:Ao),r1,r2,[]++a0.Cr⟩:Ad))) none) none
def Dq(a0:List Ab):=
 DA (λ(y1:(List Ab))=>
 some y1) λk2=>
 KA FU (λ(x3:(List Ab)×Int) k4=>
 cond (decide (x3.2<(a0.length:Int)))
 (ob (NA a0 x3.2) λe5=>
 ob (NA a0 x3.2) λe6=>
 ob (NA a0 x3.2) λe7=>
 cond (decide (([]:List UInt8).length+e7.B.length≤nA)) (cond (decide (x3.1.length+[(⟨e5.From,e6.To,[]++e7.B⟩:Ab)].length≤nA)) (k4 ((x3.1++[(⟨e5.From,e6.To,[]++e7.B⟩:Ab)]),(PA .i64 x3.2 1))) none) none)
 (k2 x3.1)) ([],0)
def Dr(a0:Ae):=
 cond (decide (([]:List UInt8).length+a0.Cn.length≤nA)) (cond (decide (([]:List UInt8).length+a0.Sn.length≤nA)) (cond (decide (([]:List UInt8).length+a0.Body.length≤nA)) (cond (decide (([]:List UInt8).length+a0.Key.length≤nA)) (some (⟨a0.Kind,a0.Id,a0.Role,[]++a0.Cn,[]++a0.Sn,a0.Epoch,a0.Seq,[]++a0.Body,[]++a0.Key,a0.A,a0.Now⟩:Ae)) none) none) none) none
def Ds(a0:List Ae):=
 DA (λ(y1:(List Ae))=>
 some y1) λk2=>
 KA FU (λ(x3:(List Ae)×Int) k4=>
 cond (decide (x3.2<(a0.length:Int)))
 (ob (NA a0 x3.2) λe5=>
 ob (eA e5) λr6=>
 cond (decide (x3.1.length+[r6].length≤nA)) (k4 ((x3.1++[r6]),(PA .i64 x3.2 1))) none)
 (k2 x3.1)) ([],0)
def Dt(a0:Ai):=
 cond (decide (([]:List UInt8).length+a0.Cn.length≤nA)) (cond (decide (([]:List UInt8).length+a0.Sn.length≤nA)) (cond (decide (([]:List UInt8).length+a0.Cookie.length≤nA)) (cond (decide (([]:List UInt8).length+a0.Proof.length≤nA)) (cond (decide (([]:List UInt8).length+a0.Body.length≤nA)) (cond (decide (([]:List UInt8).length+a0.Tag.length≤nA)) (some (⟨a0.Kind,a0.Id,[]++a0.Cn,[]++a0.Sn,a0.Tick,[]++a0.Cookie,[]++a0.Proof,a0.Epoch,a0.Seq,[]++a0.Body,[]++a0.Tag⟩:Ai)) none) none) none) none) none) none
def Du(a0:Ac):=
 cond (decide (([]:List UInt8).length+a0.Psk.length≤nA)) (cond (decide (([]:List UInt8).length+a0.Cn.length≤nA)) (ob (eA a0.Fin) λr1=>
 ob (eA a0.C) λr2=>
 some (⟨a0.Id,[]++a0.Psk,a0.At,a0.St,[]++a0.Cn,r1,r2,a0.T,a0.R,a0.Last⟩:Ac)) none) none
def Dv(a0:Aa):=
 ob (eA a0.S) λr1=>
 ob (UI a0.D) λr2=>
 ob (eA a0.Seen) λr3=>
 ob (eA a0.Notes) λr4=>
 DA (λ(y5:Aa)=>
 DA (λ(y11:Aa)=>
 some y11) λk12=>
 KA FU (λ(x13:Int×Aa) SK=>
 cond (decide (x13.1<(a0.Known.length:Int)))
 (ob (NA a0.Known x13.1) λe15=>
 cond (decide (([]:List UInt8).length+e15.length≤nA)) (cond (decide (x13.2.Known.length+[[]++e15].length≤nA)) (SK ((PA .i64 x13.1 1),(⟨x13.2.Now,x13.2.Clients,x13.2.S,x13.2.D,x13.2.Seen,x13.2.Known++[[]++e15],x13.2.Notes⟩:Aa))) none) none)
 (k12 x13.2)) (0,y5)) λk6=>
 KA FU (λ(x7:Int×Aa) k8=>
 cond (decide (x7.1<(a0.Clients.length:Int)))
 (ob (NA a0.Clients x7.1) λe9=>
 ob (eA e9) λr10=>
 cond (decide (x7.2.Clients.length+[r10].length≤nA)) (k8 ((PA .i64 x7.1 1),(⟨x7.2.Now,x7.2.Clients++[r10],x7.2.S,x7.2.D,x7.2.Seen,x7.2.Known,x7.2.Notes⟩:Aa))) none)
 (k6 x7.2)) (0,(⟨a0.Now,[],r1,r2,r3,[],r4⟩:Aa))
end
end Go.D
namespace Go.D
end Go.D
namespace Go.D
def rF{α σ R:Type}[Wt α](l:List α)(hl:wt l≤nA)(st:Int→List α→σ)(K:List α→Option R){f:σ→(σ→Option R)→Option R}
  (hf:∀(i:Nat) (hi:i<l.length) (acc:List α) (k:σ→Option R),f (st (i:Int) acc) k=cond (decide (acc.length+1≤nA)) (k (st (PA .i64 (i:Int) 1) (acc++[l[i]]))) none)
  (hz:∀(acc:List α) (k:σ→Option R),f (st (l.length:Int) acc) k=K acc):KA FU f (st 0 [])=K l:=by
 have hL:=iH;have S2:=SD l
 have key:∀(n i:Nat),i≤l.length→l.length - i<n→KA n f (st (i:Int) (l.take i))=K l:=by
  intro n;induction n with
  | zero=>intro i _ h;omega
  | succ n ih=>
   intro i hi hn;show f (st (i:Int) (l.take i)) (KA n f)=K l
   rcases Nat.lt_or_ge i l.length with h | h
   ·rw[hf i h]
    have h1:decide ((l.take i).length+1≤nA)=true:=by
     rw[List.length_take];simp;omega
    rw[h1,cond_true];have h2:PA .i64 (i:Int) 1=((i+1:Nat):Int):=nG i (by rw[PQ];omega);rw[h2,List.take_append_getElem h];exact ih (i+1) h (by omega)
   ·have:i=l.length:=by omega
    subst this;rw[hz,List.take_length]
 rw[vP];exact key _ 0 (Nat.zero_le _) (by omega)
def kC{α β:Type}{l:List α}{x:Option β}(h:l.length≤nA):cond (decide (([]:List α).length+l.length≤nA)) x none=x:=by
 rw[decide_eq_true (by simpa using h)];rfl
def XD{α β:Type}[Wt α]{a:α}{f:α→Option β}(h:wt a≤nA):Option.bind (eA a) f=f a:=IA h
def XP(x:Ap)(h:wt x≤nA):Di x=some x:=by
 rw[ZF,zK]at h;unfold Di;rw[kC h];rfl
def dV(x:As)(h:wt x≤nA):Dj x=some x:=by
 rw[YE,jB]at h;unfold Dj;rw[kC (by omega),XD (by omega)];rfl
def zae(x:As)(b:Bool)(h:wt x≤nA):Dk x b=some x:=by
 unfold Dk;rw[XD h];rw[YE,ZF,zK,jB]at h;rw[kC (by omega),kC (by omega)];cases b<;>rfl
def SU(x:Al)(h:wt x≤nA):Dl x=some x:=by
 rw[tE,jB,jB]at h;unfold Dl;rw[kC (by omega),XD (by omega),YM,IA (by omega),kC (by omega)];rfl
def QU(x:Ah)(h:wt x≤nA):Dm x=some x:=by
 have hw:wt x=wt x.Cands:=by rw[oG,sB];omega
 rw[hw]at h;unfold Dm;simp only[DA];refine rF x.Cands h (λi acc=>(i,(⟨x.At,acc⟩:Ah))) (λacc=>some (⟨x.At,acc⟩:Ah)) (λi hi acc k=>?_) (λacc k=>?_)
 ·have TV:((i:Int)<(x.Cands.length:Int)):=by omega
  have hm:=vE hi;simp only[decide_eq_true TV,cond_true,bD hi,WB];rw[iM,IA (by omega)];rfl
 ·have TV:¬((x.Cands.length:Int)<(x.Cands.length:Int)):=by omega
  simp only[decide_eq_false TV,cond_false]
def NU(x:Ag)(h:wt x≤nA):Dn x=some x:=by
 rw[PE,jB,jB]at h;unfold Dn;rw[kC (by omega),kC (by omega),XD (by omega),XD (by omega)];rfl
def VP(x:Am)(h:wt x≤nA):Do x=some x:=by
 rw[gH]at h;unfold Do;simp only[DA];refine rF x.L h (λi acc=>(i,(⟨x.Cap,acc⟩:Am))) (λacc=>some (⟨x.Cap,acc⟩:Am)) (λi hi acc k=>?_) (λacc k=>?_)
 ·have TV:((i:Int)<(x.L.length:Int)):=by omega
  have hm:=vE hi;simp only[decide_eq_true TV,cond_true,bD hi,WB];rw[XD (by omega)];rfl
 ·have TV:¬((x.L.length:Int)<(x.L.length:Int)):=by omega
  simp only[decide_eq_false TV,cond_false]
def JU(x:Ad)(h:wt x≤nA):Dp x=some x:=by
 rw[qE,BG,jB]at h;have hc:=SD x.Cr;unfold Dp;rw[kC (by omega),UI,IA (by omega),XD (by omega),kC (by omega)];simp only[DA];refine rF x.Psks (by omega) (λi acc=>(i,(⟨acc,(⟨[]++x.J.Secret⟩:Ao),x.D,x.T,[]++x.Cr⟩:Ad))) (λacc=>some (⟨acc,(⟨[]++x.J.Secret⟩:Ao),x.D,x.T,[]++x.Cr⟩:Ad)) (λi hi acc k=>?_) (λacc k=>?_)
 ·have TV:((i:Int)<(x.Psks.length:Int)):=by omega
  have hm:=vE hi;rw[jB]at hm;simp only[decide_eq_true TV,cond_true,bD hi,WB];rw[kC (by omega)];rfl
 ·have TV:¬((x.Psks.length:Int)<(x.Psks.length:Int)):=by omega
  simp only[decide_eq_false TV,cond_false]
def ZU(x:List Ab)(h:wt x≤nA):Dq x=some x:=by
 unfold Dq;simp only[DA];refine rF x h (λi acc=>(acc,i)) (λacc=>some acc) (λi hi acc k=>?_) (λacc k=>?_)
 ·have TV:((i:Int)<(x.length:Int)):=by omega
  have hm:=vE hi;rw[RF,jB]at hm;simp only[decide_eq_true TV,cond_true,bD hi,WB];rw[kC (by omega)];rfl
 ·have TV:¬((x.length:Int)<(x.length:Int)):=by omega
  simp only[decide_eq_false TV,cond_false]
def WU(x:Ae)(h:wt x≤nA):Dr x=some x:=by
 rw[QE,jB,jB,jB,jB]at h;unfold Dr;rw[kC (by omega),kC (by omega),kC (by omega),kC (by omega)];rfl
def YP(x:List Ae)(h:wt x≤nA):Ds x=some x:=by
 unfold Ds;simp only[DA];refine rF x h (λi acc=>(acc,i)) (λacc=>some acc) (λi hi acc k=>?_) (λacc k=>?_)
 ·have TV:((i:Int)<(x.length:Int)):=by omega
  have hm:=vE hi;simp only[decide_eq_true TV,cond_true,bD hi,WB];rw[XD (by omega)];rfl
 ·have TV:¬((x.length:Int)<(x.length:Int)):=by omega
  simp only[decide_eq_false TV,cond_false]
def cV(x:Ai)(h:wt x≤nA):Dt x=some x:=by
 rw[dE,jB,jB,jB,jB,jB,jB]at h;unfold Dt;rw[kC (by omega),kC (by omega),kC (by omega),kC (by omega),kC (by omega),kC (by omega)];rfl
def UU(x:Ac)(h:wt x≤nA):Du x=some x:=by
 rw[KE,jB,jB]at h;unfold Du;rw[kC (by omega),kC (by omega),XD (by omega),XD (by omega)];rfl
def XU(x:Aa)(h:wt x≤nA):Dv x=some x:=by
 rw[xD]at h;unfold Dv;rw[XD (by omega),UI,IA (by omega),XD (by omega),XD (by omega)]
 have key2:∀w:Aa,w.Known=[]→KA FU (λ(x13:Int×Aa) SK=>
   cond (decide (x13.1<(x.Known.length:Int)))
   (Option.bind (NA x.Known x13.1) λe15=>
   cond (decide (([]:List UInt8).length+e15.length≤nA)) (cond (decide (x13.2.Known.length+[[]++e15].length≤nA)) (SK ((PA .i64 x13.1 1),(⟨x13.2.Now,x13.2.Clients,x13.2.S,x13.2.D,x13.2.Seen,x13.2.Known++[[]++e15],x13.2.Notes⟩:Aa))) none) none)
   (some x13.2)) (0,w)=some (⟨w.Now,w.Clients,w.S,w.D,w.Seen,x.Known,w.Notes⟩:Aa):=λw hw=>by
  obtain⟨w1,w2,w3,w4,w5,w6,w7⟩:=w;cases hw;refine rF x.Known (by omega) (λi acc=>(i,(⟨w1,w2,w3,w4,w5,acc,w7⟩:Aa))) (λacc=>some (⟨w1,w2,w3,w4,w5,acc,w7⟩:Aa)) (λi hi acc k=>?_) (λacc k=>?_)
  ·have TV:((i:Int)<(x.Known.length:Int)):=by omega
   have hm:=vE hi;rw[jB]at hm;simp only[decide_eq_true TV,cond_true,bD hi,WB];rw[kC (by omega)];rfl
  ·have TV:¬((x.Known.length:Int)<(x.Known.length:Int)):=by omega
   simp only[decide_eq_false TV,cond_false]
 simp only[DA];refine rF x.Clients (by omega) (λi acc=>(i,(⟨x.Now,acc,x.S,x.D,x.Seen,[],x.Notes⟩:Aa))) (λacc=>some (⟨x.Now,acc,x.S,x.D,x.Seen,x.Known,x.Notes⟩:Aa)) (λi hi acc k=>?_) (λacc k=>?_)
 ·have TV:((i:Int)<(x.Clients.length:Int)):=by omega
  have hm:=vE hi;simp only[decide_eq_true TV,cond_true,bD hi,WB];rw[XD (by omega)];rfl
 ·have TV:¬((x.Clients.length:Int)<(x.Clients.length:Int)):=by omega
  simp only[decide_eq_false TV,cond_false];exact key2 _ rfl
def kI.ok{x}(_:rA [.v .Win] x){r}:eA (α:=Ap) x=some r→Di x=some r:=CA λh=>XP x h
def jI.ok{x}(_:rA [.v .Ep] x){r}:eA (α:=As) x=some r→Dj x=some r:=CA λh=>dV x h
def bI.ok{x}(_:rA [.v .Chan] x){r}:eA (α:=Al) x=some r→Dl x=some r:=CA λh=>SU x h
def UH.ok{x}(_:rA [.v .Paths] x){r}:eA (α:=Ah) x=some r→Dm x=some r:=CA λh=>QU x h
def VH.ok{x}(_:rA [.v .Sess] x){r}:eA (α:=Ag) x=some r→Dn x=some r:=CA λh=>NU x h
def IH.ok{x}(_:rA [.v .Tab] x){r}:eA (α:=Am) x=some r→Do x=some r:=CA λh=>VP x h
def QH.ok{x}(_:rA [.v .Server] x){r}:eA (α:=Ad) x=some r→Dp x=some r:=CA λh=>JU x h
def KH.ok{x}(_:rA [.sl .Wire] x){r}:eA (α:=List Ab) x=some r→Dq x=some r:=CA λh=>ZU x h
def aI.ok{x}(_:rA [.v .Note] x){r}:eA (α:=Ae) x=some r→Dr x=some r:=CA λh=>WU x h
def AI.ok{x}(_:rA [.sl .Note] x){r}:eA (α:=List Ae) x=some r→Ds x=some r:=CA λh=>YP x h
def mI.ok{x}(_:rA [.v .Frame] x){r}:eA (α:=Ai) x=some r→Dt x=some r:=CA λh=>cV x h
def MH.ok{x}(_:rA [.v .Client] x){r}:eA (α:=Ac) x=some r→Du x=some r:=CA λh=>UU x h
def OH.ok{x}(_:rA [.v .World] x){r}:eA (α:=Aa) x=some r→Dv x=some r:=CA λh=>XU x h
def II.ok{x}(_:rA [.v .Ep, .v .bool] x){r}:YM x.1 x.2=some r→Dk x.1 x.2=some r:=CA λh=>zae x.1 x.2 h
end Go.D
namespace Go.D
instance:Wt Ba:=⟨λx=>wt x.To+wt x.F⟩
def zen(x:Ba):wt x=wt x.To+wt x.F:=rfl
instance:Wt Nat:=⟨λ_=>0⟩
def Ok.guard{α γ β:Type}[Wt α][Wt γ]{l:List α}{m:List γ}{x:Option β}{P:β→Prop}(h:wt l+wt m≤nA)(k:Ok x P):Ok (cond (decide (l.length+m.length≤nA)) x none) P:=by
 have h1:=SD l;have h2:=SD m;rw[decide_eq_true (by omega)];exact k
def Ok.ble{α β:Type}[Wt α]{l:List α}{x:Option β}{P:β→Prop}(h:wt l≤nA)(k:Ok x P):Ok (cond (Nat.ble l.length nA) x none) P:=by
 have h1:=SD l;rw[Nat.ble_eq_true_of_le (by omega)];exact k
def Ok.chk{β:Type}{b:Bool}{x:Option β}{P:β→Prop}(h:b=true)(k:Ok x P):Ok (cond b x none) P:=by rw[h];exact k
def Ok.chkn{β:Type}{b:Bool}{x:Option β}{P:β→Prop}(h:b=false)(k:Ok x P):Ok (cond b none x) P:=by rw[h];exact k
def Ok.get{α:Type}{l:List α}{i:Nat}(h:i<l.length):Ok (l[i]?) λx=>l[i]?=some x:=⟨l[i],List.getElem?_eq_getElem h,List.getElem?_eq_getElem h⟩
def Ok.same{α β:Type}{o:Option α}{a:α}{f:α→Option β}{P:β→Prop}(h:o=some a)(k:Ok (f a) P):Ok (Option.bind o f) P:=by rw[h];exact k
def uR{x a b:Int}:YC x a b=true↔a≤x∧x≤b:=by simp[YC]
def zbV{x a b:Int}:YC x a b=false↔¬(a≤x∧x≤b):=by rw[←Bool.not_eq_true,uR]
def SF(s:Ad):Prop:=wt s≤3300∧s.T.L.length≤12∧s.Psks.length≤9∧s.J.Secret.length=32
def CF(c:Ac):Prop:=wt c≤350∧1≤c.Id∧c.Id≤9∧1≤c.Psk.length∧c.Psk.length≤32∧0≤c.At.Host∧c.At.Host≤4294967295∧0≤c.At.Port∧c.At.Port≤65535
def zN(l:List Ac)(i:Nat):Int:=match l[i]? with
 | some c=>c.Id
 | none=>0
def TW(w:Aa):Prop:=w.Clients.length=2∧zN w.Clients 0=1∧zN w.Clients 1=2
def N:(∀x:Ac,wt x=wt x.Psk+wt x.Cn+wt x.Fin+wt x.C)∧(∀x:Al,wt x=x.Sn.length+wt x.Cur+wt x.Old+x.Next.length)∧(∀x:As,wt x=x.Key.length+wt x.Win)∧(∀x:Ap,wt x=x.Bits.length)∧
  (∀x:Ai,wt x=x.Cn.length+x.Sn.length+x.Cookie.length+x.Proof.length+x.Body.length+x.Tag.length)∧(∀x:Ae,wt x=x.Cn.length+x.Sn.length+x.Body.length+x.Key.length)∧
  (∀x:Ag,wt x=x.Cn.length+x.Sn.length+wt x.C+wt x.P)∧(∀x:Ah,wt x=wt x.Cands)∧(∀x:Aj,wt x=x.Draw.length)∧(∀x:Am,wt x=wt x.L)∧
  (∀x:Ad,wt x=wt x.Psks+wt x.J+wt x.D+wt x.T+wt x.Cr)∧(∀x:Ao,wt x=x.Secret.length)∧(∀x:Ak,wt x=x.Seed.length)∧(∀x:Af,wt x=0)∧(∀x:Ab,wt x=x.B.length)∧
  (∀x:Aa,wt x=wt x.Clients+wt x.S+wt x.D+wt x.Seen+wt x.Known+wt x.Notes)∧(∀x:Ee,wt x=x.B.length)∧(∀x:Au,wt x=x.B.length+wt x.Ops)∧(∀x:Ba,wt x=wt x.F)∧
  (∀p:Prop,(True∧p)=p)∧(∀p:Prop,(p∧True)=p)∧(∀x:UInt8,wt x=0)∧(∀x:Int,wt x=0)∧(∀x:Nat,wt x=0)∧(∀x:List UInt8,wt x=x.length)∧(∀x:List Int,wt x=x.length)∧(∀(α:Type) [Wt α] (l m:List α),wt (l++m)=wt l+wt m)∧(∀(α:Type) [Wt α] (x:α) (l:List α),wt (x :: l)=wt x+wt l+1)∧(∀(α:Type) [Wt α],wt ([]:List α)=0)∧
  (∀(α:Type) (l m:List α),(l++m).length=l.length+m.length)∧(∀(α:Type) (x:α) (l:List α),(x :: l).length=l.length+1)∧(∀(α:Type),([]:List α).length=0)∧(∀(α:Type) (l:List α) (i:Nat) (x:α),(l.set i x).length=l.length)∧
  (∀(α:Type) (l:List α) (i:Nat),(l.take i).length=min i l.length)∧(∀(α:Type) (l:List α) (i:Nat),(l.drop i).length=l.length - i)∧
  (∀c,CF c↔(wt c≤350∧1≤c.Id∧c.Id≤9∧1≤c.Psk.length∧c.Psk.length≤32∧0≤c.At.Host∧c.At.Host≤4294967295∧0≤c.At.Port∧c.At.Port≤65535))∧
  (∀s,SF s↔(wt s≤3300∧s.T.L.length≤12∧s.Psks.length≤9∧s.J.Secret.length=32))∧(∀w,TW w↔(w.Clients.length=2∧zN w.Clients 0=1∧zN w.Clients 1=2))∧(∀c,zeq c↔(0≤c.i∧c.i≤c.b.length∧c.b.length≤1048576)):=by
 refine⟨λx=>?_,λx=>?_,λx=>?_,λx=>?_,λx=>?_,λx=>?_,λx=>?_,λx=>?_,λx=>?_,λx=>?_,λx=>?_,λx=>?_,λx=>?_,λx=>?_,λx=>?_,λx=>?_,λx=>?_,λx=>?_,λx=>?_,
  true_and,and_true,λ_=>rfl,λ_=>rfl,λ_=>rfl,jB,zK,λ_ _=>dM,λ_ _=>sE,λ_ _=>CK,λ_ _ _=>List.length_append,λ_ _ _=>List.length_cons,λ_=>List.length_nil,λ_ _ _ _=>List.length_set,λ_ _ _=>List.length_take,λ_ _ _=>List.length_drop,
  λ_=>Iff.rfl,λ_=>Iff.rfl,λ_=>Iff.rfl,λ_=>Iff.rfl⟩
 ·rw[KE,sB,HD,HD];omega
 ·rw[tE,jB,jB]
 ·rw[YE,jB]
 ·rw[ZF,zK]
 ·rw[dE,jB,jB,jB,jB,jB,jB]
 ·rw[QE,jB,jB,jB,jB,sB];omega
 ·rw[PE,jB,jB]
 ·rw[oG,sB];omega
 ·rw[uG,sB,jB];omega
 ·rw[gH]
 ·rw[qE]
 ·rw[BG,jB]
 ·rw[LF,jB]
 ·rfl
 ·rw[RF,sB,sB,jB];omega
 ·rw[xD]
 ·rw[zeI,jB]
 ·rw[zcE,jB]
 ·rw[zen,sB];omega
def B:(∀b:Bool,((!b)=true)=(b=false))∧(∀b:Bool,((!b)=false)=(b=true))∧(∀(p:Prop) [Decidable p],(decide p=true)=p)∧(∀(p:Prop) [Decidable p],(decide p=false)=¬p)∧
  (∀(α:Type) [BEq α] [LawfulBEq α] (a b:α),((a==b)=true)=(a=b))∧(∀(α:Type) [BEq α] [LawfulBEq α] (a b:α),((a==b)=false)=¬(a=b))∧
  (∀(α:Type) [BEq α] [LawfulBEq α] (a b:α),((a !=b)=true)=¬(a=b))∧(∀(α:Type) [BEq α] [LawfulBEq α] (a b:α),((a !=b)=false)=(a=b))∧
  (∀x a b:Int,(YC x a b=true)=(a≤x∧x≤b))∧(∀x a b:Int,(YC x a b=false)=¬(a≤x∧x≤b))∧(∀a b:Bool,((a&&b)=true)=(a=true∧b=true))∧(∀a b:Bool,((a||b)=true)=(a=true∨b=true)):=by
 refine⟨λb=>by cases b<;>simp,λb=>by cases b<;>simp,λp _=>by simp,λp _=>by simp,λ_ _ _ a b=>by simp,λ_ _ _ a b=>by simp,λ_ _ _ a b=>by simp,λ_ _ _ a b=>by simp,
  λx a b=>propext uR,λx a b=>propext zbV,λa b=>by simp,λa b=>by simp⟩
end Go.D
namespace Go.D
namespace Ok
variable {α β σ:Type} {P:β→Prop}
def s{x:α}{P:α→Prop}(h:P x):Ok (some x) P:=⟨x,rfl,h⟩
def x{P:α→Prop}(h:False):Ok (none:Option α) P:=h.elim
def c{b:Bool}{x y:Option β}(h1:b=true→Ok x P)(h2:b=false→Ok y P):Ok (cond b x y) P:=Ok.cond' h1 h2
def b{o:Option α}{P:α→Prop}{Q:β→Prop}{f:α→Option β}(h:Ok o P)(k:∀r,P r→Ok (f r) Q):Ok (Option.bind o f) Q:=Ok.bind h k
def g{γ:Type}[Wt α][Wt γ]{l:List α}{m:List γ}{x:Option β}(h:wt l+wt m≤nA)(k:Ok x P):Ok (cond (decide (l.length+m.length≤nA)) x none) P:=Ok.guard h k
def e[Wt α]{l:List α}{x:Option β}(h:wt l≤nA)(k:Ok x P):Ok (cond (Nat.ble l.length nA) x none) P:=Ok.ble h k
def h{b:Bool}{x:Option β}(h:b=true)(k:Ok x P):Ok (cond b x none) P:=Ok.chk h k
def n{b:Bool}{x:Option β}(h:b=false)(k:Ok x P):Ok (cond b none x) P:=Ok.chkn h k
def j{F:α→Option β}{G:(α→Option β)→Option β}(Q:α→Prop)(h1:∀y,Q y→Ok (F y) P)(h2:∀k:α→Option β,(∀y,Q y→Ok (k y) P)→Ok (G k) P):Ok (DA F G) P:=h2 F h1
def m{o:Option α}{a:α}{f:α→Option β}(h:o=some a)(k:Ok (f a) P):Ok (Option.bind o f) P:=Ok.same h k
def l{f:σ→(σ→Option β)→Option β}{x:σ}(inv:σ→Prop)(μ:σ→Nat)(h:∀x,inv x→∀k:σ→Option β,(∀y,inv y→μ y<μ x→Ok (k y) P)→Ok (f x k) P)(hx:inv x)(hμ:μ x<2^64):Ok (KA FU f x) P:=Ok.loop inv μ h hx hμ
end Ok
def nt{b:Bool}(h:(!b)=true):b=false:=by simpa using h
end Go.D

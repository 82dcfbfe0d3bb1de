/-
 Sizes of the program's data.
-/
import Derived.Test.YtkpkommmdacjlaaGreatN10
set_option linter.all false
namespace Go.D
end Go.D
namespace Go.D
end Go.D
namespace Go.D
open Option renaming bind→ob
noncomputable section
def Gi(a0:Ap):=
 cond (decide (([]:List Int).length+a0.Bits.length≤nA)) (some (⟨a0.Top,[]++a0.Bits⟩:Ap)) none
def Eh(a0:As):=
 ob (wB a0.Key) λr1=>
 ob (eA a0.Win) λr2=>
 some (⟨a0.N,r1,a0.Seq,r2⟩:As)
def Ei(a0:Al):=
 ob (wB a0.Sn) λr1=>
 ob (wB a0.Next) λr2=>
 ob (eA a0.Cur) λr3=>
 ob (eA a0.Old) λr4=>
 some (⟨a0.Role,r1,r3,r4,a0.HasOld,a0.Until,r2⟩:Al)
def Dw(a0:Ah):=
 DA (λ(y1:Ah)=>
 some y1) λk2=>
 KA FU (λ(x3:Int×Ah) k4=>
 cond (decide (x3.1<(a0.Cands.length:Int)))
 (ob (NA a0.Cands x3.1) λe5=>
 ob (wB e5.Draw) λr6=>
 cond (decide (x3.2.Cands.length+[(⟨e5.A,r6,e5.Until⟩:Aj)].length≤nA)) (k4 ((PA .i64 x3.1 1),(⟨x3.2.At,x3.2.Cands++[(⟨e5.A,r6,e5.Until⟩:Aj)]⟩:Ah))) none)
 (k2 x3.2)) (0,(⟨a0.At,[]⟩:Ah))
def Ej(a0:Ag):=
 ob (wB a0.Cn) λr1=>
 ob (wB a0.Sn) λr2=>
 ob (eA a0.C) λr3=>
 ob (eA a0.P) λr4=>
 some (⟨a0.Id,r1,r2,r3,r4,a0.Tick,a0.Last,a0.Dead⟩:Ag)
def Gj(a0:Am):=
 DA (λ(y1:Am)=>
 some y1) λk2=>
 KA FU (λ(x3:Int×Am) k4=>
 cond (decide (x3.1<(a0.L.length:Int)))
 (ob (NA a0.L x3.1) λe5=>
 ob (eA e5) λr6=>
 cond (decide (x3.2.L.length+[r6].length≤nA)) (k4 ((PA .i64 x3.1 1),(⟨x3.2.Cap,x3.2.L++[r6]⟩:Am))) none)
 (k2 x3.2)) (0,(⟨a0.Cap,[]⟩:Am))
def Ek(a0:List Af):=
 cond (decide (([]:List Af).length+a0.length≤nA)) (some ([]++a0)) none
def Em(a0:Ad):=
 ob (VI a0.Psks) λr1=>
 ob (wB a0.J.Secret) λr2=>
 ob (wB a0.D.Seed) λr3=>
 ob (eA a0.T) λr4=>
 ob (eA a0.Cr) λr5=>
 some (⟨r1,(⟨r2⟩:Ao),(⟨r3,a0.D.N⟩:Ak),r4,r5⟩:Ad)
def En(a0:Ai):=
 ob (wB a0.Cn) λr1=>
 ob (wB a0.Sn) λr2=>
 ob (wB a0.Cookie) λr3=>
 ob (wB a0.Proof) λr4=>
 ob (wB a0.Body) λr5=>
 ob (wB a0.Tag) λr6=>
 some (⟨a0.Kind,a0.Id,r1,r2,a0.Tick,r3,r4,a0.Epoch,a0.Seq,r5,r6⟩:Ai)
def Eo(a0:Ac):=
 ob (wB a0.Psk) λr1=>
 ob (wB a0.Cn) λr2=>
 ob (eA a0.Fin) λr3=>
 ob (eA a0.C) λr4=>
 some (⟨a0.Id,r1,a0.At,a0.St,r2,r3,r4,a0.T,a0.R,a0.Last⟩:Ac)
def Dx(a0:List Ab):=
 DA (λ(y1:(List Ab))=>
 some y1) λk2=>
 KA FU (λ(x3:(List Ab)×Int) k4=>
 cond (decide (x3.2<(a0.length:Int)))
 (ob (NA a0 x3.2) λe5=>
 ob (wB e5.B) λr6=>
 cond (decide (x3.1.length+[(⟨e5.From,e5.To,r6⟩:Ab)].length≤nA)) (k4 ((x3.1++[(⟨e5.From,e5.To,r6⟩:Ab)]),(PA .i64 x3.2 1))) none)
 (k2 x3.1)) ([],0)
def Eq(a0:Ae):=
 ob (wB a0.Cn) λr1=>
 ob (wB a0.Sn) λr2=>
 ob (wB a0.Body) λr3=>
 ob (wB a0.Key) λr4=>
 some (⟨a0.Kind,a0.Id,a0.Role,r1,r2,a0.Epoch,a0.Seq,r3,r4,a0.A,a0.Now⟩:Ae)
def Gk(a0:List Ae):=
 DA (λ(y1:(List Ae))=>
 some y1) λk2=>
 KA FU (λ(x3:(List Ae)×Int) k4=>
 cond (decide (x3.2<(a0.length:Int)))
 (ob (NA a0 x3.2) λe5=>
 ob (eA e5) λr6=>
 cond (decide (x3.1.length+[r6].length≤nA)) (k4 ((x3.1++[r6]),(PA .i64 x3.2 1))) none)
 (k2 x3.1)) ([],0)
def Er(a0:Aa):=
 ob (eA a0.S) λr1=>
 ob (wB a0.D.Seed) λr2=>
 DA (λ(y3:Aa)=>
 ob (eA a0.Seen) λr9=>
 ob (VI a0.Known) λr10=>
 ob (eA a0.Notes) λr11=>
 some (⟨y3.Now,y3.Clients,y3.S,y3.D,r9,r10,r11⟩:Aa)) λk4=>
 KA FU (λ(x5:Int×Aa) k6=>
 cond (decide (x5.1<(a0.Clients.length:Int)))
 (ob (NA a0.Clients x5.1) λe7=>
 ob (eA e7) λr8=>
 cond (decide (x5.2.Clients.length+[r8].length≤nA)) (k6 ((PA .i64 x5.1 1),(⟨x5.2.Now,x5.2.Clients++[r8],x5.2.S,x5.2.D,x5.2.Seen,x5.2.Known,x5.2.Notes⟩:Aa))) none)
 (k4 x5.2)) (0,(⟨a0.Now,[],r1,(⟨r2,a0.D.N⟩:Ak),[],[],[]⟩:Aa))
def Dy(a0:List Ab)(a1:Ab):=
 cond (decide (([]:List Ab).length+a0.length≤nA)) (cond (decide (([]++a0).length+[a1].length≤nA)) (ob (eA (([]++a0)++[a1])) λr1=>
 cond (!(DD r1))
 (ob (eA a0) λr2=>
 some r2)
 (some r1)) none) none
def Dz(a0:Aa)(a1:List Ab):=
 ob (eA a0) λr1=>
 DA (λ(y2:Aa)=>
 some y2) λk3=>
 KA FU (λ(x4:Int×Aa) k5=>
 cond (decide (x4.1<(a1.length:Int)))
 (ob (NA a1 x4.1) λe6=>
 ob (Dy x4.2.Seen e6) λr7=>
 k5 ((PA .i64 x4.1 1),(⟨x4.2.Now,x4.2.Clients,x4.2.S,x4.2.D,r7,x4.2.Known,x4.2.Notes⟩:Aa)))
 (k3 x4.2)) (0,r1)
end
end Go.D
namespace Go.D
def wL.ok{x}(_:rA [.v .Win] x){r}:eA (α:=Ap) x=some r→Gi x=some r:=CA λh=>XP x h
def cK.ok{x}(_:rA [.v .Ep] x){r}:eA (α:=As) x=some r→Eh x=some r:=CA λh=>by
 rw[YE]at h;simp(disch:=omega) only[Eh,wB,eA,IA]
def RJ.ok{x}(_:rA [.v .Chan] x){r}:eA (α:=Al) x=some r→Ei x=some r:=CA λh=>by
 rw[tE]at h;simp(disch:=omega) only[Ei,wB,eA,IA]
def xU(x:Ah)(h:wt x≤nA):Dw x=some x:=by
 have hw:wt x=wt x.Cands:=by rw[oG,sB];omega
 rw[hw]at h;unfold Dw;simp only[DA];refine rF x.Cands h (λi acc=>(i,(⟨x.At,acc⟩:Ah))) (λacc=>some (⟨x.At,acc⟩:Ah)) (λi hi acc k=>?_) (λacc k=>?_)
 ·have TV:((i:Int)<(x.Cands.length:Int)):=by omega
  have hm:=vE hi;rw[uG]at hm;simp only[decide_eq_true TV,cond_true,bD hi,WB];rw[wB,IA (by omega)];rfl
 ·have TV:¬((x.Cands.length:Int)<(x.Cands.length:Int)):=by omega
  simp only[decide_eq_false TV,cond_false]
def xH.ok{x}(_:rA [.v .Paths] x){r}:eA (α:=Ah) x=some r→Dw x=some r:=CA λh=>xU x h
def UJ.ok{x}(_:rA [.v .Sess] x){r}:eA (α:=Ag) x=some r→Ej x=some r:=CA λh=>by
 rw[PE]at h;simp(disch:=omega) only[Ej,wB,eA,IA]
def vL.ok{x}(_:rA [.v .Tab] x){r}:eA (α:=Am) x=some r→Gj x=some r:=CA λh=>VP x h
def HJ.ok{x}(_:rA [.sl .Credit] x){r}:eA (α:=List Af) x=some r→Ek x=some r:=CA λh=>by
 unfold Ek;rw[kC (Nat.le_trans (SD _) h)];rfl
def IJ.ok{x}(_:rA [.v .Server] x){r}:eA (α:=Ad) x=some r→Em x=some r:=CA λh=>by
 rw[qE,BG,LF]at h;simp(disch:=omega) only[Em,wB,VI,eA,IA]
def NJ.ok{x}(_:rA [.v .Frame] x){r}:eA (α:=Ai) x=some r→En x=some r:=CA λh=>by
 rw[dE]at h;simp(disch:=omega) only[En,wB,eA,IA]
def JJ.ok{x}(_:rA [.v .Client] x){r}:eA (α:=Ac) x=some r→Eo x=some r:=CA λh=>by
 rw[KE]at h;simp(disch:=omega) only[Eo,wB,eA,IA]
def wU(x:List Ab)(h:wt x≤nA):Dx x=some x:=by
 unfold Dx;simp only[DA];refine rF x h (λi acc=>(acc,i)) (λacc=>some acc) (λi hi acc k=>?_) (λacc k=>?_)
 ·have TV:((i:Int)<(x.length:Int)):=by omega
  have hm:=vE hi;rw[RF]at hm;simp only[decide_eq_true TV,cond_true,bD hi,WB];rw[wB,IA (by omega)];rfl
 ·have TV:¬((x.length:Int)<(x.length:Int)):=by omega
  simp only[decide_eq_false TV,cond_false]
def vH.ok{x}(_:rA [.sl .Wire] x){r}:eA (α:=List Ab) x=some r→Dx x=some r:=CA λh=>wU x h
def SJ.ok{x}(_:rA [.v .Note] x){r}:eA (α:=Ae) x=some r→Eq x=some r:=CA λh=>by
 rw[QE]at h;simp(disch:=omega) only[Eq,wB,eA,IA]
def UK.ok{x}(_:rA [.sl .Note] x){r}:eA (α:=List Ae) x=some r→Gk x=some r:=CA λh=>YP x h
def OJ.ok{x}(_:rA [.v .World] x){r}:eA (α:=Aa) x=some r→Er x=some r:=CA λh=>by
 obtain⟨w1,w2,w3,w4,w5,w6,w7⟩:=x;rw[xD,LF]at h;dsimp only at h;unfold Er;simp(disch:=omega) only[wB,VI,eA,IA,DA];refine rF w2 (by omega) (λi acc=>(i,(⟨w1,acc,w3,w4,[],[],[]⟩:Aa))) (λacc=>some (⟨w1,acc,w3,w4,w5,w6,w7⟩:Aa)) (λi hi acc k=>?_) (λacc k=>?_)
 ·have TV:((i:Int)<(w2.length:Int)):=by omega
  have hm:=vE hi;simp only[decide_eq_true TV,cond_true,bD hi,WB];rw[IA (by omega)];rfl
 ·have TV:¬((w2.length:Int)<(w2.length:Int)):=by omega
  simp only[decide_eq_false TV,cond_false]
end Go.D

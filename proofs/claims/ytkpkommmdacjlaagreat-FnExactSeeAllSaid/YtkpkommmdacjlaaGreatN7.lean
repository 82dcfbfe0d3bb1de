/-
 Sizes of the program's data.
-/
import Derived.Test.YtkpkommmdacjlaaGreatN6
set_option linter.all false
namespace Go.D
end Go.D
namespace Go.D
noncomputable def UI(d:Ak):Option Ak:=pt (wt d≤nA) d
noncomputable def VI(l:List (List UInt8)):Option (List (List UInt8)):=pt (wt l≤nA) l
end Go.D
namespace Go.D
noncomputable def Ef(a0:List (List UInt8)):=
 DA (λ(y1:(List (List UInt8)))=>
 some y1) λk2=>
 KA FU (λ(x3:(List (List UInt8))×Int) k4=>
 cond (decide (x3.2<(a0.length:Int)))
 (Option.bind (NA a0 x3.2) λe5=>
 Option.bind (wB e5) λr6=>
 cond (decide (x3.1.length+[r6].length≤nA)) (k4 ((x3.1++[r6]),(PA .i64 x3.2 1))) none)
 (k2 x3.1)) ([],0)
noncomputable def Eg(a0:Ak):=
 cond (decide (([]:List UInt8).length+a0.Seed.length≤nA)) (some (⟨[]++a0.Seed,a0.N⟩:Ak)) none
end Go.D
namespace Go.D
end Go.D
namespace Go.D
def Ok{α:Type}(o:Option α)(P:α→Prop):Prop:=∃r,o=some r∧P r
def Ok.bind{α β:Type}{o:Option α}{P:α→Prop}{Q:β→Prop}{f:α→Option β}(h:Ok o P)(k:∀r,P r→Ok (f r) Q):Ok (Option.bind o f) Q:=by
 obtain⟨r,rfl,h⟩:=h;exact k r h
def Ok.mono{α:Type}{o:Option α}{P Q:α→Prop}(h:Ok o P)(k:∀r,P r→Q r):Ok o Q:=by
 obtain⟨r,h1,h2⟩:=h;exact⟨r,h1,k r h2⟩
def Ok.cond'{α:Type}{b:Bool}{x y:Option α}{P:α→Prop}(h1:b=true→Ok x P)(h2:b=false→Ok y P):Ok (cond b x y) P:=by
 cases b
 ·exact h2 rfl
 ·exact h1 rfl
def Ok.loop{σ R:Type}{f:σ→(σ→Option R)→Option R}{P:R→Prop}(inv:σ→Prop)(μ:σ→Nat)
  (h:∀x,inv x→∀k:σ→Option R,(∀y,inv y→μ y<μ x→Ok (k y) P)→Ok (f x k) P) {x:σ} (hx:inv x) (hμ:μ x<2^64):Ok (KA FU f x) P:=by
 rw[vP]
 have:∀(n:Nat) (x:σ),inv x→μ x<n→Ok (KA n f x) P:=by
  intro n;induction n with
  | zero=>intro x _ hn;omega
  | succ n ih=>intro x hx hn;exact h x hx (KA n f) λy hy HV=>ih y hy (by omega)
 exact this _ x hx hμ
def zeq(c:Bg):Prop:=0≤c.i∧c.i≤c.b.length∧c.b.length≤1048576
end Go.D
namespace Go.D
def zdB{i n:Nat}(h:i<n):decide ((i:Int)<(n:Int))=true:=by simpa using h
end Go.D
namespace Go.D
def zfs{n:Nat}{α:Type}(h:n≤nA):decide (([]:List α).length+n≤nA)=true:=by simpa using h
def zcR{β:Type}{a:List UInt8}{f:List UInt8→Option β}(h:wt a≤nA):Option.bind (wB a) f=f a:=IA h
def ZJ.ok{x}(_:rA [.v .Dice] x){r}:UI x=some r→Eg x=some r:=CA λh=>by
 rw[LF,jB]at h;simp only[Eg];rw[zfs h];rfl
def TJ.ok{x}(_:rA [.sl .bs] x){r}:VI x=some r→Ef x=some r:=CA λh=>by
 have hl:=SD (α:=List UInt8) x;simp only[Ef,DA]
 have key:=jJ (f:=λ(x3:(List (List UInt8))×Int) k4=>cond (decide (x3.2<(List.length (α:=List UInt8) x:Int))) (Option.bind (NA (α:=List UInt8) x x3.2) λe5=>Option.bind (wB e5) λr6=>
   cond (decide (x3.1.length+[r6].length≤nA)) (k4 ((x3.1++[r6]),(PA .i64 x3.2 1))) none) (some x3.1)) (g:=λ_=>some x)
  (fun y:List (List UInt8) × Int=>y.2=(y.1.length:Int)∧y.1=List.take (α:=List UInt8) y.1.length x) (fun y=>List.length (α:=List UInt8) x - y.1.length) (fun y hy k hk=>by
   obtain⟨o,i⟩:=y;obtain⟨h1,h2⟩:=hy;simp only at h1 h2 hk⊢;subst h1
   by_cases hi:o.length<List.length (α:=List UInt8) x
   ·have hw:=vE (l:=x) hi;rw[zdB hi,cond_true,bD hi,WB,zcR (by omega),decide_eq_true (by simp;omega),cond_true];rw[PA,nG _ (by rw[PQ];have:=iH;omega)];refine hk _ ⟨by simp,?_⟩ (by simp;omega);simp only[List.length_append,List.length_cons,List.length_nil];rw[YQ (l:=x) hi, ←h2]
   ·have ho:o=x:=by rw[h2,List.take_of_length_le (by omega)]
    rw[decide_eq_false (by omega),cond_false,ho]) (x:=([],(0:Int))) ⟨rfl,rfl⟩ (by show List.length (α:=List UInt8) x - 0<2^64;have:=iH;omega)
 exact key
end Go.D
namespace Go.D
end Go.D

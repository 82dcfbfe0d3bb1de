/-
 Sizes of the program's data.
-/
import Derived.Test.YthmhafeaiaigoaaGreatN4
set_option linter.all false
namespace Go.D
end Go.D
namespace Go.D
noncomputable section
def zmM:Az:=⟨⟨0,0⟩,[],0⟩
def DH(c:Az):Option Az:=pt (wt c≤bA) c
def BO(p:Aj)(a:Ah)(i:Nat):Bool:=(p.Cands[i]?).any λe=>wB e.A a
def DE(p:Aj)(a:Ah):Int:=RH p.Cands.length (BO p a)
def hJ(p:Aj)(a:Ah):Option Int:=pt (wt p≤bA) (DE p a)
def uK(p:Aj)(a:Ah):Az×Bool:=bif sC p then(match p.Cands.find? λe=>wB e.A a with
 | some e=>(e,true)
 | none=>(zmM,false))else(zmM,false)
def OM(p:Aj)(a:Ah):Option (Az×Bool):=pt (wt p≤bA) (uK p a)
end
end Go.D
namespace Go.D
noncomputable section
def Ry(a0:Az):=
 cond (decide (([]:List UInt8).length+a0.Draw.length≤bA)) (some (⟨a0.A,[]++a0.Draw,a0.Until⟩:Az)) none
def Mq(a0:Aj)(a1:Ah):=
 cond (!(sC a0))
 (some ((⟨(⟨0,0⟩:Ah),[],0⟩:Az),false))
 (aA (λ(y1:Az)=>
 some ((⟨(⟨0,0⟩:Ah),[],0⟩:Az),false)) λk2=>
 sA FU (λ(x3:Int×Az) k4=>
 cond (decide (x3.1<(a0.Cands.length:Int)))
 (Option.bind (kA a0.Cands x3.1) λe5=>
 let x6:Bool:=cond (e5.A.Host==a1.Host) (cond (e5.A.Port==a1.Port) (true) false) false
 cond (x6)
 (Option.bind (kA a0.Cands x3.1) λe7=>
 Option.bind (DH e7) λr8=>
 some (r8,true))
 (k4 ((iA .i64 x3.1 1),x3.2)))
 (k2 x3.2)) (0,(⟨(⟨0,0⟩:Ah),[],0⟩:Az)))
def Rz(a0:List Al)(a1:Ah):=
 aA (λ(y1:Unit)=>
 some (-1)) λk2=>
 sA FU (λ(x3:Int) k4=>
 cond (decide (x3<(a0.length:Int)))
 (Option.bind (kA a0 x3) λe5=>
 let x6:Bool:=cond (e5.A.Host==a1.Host) (cond (e5.A.Port==a1.Port) (true) false) false
 cond (x6)
 (some x3)
 (k4 (iA .i64 x3 1)))
 (k2 ())) 0
def Mr(a0:Aj)(a1:Ah):=
 aA (λ(y1:Unit)=>
 some (-1)) λk2=>
 sA FU (λ(x3:Int) k4=>
 cond (decide (x3<(a0.Cands.length:Int)))
 (Option.bind (kA a0.Cands x3) λe5=>
 let x6:Bool:=cond (e5.A.Host==a1.Host) (cond (e5.A.Port==a1.Port) (true) false) false
 cond (x6)
 (some x3)
 (k4 (iA .i64 x3 1)))
 (k2 ())) 0
end
end Go.D
namespace Go.D
end Go.D
namespace Go.D
def zci.ok{x}(hb:xA [.sl .Credit, .v .Addr] x):Rz x.1 x.2=some (oB x.1 x.2):=zlW x.1 x.2 hb.1.1
def zsL(a b:Ah):wB a b=wB b a:=by
 unfold wB;rw[BEq.comm (a:=a.Host),BEq.comm (a:=a.Port)]
def xO{a:Nat}(h:a≤bA):decide (([]:List UInt8).length+a≤bA)=true:=decide_eq_true (by simpa using h)
def zbi.ok{x}(_:xA [.v .Cand] x){r}:DH x=some r→Ry x=some r:=TA λh=>by
 have h:wt (show Az from x)≤bA:=h;rw[zad]at h;have h2:=EA (show Az from x).Draw;show(cond (decide (([]:List UInt8).length+(show Az from x).Draw.length≤bA)) _ _)=_
 rw[xO (by omega)];rfl
def zuI{p:Aj}(h:wt p≤bA){i:Nat}(hi:i<p.Cands.length):wt p.Cands[i]≤bA:=by
 rw[eJ]at h;have:=xE hi;omega
def zpz(p:Aj)(a:Ah)(h:wt p≤bA):Mr p a=some (DE p a):=by
 have hl:=eJ p;simp only[Mr,aA,fK];rw[zfP p.Cands.length (jE (by omega)) (BO p a) (λi k hi=>?_) (λk=>by simp only[YD,cond_false])]
 ·rfl
 ·simp only[yD hi,cond_true,KB hi,mB,BO,NF hi]
def mR.ok{x}(_:xA [.v .Paths, .v .Addr] x){r}:hJ x.1 x.2=some r→Mr x.1 x.2=some r:=TA λh=>zpz x.1 x.2 h
def zsX{α σ R:Type}(l:List α)(hl:l.length≤maxLen)(p:α→Bool)(YX:α→Option R)(z:Option R){f:Int×σ→(Int×σ→Option R)→Option R}(s:σ)
  (hf:∀(i:Nat) (k:Int×σ→Option R) (h:i<l.length),f ((i:Int),s) k=bif p l[i]then YX l[i]else k (IntKind.wrap .i64 ((i:Int)+1),s)) (hz:∀k,f ((l.length:Int),s) k=z):
  sA FU f ((0:Int),s)=match l.find? p with
   | some e=>YX e
   | none=>z:=by
 have key:=zly (σ:=σ) l.length hl (f:=f) (g:=λi _=>match(l.drop i).find? p with
   | some e=>YX e
   | none=>z) (λ_ t=>t=s) (λi t k hi ht hk=>by
   subst ht;rw[hf i k hi,hk t rfl,qS l hi,List.find?_cons];cases p l[i]<;>rfl) (λt k ht=>by subst ht;rw[hz];simp) 0 s (Nat.zero_le _) rfl
 simpa using key
def zpL(p:Aj)(a:Ah)(h:wt p≤bA):Mq p a=some (uK p a):=by
 have hl:=eJ p;simp only[Mq,aA,fK,uK];cases sC p
 ·rfl
 simp only[Bool.not_true,cond_false,cond_true];rw[zsX p.Cands (jE (by omega)) (λe=>wB e.A a) (λe=>some (e,true)) _ _ (λi k hi=>?_) (λk=>by simp only[YD,cond_false];rfl)]
 ·cases p.Cands.find? _<;>rfl
 ·simp only[yD hi,cond_true,KB hi,mB,DH,UA (zuI h hi)]
def gR.ok{x}(_:xA [.v .Paths, .v .Addr] x){r}:OM x.1 x.2=some r→Mq x.1 x.2=some r:=TA λh=>zpL x.1 x.2 h
end Go.D

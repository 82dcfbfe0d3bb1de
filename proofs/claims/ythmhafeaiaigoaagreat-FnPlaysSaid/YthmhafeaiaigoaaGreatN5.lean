/-
 Sizes of the program's data.
-/
import Derived.Test.YthmhafeaiaigoaaGreatN4
set_option linter.all false
namespace Go.D
end Go.D
namespace Go.D
noncomputable section
def zmT:Az:=⟨⟨0,0⟩,[],0⟩
def EH(c:Az):Option Az:=pt (wt c≤bA) c
def HO(p:Aj)(a:Ai)(i:Nat):Bool:=(p.Cands[i]?).any λe=>RB e.A a
def DE(p:Aj)(a:Ai):Int:=PH p.Cands.length (HO p a)
def cJ(p:Aj)(a:Ai):Option Int:=pt (wt p≤bA) (DE p a)
def qK(p:Aj)(a:Ai):Az×Bool:=bif sC p then(match p.Cands.find? λe=>RB e.A a with
 | some e=>(e,true)
 | none=>(zmT,false))else(zmT,false)
def LM(p:Aj)(a:Ai):Option (Az×Bool):=pt (wt p≤bA) (qK p a)
end
end Go.D
namespace Go.D
noncomputable section
def Sd(a0:Az):=
 cond (decide (([]:List UInt8).length+a0.Draw.length≤bA)) (some (⟨a0.A,[]++a0.Draw,a0.Until⟩:Az)) none
def Mr(a0:Aj)(a1:Ai):=
 cond (!(sC a0))
 (some ((⟨(⟨0,0⟩:Ai),[],0⟩:Az),false))
 (aA (λ(y1:Az)=>
 some ((⟨(⟨0,0⟩:Ai),[],0⟩:Az),false)) λk2=>
 tA FU (λ(x3:Int×Az) k4=>
 cond (decide (x3.1<(a0.Cands.length:Int)))
 (Option.bind (kA a0.Cands x3.1) λe5=>
 let x6:Bool:=cond (e5.A.Host==a1.Host) (cond (e5.A.Port==a1.Port) (true) false) false
 cond (x6)
 (Option.bind (kA a0.Cands x3.1) λe7=>
 Option.bind (EH e7) λr8=>
 some (r8,true))
 (k4 ((iA .i64 x3.1 1),x3.2)))
 (k2 x3.2)) (0,(⟨(⟨0,0⟩:Ai),[],0⟩:Az)))
def Se(a0:List Al)(a1:Ai):=
 aA (λ(y1:Unit)=>
 some (-1)) λk2=>
 tA FU (λ(x3:Int) k4=>
 cond (decide (x3<(a0.length:Int)))
 (Option.bind (kA a0 x3) λe5=>
 let x6:Bool:=cond (e5.A.Host==a1.Host) (cond (e5.A.Port==a1.Port) (true) false) false
 cond (x6)
 (some x3)
 (k4 (iA .i64 x3 1)))
 (k2 ())) 0
def Ms(a0:Aj)(a1:Ai):=
 aA (λ(y1:Unit)=>
 some (-1)) λk2=>
 tA FU (λ(x3:Int) k4=>
 cond (decide (x3<(a0.Cands.length:Int)))
 (Option.bind (kA a0.Cands x3) λe5=>
 let x6:Bool:=cond (e5.A.Host==a1.Host) (cond (e5.A.Port==a1.Port) (true) false) false
 cond (x6)
 (some x3)
 (k4 (iA .i64 x3 1)))
 (k2 ())) 0
end
end Go.D
namespace Go.D
end Go.D
namespace Go.D
def zcp.ok{x}(hb:xA [.sl .Credit, .v .Addr] x):Se x.1 x.2=some (oB x.1 x.2):=zl2 x.1 x.2 hb.1.1
def zsU(a b:Ai):RB a b=RB b a:=by
 unfold RB;rw[BEq.comm (a:=a.Host),BEq.comm (a:=a.Port)]
def DO{a:Nat}(h:a≤bA):decide (([]:List UInt8).length+a≤bA)=true:=decide_eq_true (by simpa using h)
def zbp.ok{x}(_:xA [.v .Cand] x){r}:EH x=some r→Sd x=some r:=TA λh=>by
 have h:wt (show Az from x)≤bA:=h;rw[zaj]at h;have h2:=FA (show Az from x).Draw;show(cond (decide (([]:List UInt8).length+(show Az from x).Draw.length≤bA)) _ _)=_
 rw[DO (by omega)];rfl
def zuO{p:Aj}(h:wt p≤bA){i:Nat}(hi:i<p.Cands.length):wt p.Cands[i]≤bA:=by
 rw[YI]at h;have:=yE hi;omega
def zpD(p:Aj)(a:Ai)(h:wt p≤bA):Ms p a=some (DE p a):=by
 have hl:=YI p;simp only[Ms,aA,eK];rw[zf0 p.Cands.length (lE (by omega)) (HO p a) (λi k hi=>?_) (λk=>by simp only[XD,cond_false])]
 ·rfl
 ·simp only[BD hi,cond_true,JB hi,mB,HO,PF hi]
def rR.ok{x}(_:xA [.v .Paths, .v .Addr] x){r}:cJ x.1 x.2=some r→Ms x.1 x.2=some r:=TA λh=>zpD x.1 x.2 h
def zs6{α σ R:Type}(l:List α)(hl:l.length≤maxLen)(p:α→Bool)(XX:α→Option R)(z:Option R){f:Int×σ→(Int×σ→Option R)→Option R}(s:σ)
  (hf:∀(i:Nat) (k:Int×σ→Option R) (h:i<l.length),f ((i:Int),s) k=bif p l[i]then XX l[i]else k (IntKind.wrap .i64 ((i:Int)+1),s)) (hz:∀k,f ((l.length:Int),s) k=z):
  tA FU f ((0:Int),s)=match l.find? p with
   | some e=>XX e
   | none=>z:=by
 have key:=zlG (σ:=σ) l.length hl (f:=f) (g:=λi _=>match(l.drop i).find? p with
   | some e=>XX e
   | none=>z) (λ_ t=>t=s) (λi t k hi ht hk=>by
   subst ht;rw[hf i k hi,hk t rfl,qS l hi,List.find?_cons];cases p l[i]<;>rfl) (λt k ht=>by subst ht;rw[hz];simp) 0 s (Nat.zero_le _) rfl
 simpa using key
def zpQ(p:Aj)(a:Ai)(h:wt p≤bA):Mr p a=some (qK p a):=by
 have hl:=YI p;simp only[Mr,aA,eK,qK];cases sC p
 ·rfl
 simp only[Bool.not_true,cond_false,cond_true];rw[zs6 p.Cands (lE (by omega)) (λe=>RB e.A a) (λe=>some (e,true)) _ _ (λi k hi=>?_) (λk=>by simp only[XD,cond_false];rfl)]
 ·cases p.Cands.find? _<;>rfl
 ·simp only[BD hi,cond_true,JB hi,mB,EH,UA (zuO h hi)]
def mR.ok{x}(_:xA [.v .Paths, .v .Addr] x){r}:LM x.1 x.2=some r→Mr x.1 x.2=some r:=TA λh=>zpQ x.1 x.2 h
end Go.D

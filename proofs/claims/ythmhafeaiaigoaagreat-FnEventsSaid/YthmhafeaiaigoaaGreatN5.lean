/-
 Sizes of the program's data.
-/
import Derived.Test.YthmhafeaiaigoaaGreatN4
set_option linter.all false
namespace Go.D
end Go.D
namespace Go.D
noncomputable section
def zmO:Az:=⟨⟨0,0⟩,[],0⟩
def BH(c:Az):Option Az:=pt (wt c≤bA) c
def GO(p:Aj)(a:Ai)(i:Nat):Bool:=(p.Cands[i]?).any λe=>PB e.A a
def CE(p:Aj)(a:Ai):Int:=MH p.Cands.length (GO p a)
def eJ(p:Aj)(a:Ai):Option Int:=pt (wt p≤bA) (CE p a)
def lK(p:Aj)(a:Ai):Az×Bool:=bif sC p then(match p.Cands.find? λe=>PB e.A a with
 | some e=>(e,true)
 | none=>(zmO,false))else(zmO,false)
def IM(p:Aj)(a:Ai):Option (Az×Bool):=pt (wt p≤bA) (lK p a)
end
end Go.D
namespace Go.D
noncomputable section
def Sb(a0:Az):=
 cond (decide (([]:List UInt8).length+a0.Draw.length≤bA)) (some (⟨a0.A,[]++a0.Draw,a0.Until⟩:Az)) none
def Mq(a0:Aj)(a1:Ai):=
 cond (!(sC a0))
 (some ((⟨(⟨0,0⟩:Ai),[],0⟩:Az),false))
 (aA (λ(y1:Az)=>
 some ((⟨(⟨0,0⟩:Ai),[],0⟩:Az),false)) λk2=>
 uA FU (λ(x3:Int×Az) k4=>
 cond (decide (x3.1<(a0.Cands.length:Int)))
 (Option.bind (lA a0.Cands x3.1) λe5=>
 let x6:Bool:=cond (e5.A.Host==a1.Host) (cond (e5.A.Port==a1.Port) (true) false) false
 cond (x6)
 (Option.bind (lA a0.Cands x3.1) λe7=>
 Option.bind (BH e7) λr8=>
 some (r8,true))
 (k4 ((iA .i64 x3.1 1),x3.2)))
 (k2 x3.2)) (0,(⟨(⟨0,0⟩:Ai),[],0⟩:Az)))
def Sd(a0:List Al)(a1:Ai):=
 aA (λ(y1:Unit)=>
 some (-1)) λk2=>
 uA FU (λ(x3:Int) k4=>
 cond (decide (x3<(a0.length:Int)))
 (Option.bind (lA a0 x3) λe5=>
 let x6:Bool:=cond (e5.A.Host==a1.Host) (cond (e5.A.Port==a1.Port) (true) false) false
 cond (x6)
 (some x3)
 (k4 (iA .i64 x3 1)))
 (k2 ())) 0
def Mr(a0:Aj)(a1:Ai):=
 aA (λ(y1:Unit)=>
 some (-1)) λk2=>
 uA FU (λ(x3:Int) k4=>
 cond (decide (x3<(a0.Cands.length:Int)))
 (Option.bind (lA a0.Cands x3) λe5=>
 let x6:Bool:=cond (e5.A.Host==a1.Host) (cond (e5.A.Port==a1.Port) (true) false) false
 cond (x6)
 (some x3)
 (k4 (iA .i64 x3 1)))
 (k2 ())) 0
end
end Go.D
namespace Go.D
end Go.D
namespace Go.D
def zcb.ok{x}(hb:xA [.sl .Credit, .v .Addr] x):Sd x.1 x.2=some (nB x.1 x.2):=zlF x.1 x.2 hb.1.1
def ztc(a b:Ai):PB a b=PB b a:=by
 unfold PB;rw[BEq.comm (a:=a.Host),BEq.comm (a:=a.Port)]
def FO{a:Nat}(h:a≤bA):decide (([]:List UInt8).length+a≤bA)=true:=decide_eq_true (by simpa using h)
def za8.ok{x}(_:xA [.v .Cand] x){r}:BH x=some r→Sb x=some r:=TA λh=>by
 have h:wt (show Az from x)≤bA:=h;rw[EV]at h;have h2:=FA (show Az from x).Draw;show(cond (decide (([]:List UInt8).length+(show Az from x).Draw.length≤bA)) _ _)=_
 rw[FO (by omega)];rfl
def zuF{p:Aj}(h:wt p≤bA){i:Nat}(hi:i<p.Cands.length):wt p.Cands[i]≤bA:=by
 rw[WI]at h;have:=yE hi;omega
def zpN(p:Aj)(a:Ai)(h:wt p≤bA):Mr p a=some (CE p a):=by
 have hl:=WI p;simp only[Mr,aA,bK];rw[zfN p.Cands.length (lE (by omega)) (GO p a) (λi k hi=>?_) (λk=>by simp only[WD,cond_false])]
 ·rfl
 ·simp only[zD hi,cond_true,JB hi,kB,GO,PF hi]
def kR.ok{x}(_:xA [.v .Paths, .v .Addr] x){r}:eJ x.1 x.2=some r→Mr x.1 x.2=some r:=TA λh=>zpN x.1 x.2 h
def zsD{α σ R:Type}(l:List α)(hl:l.length≤maxLen)(p:α→Bool)(XX:α→Option R)(z:Option R){f:Int×σ→(Int×σ→Option R)→Option R}(s:σ)
  (hf:∀(i:Nat) (k:Int×σ→Option R) (h:i<l.length),f ((i:Int),s) k=bif p l[i]then XX l[i]else k (IntKind.wrap .i64 ((i:Int)+1),s)) (hz:∀k,f ((l.length:Int),s) k=z):
  uA FU f ((0:Int),s)=match l.find? p with
   | some e=>XX e
   | none=>z:=by
 have key:=zkU (σ:=σ) l.length hl (f:=f) (g:=λi _=>match(l.drop i).find? p with
   | some e=>XX e
   | none=>z) (λ_ t=>t=s) (λi t k hi ht hk=>by
   subst ht;rw[hf i k hi,hk t rfl,tS l hi,List.find?_cons];cases p l[i]<;>rfl) (λt k ht=>by subst ht;rw[hz];simp) 0 s (Nat.zero_le _) rfl
 simpa using key
def zpO(p:Aj)(a:Ai)(h:wt p≤bA):Mq p a=some (lK p a):=by
 have hl:=WI p;simp only[Mq,aA,bK,lK];cases sC p
 ·rfl
 simp only[Bool.not_true,cond_false,cond_true];rw[zsD p.Cands (lE (by omega)) (λe=>PB e.A a) (λe=>some (e,true)) _ _ (λi k hi=>?_) (λk=>by simp only[WD,cond_false];rfl)]
 ·cases p.Cands.find? _<;>rfl
 ·simp only[zD hi,cond_true,JB hi,kB,BH,UA (zuF h hi)]
def uR.ok{x}(_:xA [.v .Paths, .v .Addr] x){r}:IM x.1 x.2=some r→Mq x.1 x.2=some r:=TA λh=>zpO x.1 x.2 h
end Go.D

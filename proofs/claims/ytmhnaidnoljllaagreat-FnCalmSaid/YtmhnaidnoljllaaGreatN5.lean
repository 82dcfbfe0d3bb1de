/-
 Sizes of the program's data.
-/
import Derived.Test.YtmhnaidnoljllaaGreatN4
set_option linter.all false
namespace Go.D
end Go.D
namespace Go.D
noncomputable section
def zld:Aw:=⟨⟨0,0⟩,[],0⟩
def rH(c:Aw):Option Aw:=pt (wt c≤bA) c
def qO(p:Ah)(a:Af)(i:Nat):Bool:=(p.Cands[i]?).any λe=>vB e.A a
def qE(p:Ah)(a:Af):Int:=FH p.Cands.length (qO p a)
def NI(p:Ah)(a:Af):Option Int:=pt (wt p≤bA) (qE p a)
def kK(p:Ah)(a:Af):Aw×Bool:=bif gC p then(match p.Cands.find? λe=>vB e.A a with
 | some e=>(e,true)
 | none=>(zld,false))else(zld,false)
def tM(p:Ah)(a:Af):Option (Aw×Bool):=pt (wt p≤bA) (kK p a)
end
end Go.D
namespace Go.D
noncomputable section
def Pq(a0:Aw):=
 cond (decide (([]:List UInt8).length+a0.Draw.length≤bA)) (some (⟨a0.A,[]++a0.Draw,a0.Until⟩:Aw)) none
def Lb(a0:Ah)(a1:Af):=
 cond (!(gC a0))
 (some ((⟨(⟨0,0⟩:Af),[],0⟩:Aw),false))
 (aA (λ(y1:Aw)=>
 some ((⟨(⟨0,0⟩:Af),[],0⟩:Aw),false)) λk2=>
 wA FU (λ(x3:Int×Aw) k4=>
 cond (decide (x3.1<(a0.Cands.length:Int)))
 (Option.bind (nA a0.Cands x3.1) λe5=>
 let x6:Bool:=cond (e5.A.Host==a1.Host) (cond (e5.A.Port==a1.Port) (true) false) false
 cond (x6)
 (Option.bind (nA a0.Cands x3.1) λe7=>
 Option.bind (rH e7) λr8=>
 some (r8,true))
 (k4 ((gA .i64 x3.1 1),x3.2)))
 (k2 x3.2)) (0,(⟨(⟨0,0⟩:Af),[],0⟩:Aw)))
def Pr(a0:List Al)(a1:Af):=
 aA (λ(y1:Unit)=>
 some (-1)) λk2=>
 wA FU (λ(x3:Int) k4=>
 cond (decide (x3<(a0.length:Int)))
 (Option.bind (nA a0 x3) λe5=>
 let x6:Bool:=cond (e5.A.Host==a1.Host) (cond (e5.A.Port==a1.Port) (true) false) false
 cond (x6)
 (some x3)
 (k4 (gA .i64 x3 1)))
 (k2 ())) 0
def Lc(a0:Ah)(a1:Af):=
 aA (λ(y1:Unit)=>
 some (-1)) λk2=>
 wA FU (λ(x3:Int) k4=>
 cond (decide (x3<(a0.Cands.length:Int)))
 (Option.bind (nA a0.Cands x3) λe5=>
 let x6:Bool:=cond (e5.A.Host==a1.Host) (cond (e5.A.Port==a1.Port) (true) false) false
 cond (x6)
 (some x3)
 (k4 (gA .i64 x3 1)))
 (k2 ())) 0
end
end Go.D
namespace Go.D
end Go.D
namespace Go.D
def zbc.ok{x}(hb:xA [.sl .Credit, .v .Addr] x):Pr x.1 x.2=some (fB x.1 x.2):=zki x.1 x.2 hb.1.1
def zqs(a b:Af):vB a b=vB b a:=by
 unfold vB;rw[BEq.comm (a:=a.Host),BEq.comm (a:=a.Port)]
def lO{a:Nat}(h:a≤bA):decide (([]:List UInt8).length+a≤bA)=true:=decide_eq_true (by simpa using h)
def zaw.ok{x}(_:xA [.v .Cand] x){r}:rH x=some r→Pq x=some r:=OA λh=>by
 have h:wt (show Aw from x)≤bA:=h;rw[zcC]at h;have h2:=FA (show Aw from x).Draw;show(cond (decide (([]:List UInt8).length+(show Aw from x).Draw.length≤bA)) _ _)=_
 rw[lO (by omega)];rfl
def zsr{p:Ah}(h:wt p≤bA){i:Nat}(hi:i<p.Cands.length):wt p.Cands[i]≤bA:=by
 rw[bK]at h;have:=TF hi;omega
def zny(p:Ah)(a:Af)(h:wt p≤bA):Lc p a=some (qE p a):=by
 have hl:=bK p;simp only[Lc,aA,VJ];rw[zeB p.Cands.length (wG (by omega)) (qO p a) (λi k hi=>?_) (λk=>by simp only[ED,cond_false])]
 ·rfl
 ·simp only[lD hi,cond_true,WB hi,rB,qO,BF hi]
def PQ.ok{x}(_:xA [.v .Paths, .v .Addr] x){r}:NI x.1 x.2=some r→Lc x.1 x.2=some r:=OA λh=>zny x.1 x.2 h
def zqF{α σ R:Type}(l:List α)(hl:l.length≤maxLen)(p:α→Bool)(EX:α→Option R)(z:Option R){f:Int×σ→(Int×σ→Option R)→Option R}(s:σ)
  (hf:∀(i:Nat) (k:Int×σ→Option R) (h:i<l.length),f ((i:Int),s) k=bif p l[i]then EX l[i]else k (IntKind.wrap .i64 ((i:Int)+1),s)) (hz:∀k,f ((l.length:Int),s) k=z):
  wA FU f ((0:Int),s)=match l.find? p with
   | some e=>EX e
   | none=>z:=by
 have key:=zjV (σ:=σ) l.length hl (f:=f) (g:=λi _=>match(l.drop i).find? p with
   | some e=>EX e
   | none=>z) (λ_ t=>t=s) (λi t k hi ht hk=>by
   subst ht;rw[hf i k hi,hk t rfl,RR l hi,List.find?_cons];cases p l[i]<;>rfl) (λt k ht=>by subst ht;rw[hz];simp) 0 s (Nat.zero_le _) rfl
 simpa using key
def znJ(p:Ah)(a:Af)(h:wt p≤bA):Lb p a=some (kK p a):=by
 have hl:=bK p;simp only[Lb,aA,VJ,kK];cases gC p
 ·rfl
 simp only[Bool.not_true,cond_false,cond_true];rw[zqF p.Cands (wG (by omega)) (λe=>vB e.A a) (λe=>some (e,true)) _ _ (λi k hi=>?_) (λk=>by simp only[ED,cond_false];rfl)]
 ·cases p.Cands.find? _<;>rfl
 ·simp only[lD hi,cond_true,WB hi,rB,rH,RA (zsr h hi)]
def KQ.ok{x}(_:xA [.v .Paths, .v .Addr] x){r}:tM x.1 x.2=some r→Lb x.1 x.2=some r:=OA λh=>znJ x.1 x.2 h
end Go.D

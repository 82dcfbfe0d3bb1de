/-
 Sizes of the program's data.
-/
import Derived.Test.YtfealdecpglcnaaGreatN4
set_option linter.all false
namespace Go.D
end Go.D
namespace Go.D
noncomputable section
def zlT:Az:=⟨⟨0,0⟩,[],0⟩
def qH(c:Az):Option Az:=pt (wt c≤bA) c
def iO(p:Aj)(a:Ai)(i:Nat):Bool:=(p.Cands[i]?).any λe=>PB e.A a
def yE(p:Aj)(a:Ai):Int:=AH p.Cands.length (iO p a)
def MI(p:Aj)(a:Ai):Option Int:=pt (wt p≤bA) (yE p a)
def dK(p:Aj)(a:Ai):Az×Bool:=bif qC p then(match p.Cands.find? λe=>PB e.A a with
 | some e=>(e,true)
 | none=>(zlT,false))else(zlT,false)
def pM(p:Aj)(a:Ai):Option (Az×Bool):=pt (wt p≤bA) (dK p a)
end
end Go.D
namespace Go.D
noncomputable section
def Rm(a0:Az):=
 cond (decide (([]:List UInt8).length+a0.Draw.length≤bA)) (some (⟨a0.A,[]++a0.Draw,a0.Until⟩:Az)) none
def Md(a0:Aj)(a1:Ai):=
 cond (!(qC a0))
 (some ((⟨(⟨0,0⟩:Ai),[],0⟩:Az),false))
 (aA (λ(y1:Az)=>
 some ((⟨(⟨0,0⟩:Ai),[],0⟩:Az),false)) λk2=>
 qA FU (λ(x3:Int×Az) k4=>
 cond (decide (x3.1<(a0.Cands.length:Int)))
 (Option.bind (kA a0.Cands x3.1) λe5=>
 let x6:Bool:=cond (e5.A.Host==a1.Host) (cond (e5.A.Port==a1.Port) (true) false) false
 cond (x6)
 (Option.bind (kA a0.Cands x3.1) λe7=>
 Option.bind (qH e7) λr8=>
 some (r8,true))
 (k4 ((iA .i64 x3.1 1),x3.2)))
 (k2 x3.2)) (0,(⟨(⟨0,0⟩:Ai),[],0⟩:Az)))
def Rn(a0:List Al)(a1:Ai):=
 aA (λ(y1:Unit)=>
 some (-1)) λk2=>
 qA FU (λ(x3:Int) k4=>
 cond (decide (x3<(a0.length:Int)))
 (Option.bind (kA a0 x3) λe5=>
 let x6:Bool:=cond (e5.A.Host==a1.Host) (cond (e5.A.Port==a1.Port) (true) false) false
 cond (x6)
 (some x3)
 (k4 (iA .i64 x3 1)))
 (k2 ())) 0
def Me(a0:Aj)(a1:Ai):=
 aA (λ(y1:Unit)=>
 some (-1)) λk2=>
 qA FU (λ(x3:Int) k4=>
 cond (decide (x3<(a0.Cands.length:Int)))
 (Option.bind (kA a0.Cands x3) λe5=>
 let x6:Bool:=cond (e5.A.Host==a1.Host) (cond (e5.A.Port==a1.Port) (true) false) false
 cond (x6)
 (some x3)
 (k4 (iA .i64 x3 1)))
 (k2 ())) 0
end
end Go.D
namespace Go.D
end Go.D
namespace Go.D
def zbF.ok{x}(hb:xA [.sl .Credit, .v .Addr] x):Rn x.1 x.2=some (qB x.1 x.2):=zk5 x.1 x.2 hb.1.1
def zrN(a b:Ai):PB a b=PB b a:=by
 unfold PB;rw[BEq.comm (a:=a.Host),BEq.comm (a:=a.Port)]
def dO{a:Nat}(h:a≤bA):decide (([]:List UInt8).length+a≤bA)=true:=decide_eq_true (by simpa using h)
def zaM.ok{x}(_:xA [.v .Cand] x){r}:qH x=some r→Rm x=some r:=UA λh=>by
 have h:wt (show Az from x)≤bA:=h;rw[lV]at h;have h2:=FA (show Az from x).Draw;show(cond (decide (([]:List UInt8).length+(show Az from x).Draw.length≤bA)) _ _)=_
 rw[dO (by omega)];rfl
def ztH{p:Aj}(h:wt p≤bA){i:Nat}(hi:i<p.Cands.length):wt p.Cands[i]≤bA:=by
 rw[II]at h;have:=rE hi;omega
def zoC(p:Aj)(a:Ai)(h:wt p≤bA):Me p a=some (yE p a):=by
 have hl:=II p;simp only[Me,aA,QJ];rw[zeZ p.Cands.length (eE (by omega)) (iO p a) (λi k hi=>?_) (λk=>by simp only[SD,cond_false])]
 ·rfl
 ·simp only[wD hi,cond_true,HB hi,YA,iO,EF hi]
def MQ.ok{x}(_:xA [.v .Paths, .v .Addr] x){r}:MI x.1 x.2=some r→Me x.1 x.2=some r:=UA λh=>zoC x.1 x.2 h
def zrZ{α σ R:Type}(l:List α)(hl:l.length≤maxLen)(p:α→Bool)(TX:α→Option R)(z:Option R){f:Int×σ→(Int×σ→Option R)→Option R}(s:σ)
  (hf:∀(i:Nat) (k:Int×σ→Option R) (h:i<l.length),f ((i:Int),s) k=bif p l[i]then TX l[i]else k (IntKind.wrap .i64 ((i:Int)+1),s)) (hz:∀k,f ((l.length:Int),s) k=z):
  qA FU f ((0:Int),s)=match l.find? p with
   | some e=>TX e
   | none=>z:=by
 have key:=zkM (σ:=σ) l.length hl (f:=f) (g:=λi _=>match(l.drop i).find? p with
   | some e=>TX e
   | none=>z) (λ_ t=>t=s) (λi t k hi ht hk=>by
   subst ht;rw[hf i k hi,hk t rfl,OR l hi,List.find?_cons];cases p l[i]<;>rfl) (λt k ht=>by subst ht;rw[hz];simp) 0 s (Nat.zero_le _) rfl
 simpa using key
def zoP(p:Aj)(a:Ai)(h:wt p≤bA):Md p a=some (dK p a):=by
 have hl:=II p;simp only[Md,aA,QJ,dK];cases qC p
 ·rfl
 simp only[Bool.not_true,cond_false,cond_true];rw[zrZ p.Cands (eE (by omega)) (λe=>PB e.A a) (λe=>some (e,true)) _ _ (λi k hi=>?_) (λk=>by simp only[SD,cond_false];rfl)]
 ·cases p.Cands.find? _<;>rfl
 ·simp only[wD hi,cond_true,HB hi,YA,qH,HA (ztH h hi)]
def HQ.ok{x}(_:xA [.v .Paths, .v .Addr] x){r}:pM x.1 x.2=some r→Md x.1 x.2=some r:=UA λh=>zoP x.1 x.2 h
end Go.D

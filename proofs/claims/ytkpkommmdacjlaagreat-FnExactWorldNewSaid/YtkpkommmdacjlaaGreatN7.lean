/-
 Sizes of the program's data.
-/
import Derived.Test.YtkpkommmdacjlaaGreatN6
set_option linter.all false
namespace Go.D
end Go.D
namespace Go.D
noncomputable section
def oP(d:Ae):Option Ae:=pt (wt d≤eA) d
def mG(d:Ae):Ae×List UInt8:=bif !mE d||d.N==10000 then(d,[])else(⟨d.Seed,mA .i64 d.N 1⟩,SD d.Seed d.N)
def lI(d:Ae):Option (Ae×List UInt8):=pt (wt d≤eA) (mG d)
def pP(l:List (List UInt8)):Option (List (List UInt8)):=pt (wt l≤eA) l
def cF(k info:List UInt8):Nat→List UInt8
 | 0=>[]
 | j+1=>xD k (cF k info j++info++[UInt8.ofNat (IntKind.wrap .u8 ((j+1:Nat):Int)).toNat])
def wF(k info:List UInt8):Nat→List UInt8
 | 0=>[]
 | j+1=>wF k info j++cF k info (j+1)
def KE(k info:List UInt8)(n:Int):List UInt8×Bool:=
 bif !oA n 0 8160||decide ((info.length:Int)>100)||decide ((k.length:Int)>1048576)then([],false)else((wF k info ((n.toNat+31) / 32)).take n.toNat,true)
def PQ(k label:List UInt8):List UInt8:=(KE k label 32).1
def VH(k label:List UInt8):Option (List UInt8):=pt (wt label≤eA) (PQ k label)
def yF(b:List UInt8):Ap:=bif PB b then⟨PQ b [106,97,114]⟩else⟨[]⟩
def vF(n:Int):Ai:=bif oA n 1 6 then⟨n,[]⟩else⟨0,[]⟩
def nN:Aa:=⟨[],⟨[]⟩,⟨[],0⟩,⟨0,[]⟩,[]⟩
def SB(psks:List (List UInt8))(seed:List UInt8)(most:Int):Aa:=⟨psks,yF (mG ⟨seed,0⟩).2,(mG ⟨seed,0⟩).1,vF most,[]⟩
def WF(psks:List (List UInt8))(seed:List UInt8)(most:Int):Aa:=bif WE (SB psks seed most)then SB psks seed most else nN
def IH(psks:List (List UInt8))(seed:List UInt8)(most:Int):Option Aa:=pt (wt psks+wt seed+1000≤eA) (WF psks seed most)
def ziy:Ac:=⟨0,0,[],[],0,[],[],0,0,[],[]⟩
def zk4:Ah:=⟨0,[],zcX,zcX,false,0,[]⟩
def zcx:Aj:=⟨false,0,0,0⟩
def iN(id:Int)(psk:List UInt8)(a:Af):Ab:=⟨id,psk,a,0,[],ziy,zk4,zcx,zcx,0⟩
def aH(id:Int)(psk:List UInt8)(a:Af):Ab:=bif oA id 1 9&&nE psk&&WB a then iN id psk a else iN 0 [] ⟨0,0⟩
def JE(id:Int)(psk:List UInt8)(a:Af):Option Ab:=pt (wt psk≤eA) (aH id psk a)
def NO(b:List UInt8):Ak:=⟨14,0,0,[],[],0,0,b,[],⟨0,0⟩,0⟩
def xS(k:List UInt8):Ak:=⟨12,0,0,[],[],0,0,[],k,⟨0,0⟩,0⟩
def WG(b:List UInt8):Option Ak:=pt (wt b≤eA) (NO b)
def jI(s:List UInt8):List UInt8:=s.take 31++[99]
def UP(s:List UInt8):Option (List UInt8):=pt (wt s≤eA) (jI s)
def ziG:Ag:=⟨0,[],nN,⟨[],0⟩,[],[],[]⟩
def zh8(s a b:List UInt8)(most:Int):Ag:=⟨0,[aH 1 a (KD 1),aH 2 b (KD 2)],SB [a,b] s most,⟨jI s,0⟩,[],[],[NO (SD s 0),xS (SB [a,b] s most).J.Secret]⟩
def OH(s a b:List UInt8)(most:Int):Ag:=bif WE (SB [a,b] s most)then zh8 s a b most else ziG
def NH(s a b:List UInt8)(most:Int):Option Ag:=pt (wt a+wt b+wt s+2000≤eA) (OH s a b most)
end
end Go.D
namespace Go.D
open Option renaming bind→ob
noncomputable section
def En(a0:Ae):=
 ob (lE a0.Seed) λr1=>
 fA (λy2=>
 cond (y2)
 (some ((⟨r1,a0.N⟩:Ae),[]))
 (let r4:(List UInt8):=SD a0.Seed a0.N
 some ((⟨r1,mA .i64 a0.N 1⟩:Ae),r4))) λk3=>
 cond (!(mE a0))
 (k3 true)
 (k3 (a0.N==10000))
def Eo(a0:List (List UInt8)):=
 fA (λ(y1:(List (List UInt8)))=>
 some y1) λk2=>
 yA FU (λ(x3:(List (List UInt8))×Int) k4=>
 cond (decide (x3.2<(a0.length:Int)))
 (ob (vA a0 x3.2) λe5=>
 ob (lE e5) λr6=>
 cond (decide (x3.1.length+[r6].length≤eA)) (k4 ((x3.1++[r6]),(mA .i64 x3.2 1))) none)
 (k2 x3.1)) ([],0)
def Ed(a0:List UInt8)(a1:List UInt8)(a2:Int):=
 fA (λy1=>
 cond (y1)
 (some ([],false))
 (fA (λ(y3:(List UInt8)×(List UInt8))=>
 cond (decide (0≤(0:Int))&&decide ((0:Int)≤a2)&&decide (a2≤(y3.1.length:Int))) (ob (lE (List.take ((a2 - 0).toNat) (List.drop 0 y3.1))) λr10=>
 some (r10,true)) none) λk4=>
 yA FU (λ(x5:(List UInt8)×(List UInt8)×Int) k6=>
 cond (decide ((x5.1.length:Int)<a2))
 (let x7:List (List UInt8):=[x5.2.1,a1,[UInt8.ofNat (IntKind.wrap .u8 x5.2.2:Int).toNat]]
 ob (AE x7) λr8=>
 let r9:(List UInt8):=xD a0 r8
 cond (decide (x5.1.length+r9.length≤eA)) (k6 ((x5.1++r9),r9,(mA .i64 x5.2.2 1))) none)
 (k4 (x5.1,x5.2.1))) ([],[],1))) λk2=>
 cond (!(oA a2 0 8160))
 (k2 true)
 (cond (decide ((a1.length:Int)>100))
 (k2 true)
 (k2 (decide ((a0.length:Int)>1048576))))
def Eq(a0:List UInt8)(a1:List UInt8):=
 cond (Nat.ble a1.length eA) (let r1:(List UInt8)×Bool:=KE a0 a1 32
 some r1.1) none
def Er(a0:List UInt8):=
 cond (!(PB a0))
 (some (⟨[]⟩:Ap))
 (ob (VH a0 [106,97,114]) λr1=>
 some (⟨r1⟩:Ap))
def Es(a0:Int):=
 cond (!(oA a0 1 6))
 (some (⟨0,[]⟩:Ai))
 (some (⟨a0,[]⟩:Ai))
def Et(a0:List (List UInt8))(a1:List UInt8)(a2:Int):=
 ob (lI (⟨a1,0⟩:Ae)) λr1=>
 ob (pP a0) λr2=>
 let r3:Ap:=yF r1.2;let r4:Ai:=vF a2
 ob (jE (⟨r2,r3,r1.1,r4,[]⟩:Aa)) λr5=>
 cond (!r5)
 (some (⟨[],(⟨[]⟩:Ap),(⟨[],0⟩:Ae),(⟨0,[]⟩:Ai),[]⟩:Aa))
 (some (⟨r2,r3,r1.1,r4,[]⟩:Aa))
def Eu(a0:Int)(a1:List UInt8)(a2:Af):=
 ob (lE a1) λr1=>
 ob (UM (⟨a0,r1,a2,0,[],(⟨0,0,[],[],0,[],[],0,0,[],[]⟩:Ac),(⟨0,[],(⟨0,[],0,(⟨0,[]⟩:Al)⟩:Aq),(⟨0,[],0,(⟨0,[]⟩:Al)⟩:Aq),false,0,[]⟩:Ah),(⟨false,0,0,0⟩:Aj),(⟨false,0,0,0⟩:Aj),0⟩:Ab)) λr2=>
 cond (!r2)
 (some (⟨0,[],(⟨0,0⟩:Af),0,[],(⟨0,0,[],[],0,[],[],0,0,[],[]⟩:Ac),(⟨0,[],(⟨0,[],0,(⟨0,[]⟩:Al)⟩:Aq),(⟨0,[],0,(⟨0,[]⟩:Al)⟩:Aq),false,0,[]⟩:Ah),(⟨false,0,0,0⟩:Aj),(⟨false,0,0,0⟩:Aj),0⟩:Ab))
 (some (⟨a0,r1,a2,0,[],(⟨0,0,[],[],0,[],[],0,0,[],[]⟩:Ac),(⟨0,[],(⟨0,[],0,(⟨0,[]⟩:Al)⟩:Aq),(⟨0,[],0,(⟨0,[]⟩:Al)⟩:Aq),false,0,[]⟩:Ah),(⟨false,0,0,0⟩:Aj),(⟨false,0,0,0⟩:Aj),0⟩:Ab))
def Ew(a0:List UInt8):=
 ob (lE a0) λr1=>
 some (⟨14,0,0,[],[],0,0,r1,[],(⟨0,0⟩:Af),0⟩:Ak)
def Ey(a0:List UInt8)(a1:List UInt8)(a2:List UInt8)(a3:Int):=
 ob (IH [a1,a2] a0 a3) λr1=>
 ob (jE r1) λr2=>
 cond (!r2)
 (some (⟨0,[],(⟨[],(⟨[]⟩:Ap),(⟨[],0⟩:Ae),(⟨0,[]⟩:Ai),[]⟩:Aa),(⟨[],0⟩:Ae),[],[],[]⟩:Ag))
 (ob (AE [a0,[UInt8.ofNat (99:Int).toNat]]) λr3=>
 fA (λ(y4:(List UInt8))=>
 let r8:Af:=KD 1
 ob (JE 1 a1 r8) λr9=>
 let r10:Af:=KD 2
 ob (JE 2 a2 r10) λr11=>
 let r12:(List UInt8):=SD a0 0
 ob (WG r12) λr13=>
 ob (lE r1.J.Secret) λr14=>
 let x15:List Ak:=[r13,(⟨12,0,0,[],[],0,0,[],r14,(⟨0,0⟩:Af),0⟩:Ak)]
 some (⟨0,[r9,r11],r1,(⟨y4,0⟩:Ae),[],[],x15⟩:Ag)) λk5=>
 cond ((a0.length:Int)==32)
 (cond (decide (0≤(0:Int))&&decide ((0:Int)≤31)&&decide (31≤(a0.length:Int))) (let l6:List UInt8:=List.take 31 (List.drop 0 a0)
 ob (AE [l6,[UInt8.ofNat (99:Int).toNat]]) λr7=>
 k5 r7) none)
 (k5 r3))
def Ez(a0:Ae):=
 cond (decide (([]:List UInt8).length+a0.Seed.length≤eA)) (some (⟨[]++a0.Seed,a0.N⟩:Ae)) none
def Fa(a0:Ae):=
 ob (oP a0) λr1=>
 fA (λy2=>
 cond (y2)
 (some (r1,[]))
 (let r4:(List UInt8):=SD a0.Seed a0.N
 some ((⟨r1.Seed,mA .i64 a0.N 1⟩:Ae),r4))) λk3=>
 cond (!(mE a0))
 (k3 true)
 (k3 (a0.N==10000))
def Ee(a0:List UInt8)(a1:List UInt8)(a2:Int):=
 fA (λy1=>
 cond (y1)
 (some ([],false))
 (fA (λ(y3:(List UInt8)×(List UInt8))=>
 cond (decide (0≤(0:Int))&&decide ((0:Int)≤a2)&&decide (a2≤(y3.1.length:Int))) (cond (decide (([]:List UInt8).length+(List.take ((a2 - 0).toNat) (List.drop 0 y3.1)).length≤eA)) (some ([]++(List.take ((a2 - 0).toNat) (List.drop 0 y3.1)),true)) none) none) λk4=>
 yA FU (λ(x5:(List UInt8)×(List UInt8)×Int) k6=>
 cond (decide ((x5.1.length:Int)<a2))
 (cond (decide (([]:List UInt8).length+x5.2.1.length≤eA)) (cond (decide (([]++x5.2.1).length+a1.length≤eA)) (cond (decide ((([]++x5.2.1)++a1).length+[UInt8.ofNat (IntKind.wrap .u8 x5.2.2:Int).toNat].length≤eA)) (let x7:List UInt8:=(([]++x5.2.1)++a1)++[UInt8.ofNat (IntKind.wrap .u8 x5.2.2:Int).toNat]
 let r8:(List UInt8):=xD a0 x7
 cond (decide (x5.1.length+r8.length≤eA)) (k6 ((x5.1++r8),r8,(mA .i64 x5.2.2 1))) none) none) none) none)
 (k4 (x5.1,x5.2.1))) ([],[],1))) λk2=>
 cond (!(oA a2 0 8160))
 (k2 true)
 (cond (decide ((a1.length:Int)>100))
 (k2 true)
 (k2 (decide ((a0.length:Int)>1048576))))
def Fb(a0:List UInt8)(a1:List UInt8):=
 cond (Nat.ble a1.length eA) (let r1:(List UInt8)×Bool:=KE a0 a1 32
 some r1.1) none
def Fc(a0:List UInt8):=
 cond ((a0.length:Int) !=12)
 (some (⟨[]⟩:Ap))
 (ob (VH a0 [106,97,114]) λr1=>
 some (⟨r1⟩:Ap))
def Fd(a0:Int):=
 cond (!(oA a0 1 6))
 (some (⟨0,[]⟩:Ai))
 (some (⟨a0,[]⟩:Ai))
def Fe(a0:List (List UInt8))(a1:List UInt8)(a2:Int):=
 ob (lI (⟨a1,0⟩:Ae)) λr1=>
 let r2:Ap:=yF r1.2;let r3:Ai:=vF a2
 fA (λ(y4:Aa)=>
 ob (jE y4) λr9=>
 cond (!r9)
 (some (⟨[],(⟨[]⟩:Ap),(⟨[],0⟩:Ae),(⟨0,[]⟩:Ai),[]⟩:Aa))
 (some y4)) λk5=>
 yA FU (λ(x6:Int×Aa) k7=>
 cond (decide (x6.1<(a0.length:Int)))
 (ob (vA a0 x6.1) λe8=>
 cond (decide (([]:List UInt8).length+e8.length≤eA)) (cond (decide (x6.2.Psks.length+[[]++e8].length≤eA)) (k7 ((mA .i64 x6.1 1),(⟨x6.2.Psks++[[]++e8],x6.2.J,x6.2.D,x6.2.T,x6.2.Cr⟩:Aa))) none) none)
 (k5 x6.2)) (0,(⟨[],r2,r1.1,r3,[]⟩:Aa))
def Ff(a0:List UInt8):=
 cond (decide (([]:List UInt8).length+a0.length≤eA)) (fA (λ(y1:(List UInt8))=>
 cond (decide (y1.length+[UInt8.ofNat (99:Int).toNat].length≤eA)) (some (y1++[UInt8.ofNat (99:Int).toNat])) none) λk2=>
 cond (decide ((([]++a0).length:Int)>31))
 (cond (decide (0≤(0:Int))&&decide ((0:Int)≤31)&&decide (31≤(([]++a0).length:Int))) (k2 (List.take 31 ([]++a0))) none)
 (k2 ([]++a0))) none
def Fg(a0:Int)(a1:List UInt8)(a2:Af):=
 fA (λy1=>
 cond (y1)
 (some (⟨0,[],(⟨0,0⟩:Af),0,[],(⟨0,0,[],[],0,[],[],0,0,[],[]⟩:Ac),(⟨0,[],(⟨0,[],0,(⟨0,[]⟩:Al)⟩:Aq),(⟨0,[],0,(⟨0,[]⟩:Al)⟩:Aq),false,0,[]⟩:Ah),(⟨false,0,0,0⟩:Aj),(⟨false,0,0,0⟩:Aj),0⟩:Ab))
 (cond (decide (([]:List UInt8).length+a1.length≤eA)) (some (⟨a0,[]++a1,a2,0,[],(⟨0,0,[],[],0,[],[],0,0,[],[]⟩:Ac),(⟨0,[],(⟨0,[],0,(⟨0,[]⟩:Al)⟩:Aq),(⟨0,[],0,(⟨0,[]⟩:Al)⟩:Aq),false,0,[]⟩:Ah),(⟨false,0,0,0⟩:Aj),(⟨false,0,0,0⟩:Aj),0⟩:Ab)) none)) λk2=>
 cond (!(oA a0 1 9))
 (k2 true)
 (cond (!(nE a1))
 (k2 true)
 (k2 (!(WB a2))))
def Fh(a0:List UInt8):=
 cond (decide (([]:List UInt8).length+a0.length≤eA)) (some (⟨14,0,0,[],[],0,0,[]++a0,[],(⟨0,0⟩:Af),0⟩:Ak)) none
def Fi(a0:List UInt8)(a1:List UInt8)(a2:List UInt8)(a3:Int):=
 ob (IH [a1,a2] a0 a3) λr1=>
 ob (jE r1) λr2=>
 cond (!r2)
 (some (⟨0,[],(⟨[],(⟨[]⟩:Ap),(⟨[],0⟩:Ae),(⟨0,[]⟩:Ai),[]⟩:Aa),(⟨[],0⟩:Ae),[],[],[]⟩:Ag))
 (ob (UP a0) λr3=>
 let r4:Af:=KD 1
 ob (JE 1 a1 r4) λr5=>
 let r6:Af:=KD 2
 ob (JE 2 a2 r6) λr7=>
 let r8:(List UInt8):=SD a0 0
 ob (WG r8) λr9=>
 cond (decide (([]:List UInt8).length+r1.J.Secret.length≤eA)) (let x10:List Ak:=[r9,(⟨12,0,0,[],[],0,0,[],[]++r1.J.Secret,(⟨0,0⟩:Af),0⟩:Ak)]
 some (⟨0,[r5,r7],r1,(⟨r3,0⟩:Ae),[],[],x10⟩:Ag)) none)
end
end Go.D
namespace Go.D
end Go.D
namespace Go.D
def Ok{α:Type}(o:Option α)(P:α→Prop):Prop:=∃r,o=some r∧P r
def Ok.bind{α β:Type}{o:Option α}{P:α→Prop}{Q:β→Prop}{f:α→Option β}(h:Ok o P)(k:∀r,P r→Ok (f r) Q):Ok (Option.bind o f) Q:=by
 obtain⟨r,rfl,h⟩:=h;exact k r h
def Ok.mono{α:Type}{o:Option α}{P Q:α→Prop}(h:Ok o P)(k:∀r,P r→Q r):Ok o Q:=by
 obtain⟨r,h1,h2⟩:=h;exact⟨r,h1,k r h2⟩
def Ok.cond'{α:Type}{b:Bool}{x y:Option α}{P:α→Prop}(h1:b=true→Ok x P)(h2:b=false→Ok y P):Ok (cond b x y) P:=by
 cases b
 ·exact h2 rfl
 ·exact h1 rfl
def Ok.loop{σ R:Type}{f:σ→(σ→Option R)→Option R}{P:R→Prop}(inv:σ→Prop)(μ:σ→Nat)
  (h:∀x,inv x→∀k:σ→Option R,(∀y,inv y→μ y<μ x→Ok (k y) P)→Ok (f x k) P) {x:σ} (hx:inv x) (hμ:μ x<2^64):Ok (yA FU f x) P:=by
 rw[zcB]
 have:∀(n:Nat) (x:σ),inv x→μ x<n→Ok (yA n f x) P:=by
  intro n;induction n with
  | zero=>intro x _ hn;omega
  | succ n ih=>intro x hx hn;exact h x hx (yA n f) λy hy vV=>ih y hy (by omega)
 exact this _ x hx hμ
def zi8(c:Bh):Prop:=0≤c.i∧c.i≤c.b.length∧c.b.length≤1048576
end Go.D
namespace Go.D
def zbQ{i n:Nat}(h:i<n):decide ((i:Int)<(n:Int))=true:=by simpa using h
def zic(n:Nat):decide ((n:Int)<(n:Int))=false:=by simp
end Go.D
namespace Go.D
open Option renaming bind→ob
def rI{n:Nat}{α:Type}(h:n≤eA):decide (([]:List α).length+n≤eA)=true:=by simpa using h
def OI{β:Type}{a:List UInt8}{f:List UInt8→Option β}(h:wt a≤eA):ob (lE a) f=f a:=FA h
def ZM.ok{x}(_:sA [.v .Dice] x){r}:lI x=some r→En x=some r:=YA λh=>by
 rw[TH]at h;simp only[En,fA,mG];rw[OI h];cases h1:mE x
 ·rfl
 ·simp only[Bool.not_true,cond_false,Bool.false_or];cases(Ae.N x==10000)<;>rfl
def vM.ok{x}(_:sA [.v .Dice] x){r}:oP x=some r→Ez x=some r:=YA λh=>by
 rw[TH,LA]at h;simp only[Ez];rw[rI h];rfl
def TM.ok{x}(_:sA [.v .Dice] x){r}:lI x=some r→Fa x=some r:=YA λh=>by
 simp only[Fa,fA,mG];rw[oP,FA h];cases h1:mE x
 ·rfl
 ·simp only[Bool.not_true,cond_false,Bool.false_or];cases(Ae.N x==10000)<;>rfl
def pM.ok{x}(_:sA [.sl .bs] x){r}:pP x=some r→Eo x=some r:=YA λh=>by
 have hl:=fJ (α:=List UInt8) x;simp only[Eo,fA]
 have key:=zE (f:=λ(x3:(List (List UInt8))×Int) k4=>cond (decide (x3.2<(List.length (α:=List UInt8) x:Int))) (ob (vA (α:=List UInt8) x x3.2) λe5=>ob (lE e5) λr6=>
   cond (decide (x3.1.length+[r6].length≤eA)) (k4 ((x3.1++[r6]),(mA .i64 x3.2 1))) none) (some x3.1)) (g:=λ_=>some x)
  (fun y:List (List UInt8) × Int=>y.2=(y.1.length:Int)∧y.1=List.take (α:=List UInt8) y.1.length x) (fun y=>List.length (α:=List UInt8) x - y.1.length) (fun y hy k hk=>by
   obtain⟨o,i⟩:=y;obtain⟨h1,h2⟩:=hy;simp only at h1 h2 hk⊢;subst h1
   by_cases hi:o.length<List.length (α:=List UInt8) x
   ·have hw:=EQ (l:=x) hi;rw[zbQ hi,cond_true,rC hi,lB,OI (by omega),decide_eq_true (by simp;omega),cond_true];rw[mA,fH _ (by rw[IC];have:=HB;omega)];refine hk _ ⟨by simp,?_⟩ (by simp;omega);simp only[List.length_append,List.length_cons,List.length_nil];rw[cH (l:=x) hi, ←h2]
   ·have ho:o=x:=by rw[h2,List.take_of_length_le (by omega)]
    rw[decide_eq_false (by omega),cond_false,ho]) (x:=([],(0:Int))) ⟨rfl,rfl⟩ (by show List.length (α:=List UInt8) x - 0<2^64;have:=HB;omega)
 exact key
def IM{k info:List UInt8}(hk:k.length≤1048576)(hi:info.length≤100):∀j,(cF k info (j+1)).length=32
 | 0=>PP hk (by simp[cF];omega)
 | j+1=>PP hk (by rw[List.length_append,List.length_append,IM hk hi j];simp;omega)
def aV{k info:List UInt8}(hk:k.length≤1048576)(hi:info.length≤100)(j:Nat):(cF k info j).length≤32:=by
 cases j with
 | zero=>exact Nat.zero_le _
 | succ j=>rw[IM hk hi];exact Nat.le_refl _
def NK{k info:List UInt8}(hk:k.length≤1048576)(hi:info.length≤100):∀j,(wF k info j).length=32 *j
 | 0=>rfl
 | j+1=>by rw[wF,List.length_append,NK hk hi j,IM hk hi];omega
def za4{k info:List UInt8}(hk:k.length≤1048576)(hi:info.length≤100)(n:Nat)(hn:n≤8160){R:Type}(z:List UInt8→Option R)
  {f:List UInt8×List UInt8×Int→(List UInt8×List UInt8×Int→Option R)→Option R}
  (hf:∀(j:Nat) (K:List UInt8×List UInt8×Int→Option R),32 *j<n→f (wF k info j,cF k info j,((j+1:Nat):Int)) K=K (wF k info (j+1),cF k info (j+1),((j+2:Nat):Int)))
  (hz:∀(j:Nat) (K:List UInt8×List UInt8×Int→Option R),n≤32 *j→f (wF k info j,cF k info j,((j+1:Nat):Int)) K=z (wF k info j)):
  yA FU f ([],[],(1:Int))=z (wF k info ((n+31) / 32)):=by
 have key:=zE (f:=f) (g:=λ_=>z (wF k info ((n+31) / 32))) (λx=>∃j,x=(wF k info j,cF k info j,((j+1:Nat):Int))∧j≤(n+31) / 32) (λx=>10000 - x.1.length) (λx hx K hK=>by
  obtain⟨j,rfl,hj⟩:=hx
  by_cases hc:32 *j<n
  ·rw[hf j K hc];refine hK _ ⟨j+1,rfl,by omega⟩ ?_;simp only[NK hk hi];omega
  ·rw[hz j K (by omega)];have:j=(n+31) / 32:=by omega
   rw[this]) (x:=([],[],(1:Int))) ⟨0,rfl,Nat.zero_le _⟩ (by show 10000 - 0<2^64;omega)
 exact key
def ze9(a b c:List UInt8):([a,b,c]:List (List UInt8)).flatten=a++b++c:=by simp
def zgW(a b c:List UInt8):wt ([a,b,c]:List (List UInt8))=a.length+b.length+c.length+3:=by
 rw[HD,HD,HD,eG,LA,LA,LA];omega
def BK{k info:List UInt8}{n:Int}(h:(!oA n 0 8160||decide ((info.length:Int)>100)||decide ((k.length:Int)>1048576))=true):KE k info n=([],false):=by rw[KE,h];rfl
def MU{k info:List UInt8}{n:Int}(h:(!oA n 0 8160||decide ((info.length:Int)>100)||decide ((k.length:Int)>1048576))=false):KE k info n=((wF k info ((n.toNat+31) / 32)).take n.toNat,true):=by rw[KE,h];rfl
def zdB(k info:List UInt8)(n:Int):Ed k info n=some (KE k info n):=by
 have hL:=HB;simp only[Ed,fA];cases h1:oA n 0 8160
 ·rw[BK (by rw[h1];rfl)];rfl
 cases h2:decide ((info.length:Int)>100)
 case true=>rw[BK (by rw[h1,h2];rfl)];rfl
 cases h3:decide ((k.length:Int)>1048576)
 case true=>rw[BK (by rw[h1,h2,h3];rfl)];rfl
 rw[MU (by rw[h1,h2,h3];rfl)];have h1:=GD.1 h1;have h2:info.length≤100:=by have:=of_decide_eq_false h2;omega
 have h3:k.length≤1048576:=by have:=of_decide_eq_false h3;omega
 obtain⟨m,rfl⟩:=Int.eq_ofNat_of_zero_le h1.1;simp only[Bool.not_true,cond_false,Int.toNat_natCast];refine za4 (R:=List UInt8×Bool) h3 h2 m (by omega) (λo=>some (o.take m,true)) (λj K hj=>?_) (λj K hj=>?_)
 ·have JV:=aV h3 h2 j;rw[NK h3 h2,decide_eq_true (by omega),cond_true,AE,FA (by rw[zgW];simp;omega),ze9];have:xD k (cF k info j++info++[UInt8.ofNat (IntKind.wrap .u8 ((j+1:Nat):Int)).toNat])=cF k info (j+1):=rfl;rw[this,IM h3 h2,decide_eq_true (by omega),cond_true,mA,fH (j+1) (by rw[IC];omega)];rfl
 ·rw[NK h3 h2,decide_eq_false (by omega),cond_false,decide_eq_true (by omega),decide_eq_true (by omega),decide_eq_true (by omega)];simp only[Bool.and_self,cond_true,List.drop_zero,Int.sub_zero,Int.toNat_natCast];rw[OI (by rw[LA,List.length_take];omega)]
def lK.ok{x}(_:sA [.sl .byte, .sl .byte, .v .int] x):Ed x.1 x.2.1 x.2.2=some (KE x.1 x.2.1 x.2.2):=zdB x.1 x.2.1 x.2.2
def zdA(k info:List UInt8)(n:Int):Ee k info n=some (KE k info n):=by
 have hL:=HB;simp only[Ee,fA];cases h1:oA n 0 8160
 ·rw[BK (by rw[h1];rfl)];rfl
 cases h2:decide ((info.length:Int)>100)
 case true=>rw[BK (by rw[h1,h2];rfl)];rfl
 cases h3:decide ((k.length:Int)>1048576)
 case true=>rw[BK (by rw[h1,h2,h3];rfl)];rfl
 rw[MU (by rw[h1,h2,h3];rfl)];have h1:=GD.1 h1;have h2:info.length≤100:=by have:=of_decide_eq_false h2;omega
 have h3:k.length≤1048576:=by have:=of_decide_eq_false h3;omega
 obtain⟨m,rfl⟩:=Int.eq_ofNat_of_zero_le h1.1;simp only[Bool.not_true,cond_false,Int.toNat_natCast];refine za4 (R:=List UInt8×Bool) h3 h2 m (by omega) (λo=>some (o.take m,true)) (λj K hj=>?_) (λj K hj=>?_)
 ·have JV:=aV h3 h2 j;simp only;rw[NK h3 h2,decide_eq_true (by omega),cond_true,rI (by omega),cond_true,List.nil_append,decide_eq_true (by omega),cond_true,decide_eq_true (by simp;omega),cond_true];have:xD k (cF k info j++info++[UInt8.ofNat (IntKind.wrap .u8 ((j+1:Nat):Int)).toNat])=cF k info (j+1):=rfl;rw[this,IM h3 h2,decide_eq_true (by omega),cond_true,mA,fH (j+1) (by rw[IC];omega)];rfl
 ·rw[NK h3 h2,decide_eq_false (by omega),cond_false,decide_eq_true (by omega),decide_eq_true (by omega),decide_eq_true (by omega)];simp only[Bool.and_self,cond_true,List.drop_zero,Int.sub_zero,Int.toNat_natCast];rw[rI (by rw[List.length_take];omega)];rfl
def wK.ok{x}(_:sA [.sl .byte, .sl .byte, .v .int] x):Ee x.1 x.2.1 x.2.2=some (KE x.1 x.2.1 x.2.2):=zdA x.1 x.2.1 x.2.2
def LM.ok{x}(_:sA [.sl .byte, .v .str] x){r}:VH x.1 x.2=some r→Eq x.1 x.2=some r:=YA λh=>by
 rw[LA]at h;simp only[Eq,Nat.ble_eq_true_of_le h,cond_true];rfl
def FM.ok{x}(_:sA [.sl .byte, .v .str] x){r}:VH x.1 x.2=some r→Fb x.1 x.2=some r:=YA λh=>by
 rw[LA]at h;simp only[Fb,Nat.ble_eq_true_of_le h,cond_true];rfl
def zf7(k l:List UInt8):(PQ k l).length≤32:=by
 rw[PQ,KE];cases(!oA 32 0 8160||decide ((l.length:Int)>100)||decide ((k.length:Int)>1048576))
 ·show(List.take 32 _).length≤32
  rw[List.length_take];omega
 ·exact Nat.zero_le _
def zcJ:wt ([106,97,114]:List UInt8)≤eA:=by rw[LA,HB];decide
def GM.ok{x}(_:sA [.sl .byte] x):Er x=some (yF x):=by
 simp only[Er,yF];rw[VH,FA zcJ];cases PB x<;>rfl
def KM.ok{x}(_:sA [.sl .byte] x):Fc x=some (yF x):=by
 simp only[Fc,yF,PB];rw[VH,FA zcJ,bne];cases((List.length (α:=UInt8) x:Int)==12)<;>rfl
def zM.ok{x}(_:sA [.v .int] x):Es x=some (vF x):=by
 simp only[Es,vF];cases oA x 1 6<;>rfl
def CM.ok{x}(_:sA [.v .int] x):Fd x=some (vF x):=by
 simp only[Fd,vF];cases oA x 1 6<;>rfl
def yP(b:List UInt8):(yF b).Secret.length≤32:=by
 rw[yF];cases PB b
 ·exact Nat.zero_le _
 ·exact zf7 _ _
def QU(d:Ae):(mG d).1.Seed=d.Seed:=by
 rw[mG];cases(!mE d||d.N==10000)<;>rfl
def zfn(n:Int):wt (vF n)=0:=by
 rw[vF];cases oA n 1 6<;>rfl
def JM(p:List (List UInt8))(s:List UInt8)(m:Int):wt (SB p s m)≤wt p+wt s+32:=by
 rw[dP,BT,TH];have h1:=yP (mG ⟨s,0⟩).2;have h2:=QU ⟨s,0⟩;have h3:=zfn m;show wt p+wt (yF (mG ⟨s,0⟩).2).Secret+wt (mG ⟨s,0⟩).1.Seed+wt (vF m)+0≤_
 rw[h2,h3,LA];show wt p+_+wt s+0+0≤_;omega
def dM.ok{x}(_:sA [.sl .bs, .sl .byte, .v .int] x){r}:IH x.1 x.2.1 x.2.2=some r→Et x.1 x.2.1 x.2.2=some r:=YA λh=>by
 obtain⟨p,s,m⟩:=x;simp only at h;have hw:=JM p s m;simp only[Et,WF];rw[lI,FA (by rw[TH];show wt s≤eA;omega),pP,FA (by omega)];show ob (jE (SB p s m)) _=_
 rw[jE,FA (by omega)];cases WE (SB p s m)<;>rfl
def aM.ok{x}(_:sA [.sl .bs, .sl .byte, .v .int] x){r}:IH x.1 x.2.1 x.2.2=some r→Fe x.1 x.2.1 x.2.2=some r:=YA λh=>by
 obtain⟨p,s,m⟩:=x;simp only at h;have hL:=HB;have hw:=JM p s m;have hl:=fJ p;simp only[Fe,WF];rw[lI,FA (by rw[TH];show wt s≤eA;omega)];simp only[fA]
 have key:=zbp (σ:=Aa) (R:=Aa) p.length (by rw[IC];omega) (f:=λ(x6:Int×Aa) k7=>cond (decide (x6.1<(p.length:Int))) (ob (vA p x6.1) λe8=>
   cond (decide (([]:List UInt8).length+e8.length≤eA)) (cond (decide (x6.2.Psks.length+[[]++e8].length≤eA)) (k7 ((mA .i64 x6.1 1),(⟨x6.2.Psks++[[]++e8],x6.2.J,x6.2.D,x6.2.T,x6.2.Cr⟩:Aa))) none) none)
   (ob (jE x6.2) λr9=>cond (!r9) (some (⟨[],(⟨[]⟩:Ap),(⟨[],0⟩:Ae),(⟨0,[]⟩:Ai),[]⟩:Aa)) (some x6.2)))
  (g:=λ_ _=>some (bif WE (SB p s m)then SB p s m else nN)) (λi t=>t=⟨p.take i,(SB p s m).J,(SB p s m).D,(SB p s m).T,[]⟩)
  (fun i t k hi ht hk=>by
   subst ht;have hwg:=EQ hi;rw[LA]at hwg;simp only;rw[zbQ hi,cond_true,rC hi,lB,rI (by omega),cond_true,decide_eq_true (by simp;omega),cond_true,List.nil_append, ←cH p hi];exact hk _ rfl)
  (fun t k ht=>by
   subst ht;simp only[List.take_length];rw[zic,cond_false];show ob (jE (SB p s m)) _=_
   rw[jE,FA (by omega)];cases WE (SB p s m)<;>rfl) 0 ⟨[],(SB p s m).J,(SB p s m).D,(SB p s m).T,[]⟩ (Nat.zero_le _) rfl
 exact key
def FR(id:Int)(psk:List UInt8)(a:Af):wt (iN id psk a)=wt psk:=by
 rw[vP];show wt psk+0+0+0+0+0+0=_
 omega
def zex(id:Int)(psk:List UInt8)(a:Af):BP (iN id psk a)=(oA id 1 9&&nE psk&&WB a):=by
 show(oA id 1 9&&nE psk&&WB a&&true)=_
 rw[Bool.and_true]
def fM.ok{x}(_:sA [.v .int, .sl .byte, .v .Addr] x){r}:JE x.1 x.2.1 x.2.2=some r→Eu x.1 x.2.1 x.2.2=some r:=YA λh=>by
 obtain⟨id,psk,a⟩:=x;simp only at h;simp only[Eu,aH];rw[OI h];show ob (UM (iN id psk a)) _=_
 rw[UM,FA (by rw[FR];exact h),zex];cases(oA id 1 9&&nE psk&&WB a)<;>rfl
def gM.ok{x}(_:sA [.v .int, .sl .byte, .v .Addr] x){r}:JE x.1 x.2.1 x.2.2=some r→Fg x.1 x.2.1 x.2.2=some r:=YA λh=>by
 obtain⟨id,psk,a⟩:=x;simp only at h;rw[LA]at h;simp only[Fg,aH,fA];rw[rI h];cases oA id 1 9
 ·rfl
 cases nE psk
 ·rfl
 cases WB a<;>rfl
def oM.ok{x}(_:sA [.sl .byte] x){r}:WG x=some r→Ew x=some r:=YA λh=>by
 simp only[Ew];rw[OI h];rfl
def cM.ok{x}(_:sA [.sl .byte] x){r}:WG x=some r→Fh x=some r:=YA λh=>by
 rw[LA]at h;simp only[Fh];rw[rI h];rfl
def wM.ok{x}(_:sA [.sl .byte] x){r}:UP x=some r→Ff x=some r:=YA λh=>by
 rw[LA]at h;have hL:=HB;simp only[Ff,fA,List.nil_append];rw[rI h,cond_true]
 by_cases hc:31<List.length (α:=UInt8) x
 ·rw[decide_eq_true (by omega),cond_true,decide_eq_true (by omega),decide_eq_true (by omega),decide_eq_true (by omega)];simp only[Bool.and_self,cond_true];rw[decide_eq_true (by simp;omega)];rfl
 ·rw[decide_eq_false (by omega),cond_false,decide_eq_true (by simp;omega),cond_true,jI,List.take_of_length_le (by omega)];rfl
def jN(a b:List UInt8):wt ([a,b]:List (List UInt8))=wt a+wt b+2:=by rw[HD,HD,eG];omega
def zfz{s a b:List UInt8}{m:Int}(h:WE (SB [a,b] s m)=true):1≤s.length∧s.length≤32:=by
 simp only[WE,Bool.and_eq_true]at h;have h1:=h.1.1.1.1.2;rw[show(SB [a,b] s m).D=(mG ⟨s,0⟩).1 from rfl,mE,Bool.and_eq_true,QU]at h1;have h2:1≤(s.length:Int)∧(s.length:Int)≤32:=GD.1 h1.1;exact⟨by omega,by omega⟩
def iS(s:List UInt8)(n:Int):(SD s n).length≤12:=by
 rw[SD];cases oA (s.length:Int) 1 32&&oA n 0 10000
 ·exact Nat.zero_le _
 ·simp only[cond_true,List.length_take];omega
def qM.ok{x}(_:sA [.sl .byte, .sl .byte, .sl .byte, .v .int] x){r}:NH x.1 x.2.1 x.2.2.1 x.2.2.2=some r→Ey x.1 x.2.1 x.2.2.1 x.2.2.2=some r:=YA λh=>by
 obtain⟨s,a,b,m⟩:=x;simp only at h;have hL:=HB;have hw:=JM [a,b] s m;rw[jN]at hw;simp only[Ey,OH,fA];rw[IH,FA (by rw[jN];omega)];cases hs:WE (SB [a,b] s m)
 ·have e:WF [a,b] s m=nN:=by rw[WF,hs];rfl
  rw[e,jE,FA (by show 0≤_;omega)];rfl
 have e:WF [a,b] s m=SB [a,b] s m:=by rw[WF,hs];rfl
 have hd:=zfz hs;have hj:((SB [a,b] s m).J).Secret.length≤32:=yP _;have I7:=iS s 0;rw[e,jE,FA (by omega),hs];simp only[Bool.not_true,cond_false,cond_true];rw[AE,FA (by rw[FL];simp;omega),nL]
 by_cases hc:s.length=32
 ·have K7:(List.drop 0 s)=s:=rfl;rw[show((s.length:Int)==32)=true by rw[hc];rfl,cond_true,decide_eq_true (by omega),decide_eq_true (by omega),decide_eq_true (by omega)];simp only[Bool.and_self,cond_true];rw[AE,FA (by rw[FL];simp;omega),nL,JE,FA (by omega),JE,FA (by omega),WG,FA (by rw[LA];omega),OI (by rw[LA];omega)];rfl
 ·rw[show((s.length:Int)==32)=false by simp;omega,cond_false,JE,FA (by omega),JE,FA (by omega),WG,FA (by rw[LA];omega),OI (by rw[LA];omega)];have:s++[UInt8.ofNat (99:Int).toNat]=jI s:=by rw[jI,List.take_of_length_le (by omega)];rfl
  rw[this];rfl
def nM.ok{x}(_:sA [.sl .byte, .sl .byte, .sl .byte, .v .int] x){r}:NH x.1 x.2.1 x.2.2.1 x.2.2.2=some r→Fi x.1 x.2.1 x.2.2.1 x.2.2.2=some r:=YA λh=>by
 obtain⟨s,a,b,m⟩:=x;simp only at h;have hL:=HB;have hw:=JM [a,b] s m;rw[jN]at hw;simp only[Fi,OH];rw[IH,FA (by rw[jN];omega)];cases hs:WE (SB [a,b] s m)
 ·have e:WF [a,b] s m=nN:=by rw[WF,hs];rfl
  rw[e,jE,FA (by show 0≤_;omega)];rfl
 have e:WF [a,b] s m=SB [a,b] s m:=by rw[WF,hs];rfl
 have hj:((SB [a,b] s m).J).Secret.length≤32:=yP _;have I7:=iS s 0;rw[e,jE,FA (by omega),hs];simp only[Bool.not_true,cond_false,cond_true];rw[UP,FA (by omega),JE,FA (by omega),JE,FA (by omega),WG,FA (by rw[LA];omega),rI (by omega)];rfl
end Go.D
namespace Go.D
def AU(id:Int)(psk:List UInt8)(a:Af):wt (aH id psk a)≤wt psk:=by
 rw[aH];cases(oA id 1 9&&nE psk&&WB a)
 ·rw[cond_false,FR];exact Nat.zero_le _
 ·rw[cond_true,FR];exact Nat.le_refl _
def zdY(b:List UInt8):wt (NO b)=b.length:=by
 rw[oQ];show 0+0+wt b+0+0=_
 rw[LA];omega
def zeK(b:List UInt8):wt (xS b)=b.length:=by
 rw[oQ];show 0+0+0+wt b+0=_
 rw[LA];omega
def zeP(s a b:List UInt8)(m:Int):wt (OH s a b m)≤2 *wt a+2 *wt b+wt s+200:=by
 rw[OH];cases WE (SB [a,b] s m)
 ·exact Nat.zero_le _
 ·have h1:=AU 1 a (KD 1);have h2:=AU 2 b (KD 2);have h3:=JM [a,b] s m;have h4:=iS s 0;have h5:(SB [a,b] s m).J.Secret.length≤32:=yP _;have h6:(jI s).length≤32:=by rw[jI,List.length_append,List.length_take];simp;omega
  have h7:=zdY (SD s 0);have h8:=zeK (SB [a,b] s m).J.Secret;rw[jN]at h3;rw[cond_true,IS,TH];show wt [aH 1 a (KD 1),aH 2 b (KD 2)]+wt (SB [a,b] s m)+wt (jI s)+0+0+wt [NO (SD s 0),xS (SB [a,b] s m).J.Secret]≤_
  rw[HD,HD,eG,HD,HD,eG,LA,h7,h8];omega
end Go.D

/-
 Sizes of the program's data.
-/
import Derived.Test.YtfipojlaeaeedaaGreatN4
set_option linter.all false
namespace Go.D
end Go.D
namespace Go.D
noncomputable section
def zfF:Aw:=⟨⟨0,0⟩,[],0⟩
def GI(c:Aw):Option Aw:=pt (wt c≤bA) c
def bJ(p:Aj)(a:Ae)(i:Nat):Bool:=(p.Cands[i]?).any λe=>wB e.A a
def GP(p:Aj)(a:Ae):Int:=OF p.Cands.length (bJ p a)
def WT(p:Aj)(a:Ae):Option Int:=pt (wt p≤bA) (GP p a)
def wN(p:Aj)(a:Ae):Aw×Bool:=bif jD p then(match p.Cands.find? λe=>wB e.A a with
 | some e=>(e,true)
 | none=>(zfF,false))else(zfF,false)
def tN(p:Aj)(a:Ae):Option (Aw×Bool):=pt (wt p≤bA) (wN p a)
def lE(l:List Ag)(a:Ae):Bool:=iD l&&bif decide (gB l a<0)then decide ((l.length:Int)≤6)else(l[(gB l a).toNat]?).any λc=>decide (c.Got≤999000)
def zbe(w:Aa)(a:Ae)(s:Al):Bool:=!wB s.P.At a&&!XA s.P.Cands.length (bJ s.P a)&&decide ((s.P.Cands.length:Int)<3)&&lE w.S.Cr a
def dI(w:Aa)(id:Int)(a:Ae):Bool:=yD w id&&bB a&&!wB a jE&&!((w.Clients[(2 - id).toNat]?).any λc=>wB c.At a)&&decide (w.S.D.N<10000)&&
 (w.Clients[(id - 1).toNat]?).any λc=>(cD w c).any (zbe w a)
def VI(w:Aa)(id:Int)(a:Ae):Option Bool:=pt (wt w≤bA) (dI w id a)
end
end Go.D
namespace Go.D
open Option renaming bind→ob
noncomputable section
def Lv(a0:Aw):=
 cond (decide (([]:List UInt8).length+a0.Draw.length≤bA)) (some (⟨a0.A,[]++a0.Draw,a0.Until⟩:Aw)) none
def Fh(a0:Aj)(a1:Ae):=
 cond (!(jD a0))
 (some ((⟨(⟨0,0⟩:Ae),[],0⟩:Aw),false))
 (aA (λ(y1:Aw)=>
 some ((⟨(⟨0,0⟩:Ae),[],0⟩:Aw),false)) λk2=>
 uA FU (λ(x3:Int×Aw) k4=>
 cond (decide (x3.1<(a0.Cands.length:Int)))
 (ob (lA a0.Cands x3.1) λe5=>
 let x6:Bool:=cond (e5.A.Host==a1.Host) (cond (e5.A.Port==a1.Port) (true) false) false
 cond (x6)
 (ob (lA a0.Cands x3.1) λe7=>
 ob (GI e7) λr8=>
 some (r8,true))
 (k4 ((iA .i64 x3.1 1),x3.2)))
 (k2 x3.2)) (0,(⟨(⟨0,0⟩:Ae),[],0⟩:Aw)))
def Lw(a0:List Ag)(a1:Ae):=
 aA (λ(y1:Unit)=>
 some (-1)) λk2=>
 uA FU (λ(x3:Int) k4=>
 cond (decide (x3<(a0.length:Int)))
 (ob (lA a0 x3) λe5=>
 let x6:Bool:=cond (e5.A.Host==a1.Host) (cond (e5.A.Port==a1.Port) (true) false) false
 cond (x6)
 (some x3)
 (k4 (iA .i64 x3 1)))
 (k2 ())) 0
def Lx(a0:List Ag)(a1:Ae):=
 cond (!(iD a0))
 (some false)
 (cond (decide ((gB a0 a1)<0))
 (some (decide ((a0.length:Int)≤6)))
 (ob (lA a0 (gB a0 a1)) λe1=>
 some (decide (e1.Got≤999000))))
def Fi(a0:Aa)(a1:Int)(a2:Ae):=
 aA (λy1=>
 cond (y1)
 (some false)
 (ob (lA a0.Clients (oA .i64 a1 1)) λe8=>
 ob (xC a0.S.T e8.C.Sn) λr9=>
 ob (lA a0.S.T.L r9) λe10=>
 ob (tN e10.P a2) λr11=>
 aA (λ(y12:Bool)=>
 some y12) λk13=>
 let x14:Bool:=!(cond (e10.P.At.Host==a2.Host) (cond (e10.P.At.Port==a2.Port) (true) false) false)
 cond (x14)
 (cond (!r11.2)
 (cond (decide ((e10.P.Cands.length:Int)<3))
 (k13 (lE a0.S.Cr a2))
 (k13 false))
 (k13 false))
 (k13 false))) λk2=>
 ob (YD a0 a1) λr3=>
 cond (!r3)
 (k2 true)
 (cond (!(bB a2))
 (k2 true)
 (let r4:Ae:=jE
 let x5:Bool:=cond (a2.Host==r4.Host) (cond (a2.Port==r4.Port) (true) false) false
 cond (x5)
 (k2 true)
 (ob (lA a0.Clients (oA .i64 2 a1)) λe6=>
 let x7:Bool:=cond (e6.At.Host==a2.Host) (cond (e6.At.Port==a2.Port) (true) false) false
 cond (x7)
 (k2 true)
 (k2 (decide (a0.S.D.N≥10000))))))
def Fj(a0:Aj)(a1:Ae):=
 aA (λ(y1:Unit)=>
 some (-1)) λk2=>
 uA FU (λ(x3:Int) k4=>
 cond (decide (x3<(a0.Cands.length:Int)))
 (ob (lA a0.Cands x3) λe5=>
 let x6:Bool:=cond (e5.A.Host==a1.Host) (cond (e5.A.Port==a1.Port) (true) false) false
 cond (x6)
 (some x3)
 (k4 (iA .i64 x3 1)))
 (k2 ())) 0
def Ly(a0:List Ag)(a1:Ae):=
 cond (!(iD a0))
 (some false)
 (cond (decide ((gB a0 a1)<0))
 (some (decide ((a0.length:Int)≤6)))
 (ob (lA a0 (gB a0 a1)) λe1=>
 some (decide (e1.Got≤999000))))
def Fk(a0:Aa)(a1:Int)(a2:Ae):=
 aA (λy1=>
 cond (y1)
 (some false)
 (ob (XG a0 a1) λr8=>
 aA (λy9=>
 cond (y9)
 (some false)
 (aA (λ(y13:Bool)=>
 some y13) λk14=>
 cond ((lE a0.S.Cr a2))
 (k14 (decide (a0.S.D.N<10000)))
 (k14 false))) λk10=>
 let x11:Bool:=cond (a2.Host==r8.2.1.P.At.Host) (cond (a2.Port==r8.2.1.P.At.Port) (true) false) false
 cond (x11)
 (k10 true)
 (ob (WT r8.2.1.P a2) λr12=>
 cond (decide (r12≥0))
 (k10 true)
 (k10 (decide ((r8.2.1.P.Cands.length:Int)≥3)))))) λk2=>
 ob (YD a0 a1) λr3=>
 cond (!r3)
 (k2 true)
 (cond (!(bB a2))
 (k2 true)
 (let r4:Ae:=jE
 let x5:Bool:=cond (a2.Host==r4.Host) (cond (a2.Port==r4.Port) (true) false) false
 cond (x5)
 (k2 true)
 (ob (lA a0.Clients (oA .i64 2 a1)) λe6=>
 let x7:Bool:=cond (a2.Host==e6.At.Host) (cond (a2.Port==e6.At.Port) (true) false) false
 k2 x7)))
end
end Go.D
namespace Go.D
end Go.D
namespace Go.D
def sS.ok{x}(hb:rA [.sl .Credit, .v .Addr] x):Lw x.1 x.2=some (gB x.1 x.2):=ze5 x.1 x.2 hb.1.1
def zdr(a b:Ae):wB a b=wB b a:=by
 unfold wB;rw[BEq.comm (a:=a.Host),BEq.comm (a:=a.Port)]
def XJ{a:Nat}(h:a≤bA):decide (([]:List UInt8).length+a≤bA)=true:=decide_eq_true (by simpa using h)
def nR.ok{x}(_:rA [.v .Cand] x){r}:GI x=some r→Lv x=some r:=KA λh=>by
 have h:wt (show Aw from x)≤bA:=h;rw[zbt]at h;have h2:=AA (show Aw from x).Draw;show(cond (decide (([]:List UInt8).length+(show Aw from x).Draw.length≤bA)) _ _)=_
 rw[XJ (by omega)];rfl
def zlq{p:Aj}(h:wt p≤bA){i:Nat}(hi:i<p.Cands.length):wt p.Cands[i]≤bA:=by
 rw[UI]at h;have:=LF hi;omega
def zho(p:Aj)(a:Ae)(h:wt p≤bA):Fj p a=some (GP p a):=by
 have hl:=UI p;simp only[Fj,aA,gF];rw[zaC p.Cands.length (oE (by omega)) (bJ p a) (λi k hi=>?_) (λk=>by simp only[BC,cond_false])]
 ·rfl
 ·simp only[pC hi,cond_true,dB hi,TA,bJ,VB hi]
def XL.ok{x}(_:rA [.v .Paths, .v .Addr] x){r}:WT x.1 x.2=some r→Fj x.1 x.2=some r:=KA λh=>zho x.1 x.2 h
def zky(p:Aj)(a:Ae):decide (GP p a≥0)=XA p.Cands.length (bJ p a):=by
 rcases UL p.Cands.length (bJ p a)with⟨h1,h2⟩ | ⟨m,h1,h2,_,h4⟩
 ·rw[h1,GP,h2];rfl
 ·rw[GP,h4,show XA p.Cands.length (bJ p a)=true from KI.2 ⟨m,h1,h2⟩];exact decide_eq_true (by omega)
def zjU{α σ R:Type}(l:List α)(hl:l.length≤maxLen)(p:α→Bool)(qX:α→Option R)(z:Option R){f:Int×σ→(Int×σ→Option R)→Option R}(s:σ)
  (hf:∀(i:Nat) (k:Int×σ→Option R) (h:i<l.length),f ((i:Int),s) k=bif p l[i]then qX l[i]else k (IntKind.wrap .i64 ((i:Int)+1),s)) (hz:∀k,f ((l.length:Int),s) k=z):
  uA FU f ((0:Int),s)=match l.find? p with
   | some e=>qX e
   | none=>z:=by
 have key:=zeO (σ:=σ) l.length hl (f:=f) (g:=λi _=>match(l.drop i).find? p with
   | some e=>qX e
   | none=>z) (λ_ t=>t=s) (λi t k hi ht hk=>by
   subst ht;rw[hf i k hi,hk t rfl,JM l hi,List.find?_cons];cases p l[i]<;>rfl) (λt k ht=>by subst ht;rw[hz];simp) 0 s (Nat.zero_le _) rfl
 simpa using key
def zhw(p:Aj)(a:Ae)(h:wt p≤bA):Fh p a=some (wN p a):=by
 have hl:=UI p;simp only[Fh,aA,gF,wN];cases jD p
 ·rfl
 simp only[Bool.not_true,cond_false,cond_true];rw[zjU p.Cands (oE (by omega)) (λe=>wB e.A a) (λe=>some (e,true)) _ _ (λi k hi=>?_) (λk=>by simp only[BC,cond_false];rfl)]
 ·cases p.Cands.find? _<;>rfl
 ·simp only[pC hi,cond_true,dB hi,TA,GI,FA (zlq h hi)]
def RL.ok{x}(_:rA [.v .Paths, .v .Addr] x){r}:tN x.1 x.2=some r→Fh x.1 x.2=some r:=KA λh=>zhw x.1 x.2 h
def zjV{p:Aj}(hp:jD p=true)(a:Ae):(wN p a).2=XA p.Cands.length (bJ p a):=by
 have e:=zee p.Cands λe=>wB e.A a;rw[wN,hp,cond_true];show _=XA p.Cands.length (λi=>(p.Cands[i]?).any λe=>wB e.A a)
 rw[e];cases hf:p.Cands.find? (λe=>wB e.A a)with
 | none=>
  cases ha:p.Cands.any λe=>wB e.A a
  ·rfl
  ·obtain⟨x,hx,hs⟩:=List.any_eq_true.1 ha;have:=List.find?_eq_none.1 hf x hx;exact absurd hs this
 | some x=>
  have:=List.find?_some hf;exact(List.any_eq_true.2 ⟨x,List.mem_of_find?_eq_some hf,this⟩).symm
def zcz(l:List Ag)(a:Ae):(cond (!(iD l)) (some false) (cond (decide ((gB l a)<0)) (some (decide ((l.length:Int)≤6))) (Option.bind (lA l (gB l a)) λe1=>some (decide (e1.Got≤999000)))))=some (lE l a):=by
 rw[lE];cases iD l
 ·rfl
 simp only[Bool.not_true,cond_false,Bool.true_and]
 rcases UL l.length (oG l a)with⟨h1,h2⟩ | ⟨m,h1,h2,_,h4⟩
 ·have:gB l a= -1:=h2;rw[this];rfl
 ·have:gB l a=(m:Int):=h4;rw[this,decide_eq_false (p:=(m:Int)<0) (by omega),dB h1,Int.toNat_natCast,VB h1];rfl
def BQ.ok{x}(_:rA [.sl .Credit, .v .Addr] x):Ly x.1 x.2=some (lE x.1 x.2):=zcz x.1 x.2
def yQ.ok{x}(_:rA [.sl .Credit, .v .Addr] x):Lx x.1 x.2=some (lE x.1 x.2):=zcz x.1 x.2
def HT{i:Nat}(hi:i<2){id:Int}(sX:id=(i:Int)+1):oA .i64 2 id=((1 - i:Nat):Int)∧(2 - id).toNat=1 - i:=by
 subst sX;refine⟨?_,by omega⟩;rw[oA,yB (by omega) (by omega)];omega
def zkh{w:Aa}(h:mD w=true):bD w.S=true:=by
 simp only[mD,Bool.and_eq_true]at h;exact h.1.1.1.1.1.1.1.2
def znu{s:Ac}(h:bD s=true):pF s.T=true:=by
 simp only[bD,Bool.and_eq_true]at h;exact h.1.1.1.2
def zmQ{t:Am}(h:pF t=true){m:Nat}(hm:m<t.L.length):MF t.L[m]=true:=by
 simp only[pF,Bool.and_eq_true,Bool.not_eq_true']at h;have:=xM.1 h.2 m hm;rw[aI,VB hm,Bool.or_eq_false_iff]at this;simpa using this.1
def zlp{s:Al}(h:MF s=true)(hd:s.Dead=false):jD s.P=true:=by
 simp only[MF,hd,cond_false,Bool.and_eq_true]at h;exact h.2.1.2
def zjs{w:Aa}{c:Ad}{s:Al}(hw:mD w=true)(h:cD w c=some s):jD s.P=true:=by
 rcases PR w c with⟨_,h2⟩ | ⟨_,_,h3⟩ | ⟨m,hm,_,_,(⟨_,h4⟩ | ⟨h5,h4⟩)⟩
 ·rw[h2]at h;cases h
 ·rw[h3]at h;cases h
 ·rw[h4]at h;cases h
 ·rw[h4]at h;cases h;exact zlp (zmQ (znu (zkh hw)) hm) h5
def zfr{s:Al}(h:wt s≤bA):wt s.P≤bA:=by
 rw[XH]at h;omega
def zhh(w:Aa)(id:Int)(a:Ae)(h:wt w≤bA):Fi w id a=some (dI w id a):=by
 have hw:=jF w h;simp only[Fi,aA,YD,FA h,gF,dI];cases hl:yD w id
 ·rfl
 obtain⟨hf,i,hi,e0,e1,e2,s,hs⟩:=mR hl;obtain⟨ho,sX⟩:=hP hf;have LV:=cP ho;obtain⟨o1,o2⟩:=HT (by omega) e0;have zY:1 - i<w.Clients.length:=by omega
 have SY:=zjs ho hs;have B4:=zfr (sT hw.2.2.2.1 hs);obtain⟨m,hm,f1,rfl⟩:=zdp hs;have LY:=NH _ (BI h hi)
 simp only[Bool.not_true,cond_false,e1,e2,o1,o2,dB hi,dB zY,TA,VB hi,VB zY,xC,FA (p:=wt w.S.T≤bA∧wt w.Clients[i].C.Sn≤bA) ⟨hw.2.2.2.1,LY.2.2.2.2.2.2.1⟩,f1,dB hm,hs,Option.any_some,
  tN,FA B4,zjV SY,zbe]
 rw[show decide (w.S.D.N≥10000)= !decide (w.S.D.N<10000) by rw[←Bool.not_not (decide (w.S.D.N≥10000)), ←decide_not];congr 2;exact propext (by omega)];cases bB a
 ·rfl
 cases wB a jE
 case true=>rfl
 cases wB w.Clients[1 - i].At a
 case true=>rfl
 cases decide (w.S.D.N<10000)
 ·rfl
 cases wB w.S.T.L[m].P.At a
 ·cases XA _ _<;>cases decide ((w.S.T.L[m].P.Cands.length:Int)<3)<;>rfl
 ·rfl
def CL.ok{x}(_:rA [.v .World, .v .int, .v .Addr] x){r}:VI x.1 x.2.1 x.2.2=some r→Fi x.1 x.2.1 x.2.2=some r:=KA λh=>zhh x.1 x.2.1 x.2.2 h
def zg5(w:Aa)(id:Int)(a:Ae)(h:wt w≤bA):Fk w id a=some (dI w id a):=by
 have hw:=jF w h;simp only[Fk,aA,YD,FA h,gF,dI];cases hl:yD w id
 ·rfl
 obtain⟨hf,i,hi,e0,e1,e2,s,hs⟩:=mR hl;obtain⟨ho,sX⟩:=hP hf;have LV:=cP ho;obtain⟨o1,o2⟩:=HT (by omega) e0;have zY:1 - i<w.Clients.length:=by omega
 have B4:=zfr (sT hw.2.2.2.1 hs);rw[oQ h hi e0 e2];simp only[Bool.not_true,cond_false,e2,o1,o2,dB zY,TA,VB hi,VB zY,KJ,hs,Option.any_some,WT,FA B4,zky,zbe]
 rw[show decide ((s.P.Cands.length:Int)≥3)= !decide ((s.P.Cands.length:Int)<3) by rw[←Bool.not_not (decide ((s.P.Cands.length:Int)≥3)), ←decide_not];congr 2;exact propext (by omega),
  zdr a s.P.At,zdr a w.Clients[1 - i].At]
 cases bB a
 ·rfl
 cases wB a jE
 case true=>rfl
 cases wB w.Clients[1 - i].At a
 case true=>rfl
 cases wB s.P.At a
 ·cases XA _ _<;>cases decide ((s.P.Cands.length:Int)<3)<;>cases lE w.S.Cr a<;>cases decide (w.S.D.N<10000)<;>rfl
 ·cases decide (w.S.D.N<10000)<;>rfl
def sL.ok{x}(_:rA [.v .World, .v .int, .v .Addr] x){r}:VI x.1 x.2.1 x.2.2=some r→Fk x.1 x.2.1 x.2.2=some r:=KA λh=>zg5 x.1 x.2.1 x.2.2 h
end Go.D

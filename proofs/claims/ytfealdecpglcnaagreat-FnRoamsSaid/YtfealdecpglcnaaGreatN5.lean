/-
 Sizes of the program's data.
-/
import Derived.Test.YtfealdecpglcnaaGreatN4
set_option linter.all false
namespace Go.D
end Go.D
namespace Go.D
noncomputable section
def zms:Aw:=⟨⟨0,0⟩,[],0⟩
def GH(c:Aw):Option Aw:=pt (wt c≤bA) c
def zG(p:Ai)(a:Af)(i:Nat):Bool:=(p.Cands[i]?).any λe=>IA e.A a
def uD(p:Ai)(a:Af):Int:=XG p.Cands.length (zG p a)
def NH(p:Ai)(a:Af):Option Int:=pt (wt p≤bA) (uD p a)
def FI(p:Ai)(a:Af):Aw×Bool:=bif VB p then(match p.Cands.find? λe=>IA e.A a with
 | some e=>(e,true)
 | none=>(zms,false))else(zms,false)
def wK(p:Ai)(a:Af):Option (Aw×Bool):=pt (wt p≤bA) (FI p a)
def LG(l:List Ak)(a:Af):Bool:=pC l&&bif decide (VA l a<0)then decide ((l.length:Int)≤6)else(l[(VA l a).toNat]?).any λc=>decide (c.Got≤999000)
def HO(w:Aa)(a:Af)(s:Ah):Bool:=!IA s.P.At a&&!qB s.P.Cands.length (zG s.P a)&&decide ((s.P.Cands.length:Int)<3)&&LG w.S.Cr a
def XM(w:Aa)(id:Int)(a:Af):Bool:=vJ w id&&EA a&&!IA a SB&&!((w.Clients[(2 - id).toNat]?).any λc=>IA c.At a)&&decide (w.S.D.N<10000)&&
 (w.Clients[(id - 1).toNat]?).any λc=>(GD w c).any (HO w a)
def YS(w:Aa)(id:Int)(a:Af):Option Bool:=pt (wt w≤bA) (XM w id a)
end
end Go.D
namespace Go.D
open Option renaming bind→ob
noncomputable section
def Qa(a0:Aw):=cond (([]:List UInt8).length+a0.Draw.length≤bA) (some (⟨a0.A,[]++a0.Draw,a0.Until⟩:Aw)) none
def Lg(a0:Ai)(a1:Af):=
 cond (!(VB a0))
 (some ((⟨(⟨0,0⟩:Af),[],0⟩:Aw),false))
 (aA (λ(y1:Aw)=>
 some ((⟨(⟨0,0⟩:Af),[],0⟩:Aw),false)) λk2=>
 uA FU (λ(x3:Int×Aw) k4=>
 cond (x3.1<(a0.Cands.length:Int))
 (ob (jA a0.Cands x3.1) λe5=>
 let x6:Bool:=cond (e5.A.Host==a1.Host) (cond (e5.A.Port==a1.Port) (true) false) false
 cond (x6)
 (ob (jA a0.Cands x3.1) λe7=>
 ob (GH e7) λr8=>
 some (r8,true))
 (k4 ((fA .i64 x3.1 1),x3.2)))
 (k2 x3.2)) (0,(⟨(⟨0,0⟩:Af),[],0⟩:Aw)))
def Qb(a0:List Ak)(a1:Af):=
 aA (λ(y1:Unit)=>
 some (-1)) λk2=>
 uA FU (λ(x3:Int) k4=>
 cond (x3<(a0.length:Int))
 (ob (jA a0 x3) λe5=>
 let x6:Bool:=cond (e5.A.Host==a1.Host) (cond (e5.A.Port==a1.Port) (true) false) false
 cond (x6)
 (some x3)
 (k4 (fA .i64 x3 1)))
 (k2 ())) 0
def Qc(a0:List Ak)(a1:Af):=cond (!(pC a0)) (some false) (cond ((VA a0 a1)<0) (some (decide ((a0.length:Int)≤6))) (ob (jA a0 (VA a0 a1)) λe1=>some (decide (e1.Got≤999000))))
def Lh(a0:Aa)(a1:Int)(a2:Af):=
 aA (λy1=>
 cond (y1)
 (some false)
 (ob (jA a0.Clients (oA .i64 a1 1)) λe8=>
 ob (CC a0.S.T e8.C.Sn) λr9=>
 ob (jA a0.S.T.L r9) λe10=>
 ob (wK e10.P a2) λr11=>
 aA (λ(y12:Bool)=>
 some y12) λk13=>
 let x14:Bool:=!(cond (e10.P.At.Host==a2.Host) (cond (e10.P.At.Port==a2.Port) (true) false) false)
 cond (x14)
 (cond (!r11.2)
 (cond ((e10.P.Cands.length:Int)<3)
 (k13 (LG a0.S.Cr a2))
 (k13 false))
 (k13 false))
 (k13 false))) λk2=>
 ob (UM a0 a1) λr3=>
 cond (!r3)
 (k2 true)
 (cond (!(EA a2))
 (k2 true)
 (let r4:Af:=SB
 let x5:Bool:=cond (a2.Host==r4.Host) (cond (a2.Port==r4.Port) (true) false) false
 cond (x5)
 (k2 true)
 (ob (jA a0.Clients (oA .i64 2 a1)) λe6=>
 let x7:Bool:=cond (e6.At.Host==a2.Host) (cond (e6.At.Port==a2.Port) (true) false) false
 cond (x7)
 (k2 true)
 (k2 (decide (a0.S.D.N≥10000))))))
def Li(a0:Ai)(a1:Af):=
 aA (λ(y1:Unit)=>
 some (-1)) λk2=>
 uA FU (λ(x3:Int) k4=>
 cond (x3<(a0.Cands.length:Int))
 (ob (jA a0.Cands x3) λe5=>
 let x6:Bool:=cond (e5.A.Host==a1.Host) (cond (e5.A.Port==a1.Port) (true) false) false
 cond (x6)
 (some x3)
 (k4 (fA .i64 x3 1)))
 (k2 ())) 0
def Qd(a0:List Ak)(a1:Af):=cond (!(pC a0)) (some false) (cond ((VA a0 a1)<0) (some (decide ((a0.length:Int)≤6))) (ob (jA a0 (VA a0 a1)) λe1=>some (decide (e1.Got≤999000))))
def Lj(a0:Aa)(a1:Int)(a2:Af):=
 aA (λy1=>
 cond (y1)
 (some false)
 (ob (kL a0 a1) λr8=>
 aA (λy9=>
 cond (y9)
 (some false)
 (aA (λ(y13:Bool)=>
 some y13) λk14=>
 cond ((LG a0.S.Cr a2))
 (k14 (decide (a0.S.D.N<10000)))
 (k14 false))) λk10=>
 let x11:Bool:=cond (a2.Host==r8.2.1.P.At.Host) (cond (a2.Port==r8.2.1.P.At.Port) (true) false) false
 cond (x11)
 (k10 true)
 (ob (NH r8.2.1.P a2) λr12=>
 cond (r12≥0)
 (k10 true)
 (k10 (decide ((r8.2.1.P.Cands.length:Int)≥3)))))) λk2=>
 ob (UM a0 a1) λr3=>
 cond (!r3)
 (k2 true)
 (cond (!(EA a2))
 (k2 true)
 (let r4:Af:=SB
 let x5:Bool:=cond (a2.Host==r4.Host) (cond (a2.Port==r4.Port) (true) false) false
 cond (x5)
 (k2 true)
 (ob (jA a0.Clients (oA .i64 2 a1)) λe6=>
 let x7:Bool:=cond (a2.Host==e6.At.Host) (cond (a2.Port==e6.At.Port) (true) false) false
 k2 x7)))
end
end Go.D
namespace Go.D
end Go.D
namespace Go.D
def zbV.ok{x}(hb:vA [.sl .Credit, .v .Addr] x):Qb x.1 x.2=some (VA x.1 x.2):=zlw x.1 x.2 hb.1.1
def zfh(a b:Af):IA a b=IA b a:=by
 unfold IA;rw[BEq.comm (a:=a.Host),BEq.comm (a:=a.Port)]
def JO{a:Nat}(h:a≤bA):decide (([]:List UInt8).length+a≤bA)=true:=decide_eq_true (by simpa using h)
def zbb.ok{x}(_:vA [.v .Cand] x){r}:GH x=some r→Qa x=some r:=QA λh=>by
 have h:wt (show Aw from x)≤bA:=h;rw[zdj]at h;have h2:=FA (show Aw from x).Draw;show(cond (([]:List UInt8).length+(show Aw from x).Draw.length≤bA) _ _)=_
 rw[JO (by omega)];rfl
def zuj{p:Ai}(h:wt p≤bA){i:Nat}(hi:i<p.Cands.length):wt p.Cands[i]≤bA:=by
 rw[tK]at h;have:=fG hi;omega
def zoK(p:Ai)(a:Af)(h:wt p≤bA):Li p a=some (uD p a):=by
 have hl:=tK p;simp only[Li,aA,qI];rw[zfu p.Cands.length (dG (by omega)) (zG p a) (λi k hi=>?_) (λk=>by simp only[UD,cond_false])]
 ·rfl
 ·simp only[sD hi,cond_true,DB hi,XA,zG,FD hi]
def oR.ok{x}(_:vA [.v .Paths, .v .Addr] x){r}:NH x.1 x.2=some r→Li x.1 x.2=some r:=QA λh=>zoK x.1 x.2 h
def zs7(p:Ai)(a:Af):decide (uD p a≥0)=qB p.Cands.length (zG p a):=by
 rcases KG p.Cands.length (zG p a)with⟨h1,h2⟩|⟨m,h1,h2,_,h4⟩
 ·rw[h1,uD,h2];rfl
 ·rw[uD,h4,show qB p.Cands.length (zG p a)=true from JM.2 ⟨m,h1,h2⟩];exact decide_eq_true (by omega)
def zsf{α σ R:Type}(l:List α)(hl:l.length≤maxLen)(p:α→Bool)(HX:α→Option R)(z:Option R){f:Int×σ→(Int×σ→Option R)→Option R}(s:σ)
  (hf:∀(i:Nat) (k:Int×σ→Option R) (h:i<l.length),f ((i:Int),s) k=bif p l[i]then HX l[i]else k (IntKind.wrap .i64 ((i:Int)+1),s)) (hz:∀k,f ((l.length:Int),s) k=z):
  uA FU f ((0:Int),s)=match l.find? p with
   | some e=>HX e
   | none=>z:=by
 have key:=zla (σ:=σ) l.length hl (f:=f) (g:=λi _=>match(l.drop i).find? p with
   | some e=>HX e
   | none=>z) (λ_ t=>t=s) (λi t k hi ht hk=>by
   subst ht;rw[hf i k hi,hk t rfl,vS l hi,List.find?_cons];cases p l[i]<;>rfl) (λt k ht=>by subst ht;rw[hz];simp) 0 s (Nat.zero_le _) rfl
 simpa using key
def zoW(p:Ai)(a:Af)(h:wt p≤bA):Lg p a=some (FI p a):=by
 have hl:=tK p;simp only[Lg,aA,qI,FI];cases VB p
 ·rfl
 simp only[Bool.not_true,cond_false,cond_true];rw[zsf p.Cands (dG (by omega)) (λe=>IA e.A a) (λe=>some (e,true)) _ _ (λi k hi=>?_) (λk=>by simp only[UD,cond_false];rfl)]
 ·cases p.Cands.find? _<;>rfl
 ·simp only[sD hi,cond_true,DB hi,XA,GH,PA (zuj h hi)]
def kR.ok{x}(_:vA [.v .Paths, .v .Addr] x){r}:wK x.1 x.2=some r→Lg x.1 x.2=some r:=QA λh=>zoW x.1 x.2 h
def zsg{p:Ai}(hp:VB p=true)(a:Af):(FI p a).2=qB p.Cands.length (zG p a):=by
 have e:=zkn p.Cands λe=>IA e.A a;rw[FI,hp,cond_true];show _=qB p.Cands.length (λi=>(p.Cands[i]?).any λe=>IA e.A a)
 rw[e];cases hf:p.Cands.find? (λe=>IA e.A a)with
 | none=>
  cases ha:p.Cands.any λe=>IA e.A a
  ·rfl
  ·obtain⟨x,hx,hs⟩:=List.any_eq_true.1 ha;have:=List.find?_eq_none.1 hf x hx;exact absurd hs this
 | some x=>
  have:=List.find?_some hf;exact(List.any_eq_true.2 ⟨x,List.mem_of_find?_eq_some hf,this⟩).symm
def zij(l:List Ak)(a:Af):(cond (!(pC l)) (some false) (cond ((VA l a)<0) (some (decide ((l.length:Int)≤6))) (Option.bind (jA l (VA l a)) λe1=>some (decide (e1.Got≤999000)))))=some (LG l a):=by
 rw[LG];cases pC l
 ·rfl
 simp only[Bool.not_true,cond_false,Bool.true_and]
 rcases KG l.length (uF l a)with⟨h1,h2⟩|⟨m,h1,h2,_,h4⟩
 ·have:VA l a= -1:=h2;rw[this];rfl
 ·have:VA l a=(m:Int):=h4;rw[this,decide_eq_false (p:=(m:Int)<0) (by omega),DB h1,Int.toNat_natCast,FD h1];rfl
def zaQ.ok{x}(_:vA [.sl .Credit, .v .Addr] x):Qd x.1 x.2=some (LG x.1 x.2):=zij x.1 x.2
def zaM.ok{x}(_:vA [.sl .Credit, .v .Addr] x):Qc x.1 x.2=some (LG x.1 x.2):=zij x.1 x.2
def zk7{i:Nat}(hi:i<2){id:Int}(VW:id=(i:Int)+1):oA .i64 2 id=((1 - i:Nat):Int)∧(2 - id).toNat=1 - i:=by
 subst VW;refine⟨?_,by omega⟩;rw[oA,FB (by omega) (by omega)];omega
def zsJ{w:Aa}(h:NA w=true):wB w.S=true:=by
 simp only[NA,Bool.and_eq_true]at h;exact h.1.1.1.1.1.1.1.2
def zxc{s:Ac}(h:wB s=true):GC s.T=true:=by
 simp only[wB,Bool.and_eq_true]at h;exact h.1.1.1.2
def zwg{t:Ao}(h:GC t=true){m:Nat}(hm:m<t.L.length):TB t.L[m]=true:=by
 simp only[GC,Bool.and_eq_true,Bool.not_eq_true']at h;have:=uG.1 h.2 m hm;rw[xK,FD hm,Bool.or_eq_false_iff]at this;simpa using this.1
def zui{s:Ah}(h:TB s=true)(hd:s.Dead=false):VB s.P=true:=by
 simp only[TB,hd,cond_false,Bool.and_eq_true]at h;exact h.2.1.2
def zrz{w:Aa}{c:Ae}{s:Ah}(hw:NA w=true)(h:GD w c=some s):VB s.P=true:=by
 rcases zbv w c with⟨_,h2⟩|⟨_,_,h3⟩|⟨m,hm,_,_,(⟨_,h4⟩|⟨h5,h4⟩)⟩
 ·rw[h2]at h;cases h
 ·rw[h3]at h;cases h
 ·rw[h4]at h;cases h
 ·rw[h4]at h;cases h;exact zui (zwg (zxc (zsJ hw)) hm) h5
def zl4{s:Ah}(h:wt s≤bA):wt s.P≤bA:=by
 rw[vK]at h;omega
def zoE(w:Aa)(id:Int)(a:Af)(h:wt w≤bA):Lh w id a=some (XM w id a):=by
 have hw:=nJ w h;simp only[Lh,aA,UM,PA h,qI,XM];cases hl:vJ w id
 ·rfl
 obtain⟨hf,i,hi,e0,e1,e2,s,hs⟩:=ziB hl;obtain⟨ho,VW⟩:=cV hf;have DV:=zfE ho;obtain⟨o1,o2⟩:=zk7 (by omega) e0;have L3:1 - i<w.Clients.length:=by omega
 have OZ:=zrz ho hs;have G6:=zl4 (zcz hw.2.2.2.1 hs);obtain⟨m,hm,f1,rfl⟩:=zrU hs;have J0:=EM _ (dO h hi)
 simp only[Bool.not_true,cond_false,e1,e2,o1,o2,DB hi,DB L3,XA,FD hi,FD L3,CC,PA (p:=wt w.S.T≤bA∧wt w.Clients[i].C.Sn≤bA) ⟨hw.2.2.2.1,J0.2.2.2.2.2.2.1⟩,f1,DB hm,hs,Option.any_some,
  wK,PA G6,zsg OZ,HO]
 rw[show decide (w.S.D.N≥10000)= !decide (w.S.D.N<10000)by rw[←Bool.not_not (decide (w.S.D.N≥10000)), ←decide_not];congr 2;exact propext (by omega)];cases EA a
 ·rfl
 cases IA a SB
 case true=>rfl
 cases IA w.Clients[1 - i].At a
 case true=>rfl
 cases decide (w.S.D.N<10000)
 ·rfl
 cases IA w.S.T.L[m].P.At a
 ·cases qB _ _<;>cases decide ((w.S.T.L[m].P.Cands.length:Int)<3)<;>rfl
 ·rfl
def QQ.ok{x}(_:vA [.v .World, .v .int, .v .Addr] x){r}:YS x.1 x.2.1 x.2.2=some r→Lh x.1 x.2.1 x.2.2=some r:=QA λh=>zoE x.1 x.2.1 x.2.2 h
def zor(w:Aa)(id:Int)(a:Af)(h:wt w≤bA):Lj w id a=some (XM w id a):=by
 have hw:=nJ w h;simp only[Lj,aA,UM,PA h,qI,XM];cases hl:vJ w id
 ·rfl
 obtain⟨hf,i,hi,e0,e1,e2,s,hs⟩:=ziB hl;obtain⟨ho,VW⟩:=cV hf;have DV:=zfE ho;obtain⟨o1,o2⟩:=zk7 (by omega) e0;have L3:1 - i<w.Clients.length:=by omega
 have G6:=zl4 (zcz hw.2.2.2.1 hs);rw[zes h hi e0 e2];simp only[Bool.not_true,cond_false,e2,o1,o2,DB L3,XA,FD hi,FD L3,kS,hs,Option.any_some,NH,PA G6,zs7,HO]
 rw[show decide ((s.P.Cands.length:Int)≥3)= !decide ((s.P.Cands.length:Int)<3)by rw[←Bool.not_not (decide ((s.P.Cands.length:Int)≥3)), ←decide_not];congr 2;exact propext (by omega),
  zfh a s.P.At,zfh a w.Clients[1 - i].At]
 cases EA a
 ·rfl
 cases IA a SB
 case true=>rfl
 cases IA w.Clients[1 - i].At a
 case true=>rfl
 cases IA s.P.At a
 ·cases qB _ _<;>cases decide ((s.P.Cands.length:Int)<3)<;>cases LG w.S.Cr a<;>cases decide (w.S.D.N<10000)<;>rfl
 ·cases decide (w.S.D.N<10000)<;>rfl
def FQ.ok{x}(_:vA [.v .World, .v .int, .v .Addr] x){r}:YS x.1 x.2.1 x.2.2=some r→Lj x.1 x.2.1 x.2.2=some r:=QA λh=>zor x.1 x.2.1 x.2.2 h
end Go.D

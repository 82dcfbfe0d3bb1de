/-
 What the laws' marks leave in data, what they count, and that it is found there again.
-/
import Derived.Test.YtkpkommmdacjlaaGreatL8
import Derived.Test.YtkpkommmdacjlaaGreatL4
import Derived.Test.YtkpkommmdacjlaaGreatL9
set_option linter.all false
namespace Go.D
noncomputable section
def RF(k:Int):Bool:=decide (k<0)
def zcm{k:Int}(h:0≤k):RF k=false:=by simp[RF];omega
structure MF(t:TN) where
 mr:List (El t)→Int→List (El t)×Int
 he:List (El t)→Int→Int
 ms:List (El t)→Nat
section
variable (G:(t:TN)→MF t)
def GC:V→Int→V×Int
 | .int .u8 _,k=>(.int .u8 (IntKind.wrap .u8 k),k+1)
 | .int .i64 _,k=>(.int .i64 k,k+1)
 | .bool _,k=>(.bool (Int.tmod k 3==0),k+1)
 | .sl t l,k=>(.sl t ((G t).mr l k).1,((G t).mr l k).2)
 | v,k=>(v,k)
def nC:List V→Int→List V×Int
 | [],k=>([],k)
 | c :: cs,k=>((GC G c k).1 :: (nC cs (GC G c k).2).1,(nC cs (GC G c k).2).2)
def QC:V→Int→Int
 | .int .u8 n,k=>bif n !=IntKind.wrap .u8 k then -1 else k+1
 | .int .i64 n,k=>bif n !=k then -1 else k+1
 | .bool b,k=>bif !(b==(Int.tmod k 3==0))then -1 else k+1
 | .sl t l,k=>(G t).he l k
 | _,k=>k
def vC:List V→Int→Int
 | [],k=>k
 | c :: cs,k=>bif RF (QC G c k)then -1 else vC cs (QC G c k)
def pC:V→Nat
 | .sl t l=>1+(G t).ms l
 | _=>1
def dC:List V→Nat
 | []=>0
 | c :: cs=>pC G c+dC cs
def tE(t:TN)(x:El t)(k:Int):El t×Int:=((zB t (nC G (enc t x) k).1).getD x,(nC G (enc t x) k).2)
end
def tG{α:Type}(f:α→Int→α×Int):List α→Int→List α×Int
 | [],k=>([],k)
 | x :: l,k=>((f x k).1 :: (tG f l (f x k).2).1,(tG f l (f x k).2).2)
def LF{α:Type}(f:α→Int→Int):List α→Int→Int
 | [],k=>k
 | x :: l,k=>bif RF (f x k)then -1 else LF f l (f x k)
def UC{α:Type}(f:α→Nat):List α→Nat
 | []=>0
 | x :: l=>f x+UC f l
def bE(G:(t:TN)→MF t)(t:TN):MF t:=⟨tG (tE G t),LF λx k=>vC G (enc t x) k,UC λx=>dC G (enc t x)⟩
def QF:Nat→(t:TN)→MF t
 | 0,_=>⟨λl k=>(l,k),λ_ k=>k,λ_=>0⟩
 | n+1,t=>bE (QF n) t
def mf:(t:TN)→MF t:=Classical.choose (⟨QF 6,rfl⟩:∃F:(t:TN)→MF t,F=QF 6)
def zcA:mf=QF 6:=Classical.choose_spec (⟨QF 6,rfl⟩:∃F:(t:TN)→MF t,F=QF 6)
section
variable {G H:(t:TN)→MF t} {r:Nat}
def ziX(h:∀t,t.rank<r→G t=H t){c:V}(hc:RG r c=true)(k:Int):GC G c k=GC H c k:=by
 cases c with
 | sl t l=>simp only[RG,Nat.blt_eq]at hc;simp only[GC,h t hc]
 | int kd n=>cases kd<;>rfl
 | _=>rfl
def ziV(h:∀t,t.rank<r→G t=H t){c:V}(hc:RG r c=true)(k:Int):QC G c k=QC H c k:=by
 cases c with
 | sl t l=>simp only[RG,Nat.blt_eq]at hc;simp only[QC,h t hc]
 | int kd n=>cases kd<;>rfl
 | _=>rfl
def ziw(h:∀t,t.rank<r→G t=H t){c:V}(hc:RG r c=true):pC G c=pC H c:=by
 cases c with
 | sl t l=>simp only[RG,Nat.blt_eq]at hc;simp only[pC,h t hc]
 | _=>rfl
def aR(h:∀t,t.rank<r→G t=H t):∀{cs:List V},cs.all (RG r)=true→(∀k,nC G cs k=nC H cs k)∧(∀k,vC G cs k=vC H cs k)∧dC G cs=dC H cs
 | [],_=>⟨λ_=>rfl,λ_=>rfl,rfl⟩
 | c :: cs,hc=>by
  simp only[List.all_cons,Bool.and_eq_true]at hc;obtain⟨i1,i2,i3⟩:=aR h hc.2;refine⟨λk=>?_,λk=>?_,?_⟩
  ·simp only[nC,ziX h hc.1,i1]
  ·simp only[vC,ziV h hc.1,i2]
  ·simp only[dC,ziw h hc.1,i3]
def zcw{t:TN}(h:∀t',t'.rank<t.rank→G t'=H t'):bE G t=bE H t:=by
 have e1:tE G t=tE H t:=by funext x k;simp only[tE,(aR h (fQ t x)).1]
 have e2:(λx k=>vC G (enc t x) k)=λx k=>vC H (enc t x) k:=by funext x k;exact(aR h (fQ t x)).2.1 k
 have e3:(λx=>dC G (enc t x))=λx=>dC H (enc t x):=by funext x;exact(aR h (fQ t x)).2.2
 unfold bE;rw[e1,e2,e3]
def zcf:∀(n m:Nat) (t:TN),t.rank<n→t.rank<m→QF n t=QF m t
 | 0,_,_,h,_=>by omega
 | n+1,0,_,_,h=>by omega
 | n+1,m+1,t,h1,h2=>zcw λt' h=>zcf n m t' (by omega) (by omega)
end
def zb7(t:TN):t.rank≤4:=by cases t<;>simp[TN.rank]
def jJ(t:TN):mf t=bE mf t:=by
 rw[zcA];show bE (QF 5) t=_
 exact zcw λt' h=>zcf 5 6 t' (by have:=zb7 t;omega) (by have:=zb7 t;omega)
def aN(t:TN)(x:El t):XA (lk t) (enc t x):=by
 cases t<;>(simp only[lk,enc];repeat' constructor)
 all_goals simp[BA,TN.cast,uA,sE,EH,rG]
def zbF(t:TN)(x:El t):zB t (enc t x)=some x:=by
 cases t<;>first | rfl | skip
 show zB .byte [.int .u8 (x.toNat:Int)]=some x
 simp[zB,tk,rG,aB]
def PE:V→Bool
 | .nil=>false
 | .int .u8 n=>decide (0≤n)&&decide (n<256)
 | _=>true
def JS(t:TN)(x:El t):(enc t x).all PE=true:=by
 cases t
 case byte=>
  have h:=UInt8.toNat_lt x;have h2:((UInt8.toNat x:Nat):Int)<256:=by omega
  simp only[enc,List.all_cons,List.all_nil,PE,Bool.and_true,Bool.and_eq_true,decide_eq_true_eq];exact⟨by omega,h2⟩
 all_goals rfl
def zaI:∀{cs ds:List V},ZA cs ds→cs.all PE=true→ds=cs
 | _,_, .nil,_=>rfl
 | _,_, .cons h r,hc=>by
  simp only[List.all_cons,Bool.and_eq_true]at hc;rw[zaI r hc.2];cases h with
  | refl=>rfl
  | byte n=>
   have h1:=hc.1;simp only[PE,Bool.and_eq_true,decide_eq_true_eq]at h1
   have h2:((UInt8.ofNat n.toNat).toNat:Int)=n:=by
    simp only[UInt8.toNat_ofNat'];omega
   rw[h2]
  | nil t=>cases hc.1
def zaP(t:TN){cs:List V}(h:XA (lk t) cs)(hc:cs.all PE=true):∃y,zB t cs=some y∧enc t y=cs:=by
 obtain⟨y,hy⟩:=bS t cs h;exact⟨y,hy,zaI (LC t hy) hc⟩
def tJ:LK→Bool
 | .s=>false
 | _=>true
section
variable {G:(t:TN)→MF t}
def zbX{c:LK}{b:V}(h:mR c b)(k:Int):mR c (GC G b k).1:=by
 cases c<;>obtain⟨n,h⟩:=h
 ·cases b<;>simp[uA]at h
  rename_i kd m;cases kd<;>simp at h
  exact⟨k,rfl⟩
 ·cases b<;>simp[rG]at h
  rename_i kd m;cases kd<;>simp at h
  exact⟨_,rfl⟩
 ·cases b<;>simp[sE]at h
  exact⟨_,rfl⟩
 ·cases b<;>simp[EH]at h
  exact⟨_,rfl⟩
 ·rename_i t;cases b<;>simp[BA]at h
  ·exact⟨[],rfl⟩
  ·rename_i s l;obtain⟨rfl,_⟩:=h;exact⟨_,(by simp only[GC,BA,dif_pos]:_=some (TN.cast rfl ((G s).mr l k).1))⟩
def zbZ{b:V}(h:PE b=true)(k:Int):PE (GC G b k).1=true:=by
 cases b with
 | int kd n=>
  cases kd<;>first | exact h | rfl | skip
  simp only[GC,PE,IntKind.wrap];simp[IntKind.signed,IntKind.bits];omega
 | nil=>exact h
 | _=>first | exact h | rfl
def zan:∀{ks:List LK} {cs:List V} (k:Int),XA ks cs→XA ks (nC G cs k).1
 | _,_,_, .nil=> .nil
 | _,_,k, .cons h r=> .cons (zbX h k) (zan _ r)
def zbj:∀{cs:List V} (k:Int),cs.all PE=true→(nC G cs k).1.all PE=true
 | [],_,_=>rfl
 | c :: cs,k,h=>by
  simp only[List.all_cons,Bool.and_eq_true]at h;simp only[nC,List.all_cons,Bool.and_eq_true];exact⟨zbZ h.1 k,zbj _ h.2⟩
def RS(t:TN)(x:El t)(k:Int):zB t (nC G (enc t x) k).1=some (tE G t x k).1∧enc t (tE G t x k).1=(nC G (enc t x) k).1:=by
 obtain⟨y,h1,h2⟩:=zaP t (zan k (aN t x)) (zbj (G:=G) k (JS t x));have:(tE G t x k).1=y:=by simp only[tE,h1];rfl
 rw[this];exact⟨h1,h2⟩
end
structure pR{t:TN}(F:MF t):Prop where
 le:∀l k,0≤k→k≤(F.mr l k).2∧(F.mr l k).2≤k+F.ms l
 he:∀l k,0≤k→F.he (F.mr l k).1 k=(F.mr l k).2
 hl:∀l k,0≤k→F.he l k≤k+F.ms l
 hs:∀l k,F.ms (F.mr l k).1=F.ms l
section
variable {G:(t:TN)→MF t} (hG:∀t,pR (G t))
include hG
def gC(c:V)(k:Int)(hk:0≤k):k≤(GC G c k).2∧(GC G c k).2≤k+pC G c∧QC G (GC G c k).1 k=(GC G c k).2:=by
 cases c with
 | sl t l=>
  obtain⟨h1,h2⟩:=(hG t).le l k hk;exact⟨h1,by simp only[GC,pC];push_cast;omega,(hG t).he l k hk⟩
 | int kd n=>cases kd<;>simp[GC,pC,QC]<;>omega
 | bool b=>simp[GC,pC,QC];omega
 | _=>simp[GC,pC,QC]<;>omega
def bU:∀(cs:List V) (k:Int),0≤k→k≤(nC G cs k).2∧(nC G cs k).2≤k+dC G cs∧vC G (nC G cs k).1 k=(nC G cs k).2
 | [],k,hk=>⟨Int.le_refl _,by simp[nC,dC],rfl⟩
 | c :: cs,k,hk=>by
  obtain⟨h1,h2,h3⟩:=gC hG c k hk;obtain⟨i1,i2,i3⟩:=bU cs (GC G c k).2 (by omega);simp only[nC,dC,vC];rw[h3];rw[zcm (by omega),cond_false];exact⟨by omega,by push_cast;omega,i3⟩
def hC(c:V)(k:Int)(hk:0≤k):QC G c k≤k+pC G c:=by
 cases c with
 | sl t l=>have:=(hG t).hl l k hk;simp only[QC,pC];push_cast;omega
 | int kd n=>cases kd<;>simp only[QC,pC]<;>first | omega | (cases(n !=k)<;>simp<;>omega) | (cases(n !=IntKind.wrap .u8 k)<;>simp<;>omega)
 | bool b=>simp only[QC,pC];cases(!(b==(Int.tmod k 3==0)))<;>simp<;>omega
 | _=>simp only[QC,pC];omega
def hU:∀(cs:List V) (k:Int),0≤k→vC G cs k≤k+dC G cs
 | [],k,hk=>by simp[vC,dC]
 | c :: cs,k,hk=>by
  have h1:=hC hG c k hk;simp only[vC,dC];cases hn:RF (QC G c k)
  ·have:0≤QC G c k:=by simp only[RF,decide_eq_false_iff_not]at hn;omega
   have:=hU cs (QC G c k) this;simp only[cond_false];push_cast;omega
  ·simp only[cond_true];omega
def sC(c:V)(k:Int):pC G (GC G c k).1=pC G c:=by
 cases c with
 | sl t l=>simp only[GC,pC,(hG t).hs]
 | int kd n=>cases kd<;>rfl
 | _=>rfl
def sCs:∀(cs:List V) (k:Int),dC G (nC G cs k).1=dC G cs
 | [],_=>rfl
 | c :: cs,k=>by simp only[nC,dC,sC hG,sCs cs]
def gS(t:TN):pR (bE G t):=by
 have key:∀(l:List (El t)) (k:Int),0≤k→(k≤((bE G t).mr l k).2∧((bE G t).mr l k).2≤k+(bE G t).ms l)∧(bE G t).he ((bE G t).mr l k).1 k=((bE G t).mr l k).2:=by
  intro l;induction l with
  | nil=>intro k _;exact⟨⟨Int.le_refl _,by simp[bE,tG,UC]⟩,rfl⟩
  | cons x l ih=>
   intro k hk;obtain⟨h1,h2,h3⟩:=bU hG (enc t x) k hk;obtain⟨⟨i1,i2⟩,i3⟩:=ih (tE G t x k).2 (by simp only[tE];omega);simp only[bE,tG,UC,LF]at i1 i2 i3⊢;rw[(RS t x k).2,h3,zcm (by omega),cond_false];refine⟨⟨?_,?_⟩,i3⟩
   ·simp only[tE]at i1⊢;omega
   ·simp only[tE]at i2⊢;push_cast;omega
 refine⟨λl k hk=>(key l k hk).1,λl k hk=>(key l k hk).2,λl=>?_,λl=>?_⟩
 rotate_left
 ·induction l with
  | nil=>intro k;rfl
  | cons x l ih=>
   intro k;simp only[bE,tG,UC]at ih⊢;rw[(RS t x k).2,sCs hG,ih]
 induction l with
 | nil=>intro k hk;simp[bE,LF,UC]
 | cons x l ih=>
  intro k hk;have h1:=hU hG (enc t x) k hk;simp only[bE,LF,UC]at ih⊢;cases hn:RF (vC G (enc t x) k)
  ·have:0≤vC G (enc t x) k:=by simp only[RF,decide_eq_false_iff_not]at hn;omega
   have:=ih (vC G (enc t x) k) this;simp only[cond_false];push_cast;omega
  ·simp only[cond_true];omega
end
def gN:∀(n:Nat) (t:TN),pR (QF n t)
 | 0,t=>⟨λl k hk=>⟨Int.le_refl _,by simp[QF]⟩,λl k hk=>rfl,λl k hk=>by simp[QF],λl k=>rfl⟩
 | n+1,t=>gS (gN n) t
def vJ(t:TN):pR (mf t):=by rw[zcA];exact gN 6 t
def zcv(t:TN)(l:List (El t)):l.length≤(mf t).ms l:=by
 rw[jJ];show l.length≤UC _ l
 have h1:∀cs,cs≠[]→1≤dC mf cs:=λcs h=>by
  cases cs with
  | nil=>exact absurd rfl h
  | cons c cs=>
   simp only[dC];have:1≤pC mf c:=by cases c<;>simp[pC]
   omega
 induction l with
 | nil=>simp
 | cons x l ih=>
  simp only[UC,List.length_cons];have:=h1 (enc t x) λh=>by have:=WA t x;rw[h]at this;have:=xF t;simp at *;omega
  omega
def JB:Int:=4611686018427387904
def SL(k:Int)(n:Nat):Prop:=0≤k∧k+n≤JB
def wC(t:TN)(l:List (El t))(k:Int):Option (List (El t)×Int):=pt (SL k ((mf t).ms l)) ((mf t).mr l k)
def WC(t:TN)(l:List (El t))(k:Int):Option Int:=pt (SL k ((mf t).ms l)∧0≤(mf t).he l k) ((mf t).he l k)
def kR:LK→Int→V
 | .i,k=> .int .i64 k
 | .by,k=> .int .u8 (IntKind.wrap .u8 k)
 | .b,k=> .bool (Int.tmod k 3==0)
 | _,_=> .undef
def hI{R:Type}(t:TN)(i:Int):Nat→List LK→List (El t)→Int→(List (El t)→Int→Option R)→Option R
 | _,[],l,k,K=>K l k
 | off,c :: r,l,k,K=>bif decide (0≤i)&&decide (i<(l.length:Int))then xI l i.toNat λy=>(match c with
   | .l t2=>match(enc t y).drop off with
    | .sl t3 l2 :: _=>if h:t3=t2 then Option.bind (wC t2 (TN.cast h l2) k) λq=>bnd (zB t (MB (enc t y) off [.sl t2 q.1])) λz=>hI t i (off+1) r (l.set i.toNat z) q.2 K else none
    | _=>none
   | c=>bnd (zB t (MB (enc t y) off [kR c k])) λz=>hI t i (off+1) r (l.set i.toNat z) (IntKind.wrap .i64 (k+1)) K)else none
def hR(t:TN)(l:List (El t))(k:Int):Option (List (El t)×Int):=
 yA FU (λ(x:List (El t)×Int×Int) k'=>bif decide (x.2.2<(x.1.length:Int))then hI t x.2.2 0 (lk t) x.1 x.2.1 λl' k1=>k' (l',k1,IntKind.wrap .i64 (x.2.2+1))else some (x.1,x.2.1)) (l,k,0)
def eI(t:TN)(l:List (El t))(i:Int):Nat→List LK→Int→(Int→Option Int)→Option Int
 | _,[],k,K=>K k
 | off,c :: r,k,K=>Option.bind (vA l i) λy=>match c,(enc t y).drop off with
  | .i, .int .i64 n :: _=>cond (n !=k) (some (-1)) (eI t l i (off+1) r (IntKind.wrap .i64 (k+1)) K)
  | .by, .int .u8 n :: _=>cond (n !=IntKind.wrap .u8 k) (some (-1)) (eI t l i (off+1) r (IntKind.wrap .i64 (k+1)) K)
  | .b, .bool b :: _=>cond (!(b==(Int.tmod k 3==0))) (some (-1)) (eI t l i (off+1) r (IntKind.wrap .i64 (k+1)) K)
  | .l t2, .sl t3 l2 :: _=>if h:t3=t2 then Option.bind (WC t2 (TN.cast h l2) k) λq=>cond (decide (q<0)) (some (-1)) (eI t l i (off+1) r q K)else none
  | _,_=>none
def EF(t:TN)(l:List (El t))(k:Int):Option Int:=
 yA FU (λ(x:Int×Int) k'=>cond (decide (x.2<(l.length:Int))) (eI t l x.2 0 (lk t) x.1 λk1=>k' (k1,IntKind.wrap .i64 (x.2+1))) (some x.1)) (k,0)
def XA.dp:∀{ks:List LK} {vs:List V} (j:Nat),XA ks vs→XA (ks.drop j) (vs.drop j)
 | _,_,0,h=>h
 | _,_,_+1, .nil=> .nil
 | _,_,j+1, .cons _ r=>r.dp j
def XA.tp:∀{ks:List LK} {vs:List V} (j:Nat),XA ks vs→XA (ks.take j) (vs.take j)
 | _,_,0,_=> .nil
 | _,_,_+1, .nil=> .nil
 | _,_,j+1, .cons h r=> .cons h (r.tp j)
def zce(t:TN)(x:El t):(lk t).length=(enc t x).length:=(aN t x).len
def zas{R:Type}(t:TN)(i:Nat)(K:List (El t)→Int→Option R):∀(ks:List LK) (j:Nat) (l:List (El t)) (y:El t) (k:Int),(lk t).drop j=ks→ks.all tJ=true→l[i]?=some y→0≤k→
  k+dC mf ((enc t y).drop j)≤JB→∃y',enc t y'=(enc t y).take j++(nC mf ((enc t y).drop j) k).1∧hI t (i:Int) j ks l k K=K (l.set i y') (nC mf ((enc t y).drop j) k).2
 | [],j,l,y,k,oW,_,hy,_,_=>by
  have h1:(lk t).length≤j:=List.drop_eq_nil_iff.1 oW;rw[zce t y]at h1;refine⟨y,?_,?_⟩
  ·rw[List.drop_eq_nil_of_le h1,List.take_of_length_le h1];simp[nC]
  ·rw[List.drop_eq_nil_of_le h1];obtain⟨h2,rfl⟩:=List.getElem?_eq_some_iff.1 hy;simp only[hI,nC,List.set_getElem_self]
 | c :: r,j,l,y,k,oW,qZ,hy,hk,hB=>by
  obtain⟨hi,o7⟩:=List.getElem?_eq_some_iff.1 hy;simp only[List.all_cons,Bool.and_eq_true]at qZ;have hm:=(aN t y).dp j;rw[oW]at hm;obtain⟨b,B,uY,oZ,V8⟩:=hm.take;have cY:=JS t y
  have C1:∀v,MB (enc t y) j [v]=(enc t y).take j++v :: B:=λv=>by
   have:(enc t y).drop (j+1)=B:=by rw[←List.tail_drop,uY];rfl
   simp only[MB,List.length_singleton,this,List.append_assoc,List.singleton_append]
  have O1:PE b=true∧B.all PE=true∧((enc t y).take j).all PE=true:=by
   have h1:(enc t y).take j++b :: B=enc t y:=by rw[←uY,List.take_append_drop]
   rw[←h1,List.all_append,List.all_cons,Bool.and_eq_true,Bool.and_eq_true]at cY;exact⟨cY.2.1,cY.2.2,cY.1⟩
  rw[uY]at hB⊢;simp only[dC]at hB
  push_cast at hB
  obtain⟨g1,g2,_⟩:=gC vJ b k hk
  -- the element behind the step
  obtain⟨z,CY,X8⟩:=zaP t (cs:=(enc t y).take j++(GC mf b k).1 :: B) (by
    have:=((aN t y).tp j).app (XA.cons (zbX (G:=mf) oZ k) V8);rwa [←oW,List.take_append_drop]at this) (by
    rw[List.all_append,List.all_cons,Bool.and_eq_true,Bool.and_eq_true];exact⟨O1.2.2,zbZ O1.1 k,O1.2.1⟩)
  have SX:((enc t y).take j).length=j:=by
   have:j<(enc t y).length:=by
    rcases Nat.lt_or_ge j (enc t y).length with h | h
    ·exact h
    ·rw[List.drop_eq_nil_of_le h]at uY;cases uY
   rw[List.length_take];omega
  have Y8:(enc t z).drop (j+1)=B:=by
   rw[X8,List.drop_append,List.drop_eq_nil_of_le (by omega),List.nil_append,SX,Nat.add_sub_cancel_left];rfl
  have hzt:(enc t z).take (j+1)=(enc t y).take j++[(GC mf b k).1]:=by
   rw[X8,List.take_append,List.take_of_length_le (by omega),SX,Nat.add_sub_cancel_left];rfl
  have hr:(lk t).drop (j+1)=r:=by rw[←List.tail_drop,oW];rfl
  obtain⟨y',e1,e2⟩:=zas t i K r (j+1) (l.set i z) z (GC mf b k).2 hr qZ.2 (by rw[List.getElem?_set_self hi]) (by omega) (by rw[Y8];omega);rw[Y8]at e1 e2;rw[hzt]at e1;rw[List.set_set]at e2;refine⟨y',?_,?_⟩
  ·rw[e1];simp[nC]
  have hg:(decide ((0:Int)≤(i:Int))&&decide ((i:Int)<(l.length:Int)))=true:=by
   simp;omega
  have aB:hI t (↑i) (j+1) r (l.set i z) (GC mf b k).2 K=K (l.set i y') (nC mf (b :: B) k).2:=e2;rw[←aB];simp only[hI,hg,cond_true,xI,Int.toNat_natCast,hy,lB,C1];cases c with
  | s=>cases qZ.1
  | l t2=>
   obtain⟨n,hn⟩:=oZ;cases b<;>simp[BA]at hn
   ·cases O1.1
   ·rename_i t3 l2 _;obtain⟨rfl,_⟩:=hn;simp only[uY,dif_pos];have hf:SL k ((mf t3).ms l2):=⟨hk,by simp only[pC]at hB;push_cast at hB;omega⟩;have hc:TN.cast rfl l2=l2:=rfl;rw[wC,hc,FA hf,eF];have CY:zB t ((enc t y).take j++V.sl t3 ((mf t3).mr l2 k).1 :: B)=some z:=CY;rw[CY,lB];rfl
  | i=>
   obtain⟨n,hn⟩:=oZ;cases b<;>simp[uA]at hn
   rename_i kd m _;cases kd<;>try (simp at hn;done)
   have hw:IntKind.wrap .i64 (k+1)=k+1:=sB (by omega) (by simp only[pC,JB]at hB;omega);have CY:zB t ((enc t y).take j++V.int .i64 k :: B)=some z:=CY;simp only[kR,eF,CY,lB,hw];rfl
  | «by» =>
   obtain⟨n,hn⟩:=oZ;cases b<;>simp[rG]at hn
   rename_i kd m _;cases kd<;>try (simp at hn;done)
   have hw:IntKind.wrap .i64 (k+1)=k+1:=sB (by omega) (by simp only[pC,JB]at hB;omega);have CY:zB t ((enc t y).take j++V.int .u8 (IntKind.wrap .u8 k) :: B)=some z:=CY;simp only[kR,eF,CY,lB,hw];rfl
  | b=>
   obtain⟨n,hn⟩:=oZ;cases b<;>simp[sE]at hn
   have hw:IntKind.wrap .i64 (k+1)=k+1:=sB (by omega) (by simp only[pC,JB]at hB;omega);have CY:zB t ((enc t y).take j++V.bool (Int.tmod k 3==0) :: B)=some z:=CY;simp only[kR,eF,CY,lB,hw];rfl
def zfP{α:Type}{l:List α}{i:Nat}{y y':α}(h:l[i]?=some y):(l.set i y').take (i+1)=l.take i++[y']∧(l.set i y').drop (i+1)=l.drop (i+1)∧l.drop i=y :: l.drop (i+1):=by
 obtain⟨hi,rfl⟩:=List.getElem?_eq_some_iff.1 h;refine⟨?_,?_,(List.drop_eq_getElem_cons hi)⟩
 ·rw[List.take_set,List.take_succ_eq_append_getElem hi,List.set_append_right _ _ (by simp;omega)];simp[List.length_take,Nat.min_eq_left (Nat.le_of_lt hi)]
 ·rw[List.drop_set_of_lt (by omega)]
def zhN(t:TN)(hs:(lk t).all tJ=true)(l:List (El t))(k:Int)(hf:SL k ((mf t).ms l)):hR t l k=some ((mf t).mr l k):=by
 have YZ:0≤k∧k+((mf t).ms l:Nat)≤JB:=hf;have tV:=zcv t l;have F7:(mf t).ms l=UC (λx=>dC mf (enc t x)) l:=by rw[jJ];rfl
 have T4:(mf t).mr l k=tG (tE mf t) l k:=by rw[jJ];rfl
 have key:=zE (g:=λx:List (El t)×Int×Int=>some (x.1.take x.2.2.toNat++(tG (tE mf t) (x.1.drop x.2.2.toNat) x.2.1).1,(tG (tE mf t) (x.1.drop x.2.2.toNat) x.2.1).2))
  (f:=λ(x:List (El t)×Int×Int) k'=>bif decide (x.2.2<(x.1.length:Int))then hI t x.2.2 0 (lk t) x.1 x.2.1 λl' k1=>k' (l',k1,IntKind.wrap .i64 (x.2.2+1))else some (x.1,x.2.1))
  (fun x=>0≤x.2.2∧x.2.2≤x.1.length∧0≤x.2.1∧x.2.1+(UC (fun x=>dC mf (enc t x)) (x.1.drop x.2.2.toNat):Nat)≤JB∧(x.1.length:Int)≤JB) (fun x=>x.1.length - x.2.2.toNat) (fun x hx k' SV=>by
   obtain⟨l,k,i⟩:=x;obtain⟨h0,h1,h2,h3,h4⟩:=hx;simp only at h0 h1 h2 h3 h4 SV⊢;obtain⟨j,rfl⟩:=Int.eq_ofNat_of_zero_le h0;simp only[Int.toNat_natCast]at h3 SV⊢
   by_cases hj:j<l.length
   ·have hd:decide ((j:Int)<(l.length:Int))=true:=by simp;exact hj
    have hy:l[j]?=some l[j]:=List.getElem?_eq_getElem hj;obtain⟨s1,s2,s3⟩:=zfP (y':=(tE mf t l[j] k).1) hy;rw[hd,cond_true];rw[s3]at h3⊢;simp only[UC]at h3
    push_cast at h3
    obtain⟨y',e1,e2⟩:=zas t j (λl' k1=>k' (l',k1,IntKind.wrap .i64 ((j:Int)+1))) (lk t) 0 l l[j] k rfl hs hy h2 (by rw[List.drop_zero];omega);rw[List.take_zero,List.nil_append,List.drop_zero]at e1;rw[List.drop_zero]at e2
    have hyy:y'=(tE mf t l[j] k).1:=by
     have:=(RS (G:=mf) t l[j] k).2;have h5:=zbF t y';rw[e1, ←this,zbF]at h5;exact(Option.some.inj h5).symm
    obtain⟨g1,g2,_⟩:=bU vJ (enc t l[j]) k h2
    have hw:IntKind.wrap .i64 ((j:Int)+1)=((j+1:Nat):Int):=by
     rw[sB (by omega) (by simp only[JB]at h4;omega)];omega
    rw[e2,hyy,hw,SV _ ⟨by show(0:Int)≤((j+1:Nat):Int);omega,by show((j+1:Nat):Int)≤_;rw[List.length_set];omega,by show(0:Int)≤(nC mf (enc t l[j]) k).2;omega,by
     show(nC mf (enc t l[j]) k).2+((UC _ (List.drop (Int.toNat ((j+1:Nat):Int)) _):Nat):Int)≤JB
     rw[Int.toNat_natCast,s2];omega,by show((List.length _:Nat):Int)≤JB;rw[List.length_set];exact h4⟩ (by
     show List.length _ - Int.toNat ((j+1:Nat):Int)<_
     rw[List.length_set,Int.toNat_natCast];omega)]
    simp only[Int.toNat_natCast,s1,s2,tG,List.append_assoc,List.singleton_append];rfl
   ·have YV:j=l.length:=by omega
    subst YV;have hd:decide ((l.length:Int)<(l.length:Int))=false:=by simp
    rw[hd,cond_false]
    simp[tG]) (x:=(l,k,0)) ⟨Int.le_refl _,by show(0:Int)≤_;omega,YZ.1,by
     show k+((UC _ (List.drop (Int.toNat 0) l):Nat):Int)≤JB
     rw[Int.toNat_zero,List.drop_zero, ←F7];exact YZ.2,by show(l.length:Int)≤JB;omega⟩ (by show l.length - Int.toNat 0<2^64;simp only[JB]at YZ;omega)
 rw[T4];unfold hR;rw[key];simp
def zau{k:Int}(h:RF k=false):0≤k:=by simp only[RF,decide_eq_false_iff_not]at h;omega
def zfk{c:V}{cs:List V}{k:Int}(h:0≤vC mf (c :: cs) k):0≤QC mf c k∧vC mf (c :: cs) k=vC mf cs (QC mf c k):=by
 simp only[vC]at h⊢;cases hn:RF (QC mf c k)
 ·exact⟨zau hn,rfl⟩
 ·rw[hn]at h;simp at h
def zat(t:TN)(l:List (El t))(i:Nat)(hi:i<l.length)(K:Int→Option Int):∀(ks:List LK) (j:Nat) (k:Int),(lk t).drop j=ks→ks.all tJ=true→0≤k→
  k+dC mf ((enc t l[i]).drop j)≤JB→0≤vC mf ((enc t l[i]).drop j) k→eI t l (i:Int) j ks k K=K (vC mf ((enc t l[i]).drop j) k)
 | [],j,k,oW,_,_,_,_=>by
  have h1:(lk t).length≤j:=List.drop_eq_nil_iff.1 oW;rw[zce t l[i]]at h1;rw[List.drop_eq_nil_of_le h1];rfl
 | c :: r,j,k,oW,qZ,hk,hB,hh=>by
  simp only[List.all_cons,Bool.and_eq_true]at qZ;have hm:=(aN t l[i]).dp j;rw[oW]at hm;obtain⟨b,B,uY,oZ,V8⟩:=hm.take;have G7:(enc t l[i]).drop (j+1)=B:=by rw[←List.tail_drop,uY];rfl
  have O1:PE b=true:=by
   have cY:=JS t l[i];rw[←List.take_append_drop j (enc t l[i]),uY,List.all_append,List.all_cons,Bool.and_eq_true,Bool.and_eq_true]at cY;exact cY.2.1
  rw[uY]at hB hh⊢;obtain⟨q1,q2⟩:=zfk hh;have q3:=hC vJ b k hk;simp only[dC]at hB
  push_cast at hB
  have hr:(lk t).drop (j+1)=r:=by rw[←List.tail_drop,oW];rfl
  have Y3:=zat t l i hi K r (j+1) (QC mf b k) hr qZ.2 q1 (by rw[G7];omega) (by rw[G7, ←q2];exact hh);rw[G7, ←q2]at Y3;rw[←Y3];simp only[eI,rC hi,lB,uY];cases c with
  | s=>cases qZ.1
  | l t2=>
   obtain⟨n,hn⟩:=oZ;cases b<;>simp[BA]at hn
   ·cases O1
   ·rename_i t3 l2;obtain⟨rfl,_⟩:=hn;have hf:SL k ((mf t3).ms l2)∧0≤(mf t3).he l2 k:=⟨⟨hk,by simp only[pC]at hB;push_cast at hB;omega⟩,q1⟩;have hc:TN.cast rfl l2=l2:=rfl;have hd:decide ((mf t3).he l2 k<0)=false:=by simp;exact q1
    simp only[dif_pos];rw[WC,hc,FA hf,hd,cond_false];rfl
  | i=>
   obtain⟨n,hn⟩:=oZ;cases b<;>simp[uA]at hn
   rename_i kd m;cases kd<;>try (simp at hn;done)
   have hw:IntKind.wrap .i64 (k+1)=k+1:=sB (by omega) (by simp only[pC,JB]at hB;omega);simp only[QC]at q1⊢;cases iW:(m !=k)
   ·simp only[cond_false,hw]
   ·rw[iW]at q1;simp at q1
  | «by» =>
   obtain⟨n,hn⟩:=oZ;cases b<;>simp[rG]at hn
   rename_i kd m;cases kd<;>try (simp at hn;done)
   have hw:IntKind.wrap .i64 (k+1)=k+1:=sB (by omega) (by simp only[pC,JB]at hB;omega);simp only[QC]at q1⊢;cases iW:(m !=IntKind.wrap .u8 k)
   ·simp only[cond_false,hw]
   ·rw[iW]at q1;simp at q1
  | b=>
   obtain⟨n,hn⟩:=oZ;cases b<;>simp[sE]at hn
   rename_i b';have hw:IntKind.wrap .i64 (k+1)=k+1:=sB (by omega) (by simp only[pC,JB]at hB;omega);simp only[QC]at q1⊢;cases iW:(!(b'==(Int.tmod k 3==0)))
   ·simp only[cond_false,hw]
   ·rw[iW]at q1;simp at q1
def zhP(t:TN)(hs:(lk t).all tJ=true)(l:List (El t))(k:Int)(hf:SL k ((mf t).ms l)∧0≤(mf t).he l k):EF t l k=some ((mf t).he l k):=by
 have YZ:0≤k∧k+((mf t).ms l:Nat)≤JB:=hf.1;have tV:=zcv t l;have F7:(mf t).ms l=UC (λx=>dC mf (enc t x)) l:=by rw[jJ];rfl
 have T4:(mf t).he l k=LF (λx k=>vC mf (enc t x) k) l k:=by rw[jJ];rfl
 have key:=zE (g:=λx:Int×Int=>some (LF (λx k=>vC mf (enc t x) k) (l.drop x.2.toNat) x.1))
  (f:=λ(x:Int×Int) k'=>cond (decide (x.2<(l.length:Int))) (eI t l x.2 0 (lk t) x.1 λk1=>k' (k1,IntKind.wrap .i64 (x.2+1))) (some x.1))
  (fun x=>0≤x.2∧x.2≤l.length∧0≤x.1∧x.1+(UC (fun x=>dC mf (enc t x)) (l.drop x.2.toNat):Nat)≤JB∧0≤LF (fun x k=>vC mf (enc t x) k) (l.drop x.2.toNat) x.1) (fun x=>l.length - x.2.toNat) (fun x hx k' SV=>by
   obtain⟨k,i⟩:=x;obtain⟨h0,h1,h2,h3,h4⟩:=hx;simp only at h0 h1 h2 h3 h4 SV⊢;obtain⟨j,rfl⟩:=Int.eq_ofNat_of_zero_le h0;simp only[Int.toNat_natCast]at h3 h4 SV⊢
   by_cases hj:j<l.length
   ·have hd:decide ((j:Int)<(l.length:Int))=true:=by simp;exact hj
    rw[hd,cond_true];have s3:=List.drop_eq_getElem_cons hj;rw[s3]at h3 h4⊢;simp only[UC,LF]at h3 h4⊢
    push_cast at h3
    cases hn:RF (vC mf (enc t l[j]) k)
    case true=>rw[hn]at h4;simp at h4
    rw[hn]at h4;simp only[cond_false]at h4⊢;have g1:=zau hn;have g2:=hU vJ (enc t l[j]) k h2;rw[zat t l j hj _ (lk t) 0 k rfl hs h2 (by rw[List.drop_zero];omega) (by rw[List.drop_zero];exact g1),List.drop_zero]
    have hw:IntKind.wrap .i64 ((j:Int)+1)=((j+1:Nat):Int):=by
     rw[sB (by omega) (by simp only[JB]at YZ;omega)];omega
    rw[hw,SV _ ⟨by show(0:Int)≤((j+1:Nat):Int);omega,by show((j+1:Nat):Int)≤_;omega,g1,by
     show vC mf (enc t l[j]) k+((UC _ (List.drop (Int.toNat ((j+1:Nat):Int)) _):Nat):Int)≤JB
     rw[Int.toNat_natCast];omega,by
     show 0≤LF _ (List.drop (Int.toNat ((j+1:Nat):Int)) _) (vC mf (enc t l[j]) k)
     rw[Int.toNat_natCast];exact h4⟩ (by
     show List.length _ - Int.toNat ((j+1:Nat):Int)<_
     rw[Int.toNat_natCast];omega)]
    simp only[Int.toNat_natCast]
   ·have YV:j=l.length:=by omega
    subst YV;have hd:decide ((l.length:Int)<(l.length:Int))=false:=by simp
    rw[hd,cond_false]
    simp[LF]) (x:=(k,0)) ⟨Int.le_refl _,by show(0:Int)≤_;omega,YZ.1,by
     show k+((UC _ (List.drop (Int.toNat 0) l):Nat):Int)≤JB
     rw[Int.toNat_zero,List.drop_zero, ←F7];exact YZ.2,by
     show 0≤LF _ (List.drop (Int.toNat 0) l) k
     rw[Int.toNat_zero,List.drop_zero, ←T4];exact hf.2⟩ (by show l.length - Int.toNat 0<2^64;simp only[JB]at YZ;omega)
 rw[T4];unfold EF;rw[key];simp
def mh(t:TN)(l:List (El t)){k:Int}(hk:0≤k)(hb:k+((mf t).ms l:Nat)≤JB):∃y m,wC t l k=some (y,m)∧k≤m∧m≤k+((mf t).ms l:Nat)∧WC t y k=some m:=by
 have h1:=(vJ t).le l k hk;have h2:=(vJ t).he l k hk;refine⟨((mf t).mr l k).1,((mf t).mr l k).2,lH ⟨hk,hb⟩,h1.1,h1.2,?_⟩;rw[WC,lH ⟨⟨hk,by rw[(vJ t).hs];exact hb⟩,by rw[h2];omega⟩,h2]
def pH{t:TN}(hs:(lk t).all tJ=true){l:List (El t)}{k r:Int}(h:WC t l k=some r):EF t l k=some r:=by
 obtain⟨p,rfl⟩:=DQ h;exact zhP t hs l k p
end
end Go.D
namespace Go.D
def evM{P:Program}{tl:List (TypeId×TN)}[iJ tl]{f:Nat}{fn:Func}{t:TN}(n:Nat){l:List (Nat×AC)}{g:Gl}(hm:P.follows .mixedOrders=true)(ht:IL P tl=true)
  (hM:AD P (λf=>KA f l) g) (hf:P.funcs[f]?=some fn) (md:List (Nat×Nat))
  (h0 : (fn.body.isSome && !(fn.name == "runtime.NumGoroutine") && Nat.beq n fn.ntmps && Nat.ble 2 fn.ntmps && (lk t).all tJ) = true)
  (he:∀x k,OL ⟨P,λt=>KA t tl,λf=>NC f [],n,g⟩ (λf=>KA f l) FU fn (fn.body.getD .skip) md t false x k=hR t x k)
  (Z8:∀k,OL ⟨P,λt=>KA t tl,λf=>NC f [],n,g⟩ (λf=>KA f l) 1 fn (fn.body.getD .skip) md t true [] k=some ([],k)):RC P f ⟨.sl t,wC t⟩ g:=by
 simp only[Bool.and_eq_true,Bool.not_eq_true']at h0;obtain⟨⟨⟨⟨h1,h2⟩,h3⟩,h4⟩,h5⟩:=h0;obtain⟨b,hb⟩:=Option.isSome_iff_exists.1 h1;have fY:fn.body.getD .skip=b:=by rw[hb];rfl
 rw[fY]at he Z8;refine zgO (C:=⟨P,λt=>KA t tl,λf=>NC f [],n,g⟩) (XP hm ht _ _ _) WS hM hf hb h2 (Nat.eq_of_beq_eq_true h3) h4 md t (wC t) (λx k r _ hr=>?_) λk r _ hr=>?_
 ·obtain⟨p1,rfl⟩:=DQ hr;exact(he x k).trans (zhN t h5 x k p1)
 ·obtain⟨p1,rfl⟩:=DQ hr;rw[jJ];exact Z8 k
def evS{P:Program}{tl:List (TypeId×TN)}[iJ tl]{f:Nat}{fn:Func}{t:TN}(n:Nat){l:List (Nat×AC)}{g:Gl}(hm:P.follows .mixedOrders=true)(ht:IL P tl=true)
  (hM:AD P (λf=>KA f l) g) (hf:P.funcs[f]?=some fn) (md:List (Nat×Nat)) (Raw:Value→El t→Int→Option (El t×Int×Value))
  (h0 : (fn.body.isSome && !(fn.name == "runtime.NumGoroutine") && Nat.beq n fn.ntmps && Nat.ble 2 fn.ntmps) = true)
  (he:∀u x k,IT ⟨P,λt=>KA t tl,λf=>NC f [],n,g⟩ (λf=>KA f l) fn (fn.body.getD .skip) md t u x k=Raw u x k)
  (F:El t→Int→Option (El t×Int)) (hF:∀u x k r,F x k=some r→Raw u x k=some (r.1,r.2,u)):RC P f ⟨.st t,F⟩ g:=by
 simp only[Bool.and_eq_true,Bool.not_eq_true']at h0;obtain⟨⟨⟨h1,h2⟩,h3⟩,h4⟩:=h0;obtain⟨b,hb⟩:=Option.isSome_iff_exists.1 h1;have fY:fn.body.getD .skip=b:=by rw[hb];rfl
 rw[fY]at he;exact zhi (C:=⟨P,λt=>KA t tl,λf=>NC f [],n,g⟩) (XP hm ht _ _ _) WS hM hf hb h2 (Nat.eq_of_beq_eq_true h3) h4 md t F λu x k r _ hr=>(he u x k).trans (hF u x k r hr)
def evL{P:Program}{tl:List (TypeId×TN)}[iJ tl]{f:Nat}{fn:Func}{m:Nat}{ats:List Ty}{F:MA ats→Option (MA [.v .bool])}(n:Nat){l:List (Nat×RB)}{lm:List (Nat×AC)}{g:Gl}
  (hm:P.follows .mixedOrders=true) (ht:IL P tl=true) (hΦ:cD ⟨P,λt=>KA t tl,λf=>NC f l,n,g⟩) (hM:AD P (λf=>KA f lm) g) (hf:P.funcs[f]?=some fn)
  (md:List (Nat×Nat)) (tr:List (Nat×List (Nat×Bool))) (fz:List (Nat×List Nat)) (Raw:MA ats→Option Bool)
  (h0 : (fn.body.isSome && !(fn.name == "runtime.NumGoroutine") && Nat.beq n fn.ntmps && QA (lA m) ats && aI ats && Nat.ble m fn.ntmps) = true)
  (he:∀x,GT ⟨P,λt=>KA t tl,λf=>NC f l,n,g⟩ (λf=>KA f lm) fn (fn.body.getD .skip) md tr fz (CA ats x)=Raw x) (EV:∀x r,sA ats x→F x=some r→Raw x=some r):
  nA P f (rA (lA m) ats [.v .bool] F [(false,1)] [] false) g:=by
 simp only[Bool.and_eq_true,Bool.not_eq_true']at h0;obtain⟨⟨⟨⟨⟨h1,h2⟩,h3⟩,h4⟩,h5⟩,h6⟩:=h0;obtain⟨b,hb⟩:=Option.isSome_iff_exists.1 h1;have fY:fn.body.getD .skip=b:=by rw[hb];rfl
 rw[fY]at he;exact zgX (C:=⟨P,λt=>KA t tl,λf=>NC f l,n,g⟩) (XP hm ht _ _ _) hΦ hM hf hb h2 (Nat.eq_of_beq_eq_true h3) md tr fz m ats F h4 h5 h6 λx r hx hr=>(he x).trans (EV x r hx hr)
end Go.D

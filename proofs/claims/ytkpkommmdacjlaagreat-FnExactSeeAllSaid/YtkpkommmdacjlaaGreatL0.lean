/-
 What the laws' marks leave in data, what they count, and that it is found there again.
-/
import Derived.Test.YtkpkommmdacjlaaGreatL8
import Derived.Test.YtkpkommmdacjlaaGreatL4
import Derived.Test.YtkpkommmdacjlaaGreatL9
set_option linter.all false
namespace Go.D
noncomputable section
def HE(k:Int):Bool:=decide (k<0)
def jT{k:Int}(h:0≤k):HE k=false:=by simp[HE];omega
structure MF(t:TN) where
 mr:List (El t)→Int→List (El t)×Int
 he:List (El t)→Int→Int
 ms:List (El t)→Nat
section
variable (G:(t:TN)→MF t)
def tC:V→Int→V×Int
 | .int .u8 _,k=>(.int .u8 (IntKind.wrap .u8 k),k+1)
 | .int .i64 _,k=>(.int .i64 k,k+1)
 | .bool _,k=>(.bool (Int.tmod k 3==0),k+1)
 | .sl t l,k=>(.sl t ((G t).mr l k).1,((G t).mr l k).2)
 | v,k=>(v,k)
def ZB:List V→Int→List V×Int
 | [],k=>([],k)
 | c :: cs,k=>((tC G c k).1 :: (ZB cs (tC G c k).2).1,(ZB cs (tC G c k).2).2)
def AC:V→Int→Int
 | .int .u8 n,k=>bif n !=IntKind.wrap .u8 k then -1 else k+1
 | .int .i64 n,k=>bif n !=k then -1 else k+1
 | .bool b,k=>bif !(b==(Int.tmod k 3==0))then -1 else k+1
 | .sl t l,k=>(G t).he l k
 | _,k=>k
def jC:List V→Int→Int
 | [],k=>k
 | c :: cs,k=>bif HE (AC G c k)then -1 else jC cs (AC G c k)
def bC:V→Nat
 | .sl t l=>1+(G t).ms l
 | _=>1
def SB:List V→Nat
 | []=>0
 | c :: cs=>bC G c+SB cs
def BD(t:TN)(x:El t)(k:Int):El t×Int:=((vB t (ZB G (enc t x) k).1).getD x,(ZB G (enc t x) k).2)
end
def eF{α:Type}(f:α→Int→α×Int):List α→Int→List α×Int
 | [],k=>([],k)
 | x :: l,k=>((f x k).1 :: (eF f l (f x k).2).1,(eF f l (f x k).2).2)
def CE{α:Type}(f:α→Int→Int):List α→Int→Int
 | [],k=>k
 | x :: l,k=>bif HE (f x k)then -1 else CE f l (f x k)
def DC{α:Type}(f:α→Nat):List α→Nat
 | []=>0
 | x :: l=>f x+DC f l
def rD(G:(t:TN)→MF t)(t:TN):MF t:=⟨eF (BD G t),CE λx k=>jC G (enc t x) k,DC λx=>SB G (enc t x)⟩
def GE:Nat→(t:TN)→MF t
 | 0,_=>⟨λl k=>(l,k),λ_ k=>k,λ_=>0⟩
 | n+1,t=>rD (GE n) t
def mf:(t:TN)→MF t:=Classical.choose (⟨GE 6,rfl⟩:∃F:(t:TN)→MF t,F=GE 6)
def vT:mf=GE 6:=Classical.choose_spec (⟨GE 6,rfl⟩:∃F:(t:TN)→MF t,F=GE 6)
section
variable {G H:(t:TN)→MF t} {r:Nat}
def zek(h:∀t,t.rank<r→G t=H t){c:V}(hc:BF r c=true)(k:Int):tC G c k=tC H c k:=by
 cases c with
 | sl t l=>simp only[BF,Nat.blt_eq]at hc;simp only[tC,h t hc]
 | int kd n=>cases kd<;>rfl
 | _=>rfl
def zei(h:∀t,t.rank<r→G t=H t){c:V}(hc:BF r c=true)(k:Int):AC G c k=AC H c k:=by
 cases c with
 | sl t l=>simp only[BF,Nat.blt_eq]at hc;simp only[AC,h t hc]
 | int kd n=>cases kd<;>rfl
 | _=>rfl
def zdX(h:∀t,t.rank<r→G t=H t){c:V}(hc:BF r c=true):bC G c=bC H c:=by
 cases c with
 | sl t l=>simp only[BF,Nat.blt_eq]at hc;simp only[bC,h t hc]
 | _=>rfl
def vN(h:∀t,t.rank<r→G t=H t):∀{cs:List V},cs.all (BF r)=true→(∀k,ZB G cs k=ZB H cs k)∧(∀k,jC G cs k=jC H cs k)∧SB G cs=SB H cs
 | [],_=>⟨λ_=>rfl,λ_=>rfl,rfl⟩
 | c :: cs,hc=>by
  simp only[List.all_cons,Bool.and_eq_true]at hc;obtain⟨i1,i2,i3⟩:=vN h hc.2;refine⟨λk=>?_,λk=>?_,?_⟩
  ·simp only[ZB,zek h hc.1,i1]
  ·simp only[jC,zei h hc.1,i2]
  ·simp only[SB,zdX h hc.1,i3]
def sT{t:TN}(h:∀t',t'.rank<t.rank→G t'=H t'):rD G t=rD H t:=by
 have e1:BD G t=BD H t:=by funext x k;simp only[BD,(vN h (KM t x)).1]
 have e2:(λx k=>jC G (enc t x) k)=λx k=>jC H (enc t x) k:=by funext x k;exact(vN h (KM t x)).2.1 k
 have e3:(λx=>SB G (enc t x))=λx=>SB H (enc t x):=by funext x;exact(vN h (KM t x)).2.2
 unfold rD;rw[e1,e2,e3]
def cT:∀(n m:Nat) (t:TN),t.rank<n→t.rank<m→GE n t=GE m t
 | 0,_,_,h,_=>by omega
 | n+1,0,_,_,h=>by omega
 | n+1,m+1,t,h1,h2=>sT λt' h=>cT n m t' (by omega) (by omega)
end
def US(t:TN):t.rank≤4:=by cases t<;>simp[TN.rank]
def lH(t:TN):mf t=rD mf t:=by
 rw[vT];show rD (GE 5) t=_
 exact sT λt' h=>cT 5 6 t' (by have:=US t;omega) (by have:=US t;omega)
def oK(t:TN)(x:El t):XA (lk t) (enc t x):=by
 cases t<;>(simp only[lk,enc];repeat' constructor)
 all_goals simp[yA,TN.cast,sA,AD,jG,cF]
def wS(t:TN)(x:El t):vB t (enc t x)=some x:=by
 cases t<;>first | rfl | skip
 show vB .byte [.int .u8 (x.toNat:Int)]=some x
 simp[vB,tk,cF,cB]
def YD:V→Bool
 | .nil=>false
 | .int .u8 n=>decide (0≤n)&&decide (n<256)
 | _=>true
def MO(t:TN)(x:El t):(enc t x).all YD=true:=by
 cases t
 case byte=>
  have h:=UInt8.toNat_lt x;have h2:((UInt8.toNat x:Nat):Int)<256:=by omega
  simp only[enc,List.all_cons,List.all_nil,YD,Bool.and_true,Bool.and_eq_true,decide_eq_true_eq];exact⟨by omega,h2⟩
 all_goals rfl
def sR:∀{cs ds:List V},YA cs ds→cs.all YD=true→ds=cs
 | _,_, .nil,_=>rfl
 | _,_, .cons h r,hc=>by
  simp only[List.all_cons,Bool.and_eq_true]at hc;rw[sR r hc.2];cases h with
  | refl=>rfl
  | byte n=>
   have h1:=hc.1;simp only[YD,Bool.and_eq_true,decide_eq_true_eq]at h1
   have h2:((UInt8.ofNat n.toNat).toNat:Int)=n:=by
    simp only[UInt8.toNat_ofNat'];omega
   rw[h2]
  | nil t=>cases hc.1
def wR(t:TN){cs:List V}(h:XA (lk t) cs)(hc:cs.all YD=true):∃y,vB t cs=some y∧enc t y=cs:=by
 obtain⟨y,hy⟩:=nO t cs h;exact⟨y,hy,sR (wC t hy) hc⟩
def sH:LK→Bool
 | .s=>false
 | _=>true
section
variable {G:(t:TN)→MF t}
def NS{c:LK}{b:V}(h:EN c b)(k:Int):EN c (tC G b k).1:=by
 cases c<;>obtain⟨n,h⟩:=h
 ·cases b<;>simp[sA]at h
  rename_i kd m;cases kd<;>simp at h
  exact⟨k,rfl⟩
 ·cases b<;>simp[cF]at h
  rename_i kd m;cases kd<;>simp at h
  exact⟨_,rfl⟩
 ·cases b<;>simp[AD]at h
  exact⟨_,rfl⟩
 ·cases b<;>simp[jG]at h
  exact⟨_,rfl⟩
 ·rename_i t;cases b<;>simp[yA]at h
  ·exact⟨[],rfl⟩
  ·rename_i s l;obtain⟨rfl,_⟩:=h;exact⟨_,(by simp only[tC,yA,dif_pos]:_=some (TN.cast rfl ((G s).mr l k).1))⟩
def PS{b:V}(h:YD b=true)(k:Int):YD (tC G b k).1=true:=by
 cases b with
 | int kd n=>
  cases kd<;>first | exact h | rfl | skip
  simp only[tC,YD,IntKind.wrap];simp[IntKind.signed,IntKind.bits];omega
 | nil=>exact h
 | _=>first | exact h | rfl
def WQ:∀{ks:List LK} {cs:List V} (k:Int),XA ks cs→XA ks (ZB G cs k).1
 | _,_,_, .nil=> .nil
 | _,_,k, .cons h r=> .cons (NS h k) (WQ _ r)
def SR:∀{cs:List V} (k:Int),cs.all YD=true→(ZB G cs k).1.all YD=true
 | [],_,_=>rfl
 | c :: cs,k,h=>by
  simp only[List.all_cons,Bool.and_eq_true]at h;simp only[ZB,List.all_cons,Bool.and_eq_true];exact⟨PS h.1 k,SR _ h.2⟩
def RO(t:TN)(x:El t)(k:Int):vB t (ZB G (enc t x) k).1=some (BD G t x k).1∧enc t (BD G t x k).1=(ZB G (enc t x) k).1:=by
 obtain⟨y,h1,h2⟩:=wR t (WQ k (oK t x)) (SR (G:=G) k (MO t x));have:(BD G t x k).1=y:=by simp only[BD,h1];rfl
 rw[this];exact⟨h1,h2⟩
end
structure HN{t:TN}(F:MF t):Prop where
 le:∀l k,0≤k→k≤(F.mr l k).2∧(F.mr l k).2≤k+F.ms l
 he:∀l k,0≤k→F.he (F.mr l k).1 k=(F.mr l k).2
 hl:∀l k,0≤k→F.he l k≤k+F.ms l
 hs:∀l k,F.ms (F.mr l k).1=F.ms l
section
variable {G:(t:TN)→MF t} (hG:∀t,HN (G t))
include hG
def gC(c:V)(k:Int)(hk:0≤k):k≤(tC G c k).2∧(tC G c k).2≤k+bC G c∧AC G (tC G c k).1 k=(tC G c k).2:=by
 cases c with
 | sl t l=>
  obtain⟨h1,h2⟩:=(hG t).le l k hk;exact⟨h1,by simp only[tC,bC];push_cast;omega,(hG t).he l k hk⟩
 | int kd n=>cases kd<;>simp[tC,bC,AC]<;>omega
 | bool b=>simp[tC,bC,AC];omega
 | _=>simp[tC,bC,AC]<;>omega
def PP:∀(cs:List V) (k:Int),0≤k→k≤(ZB G cs k).2∧(ZB G cs k).2≤k+SB G cs∧jC G (ZB G cs k).1 k=(ZB G cs k).2
 | [],k,hk=>⟨Int.le_refl _,by simp[ZB,SB],rfl⟩
 | c :: cs,k,hk=>by
  obtain⟨h1,h2,h3⟩:=gC hG c k hk;obtain⟨i1,i2,i3⟩:=PP cs (tC G c k).2 (by omega);simp only[ZB,SB,jC];rw[h3];rw[jT (by omega),cond_false];exact⟨by omega,by push_cast;omega,i3⟩
def hC(c:V)(k:Int)(hk:0≤k):AC G c k≤k+bC G c:=by
 cases c with
 | sl t l=>have:=(hG t).hl l k hk;simp only[AC,bC];push_cast;omega
 | int kd n=>cases kd<;>simp only[AC,bC]<;>first | omega | (cases(n !=k)<;>simp<;>omega) | (cases(n !=IntKind.wrap .u8 k)<;>simp<;>omega)
 | bool b=>simp only[AC,bC];cases(!(b==(Int.tmod k 3==0)))<;>simp<;>omega
 | _=>simp only[AC,bC];omega
def TP:∀(cs:List V) (k:Int),0≤k→jC G cs k≤k+SB G cs
 | [],k,hk=>by simp[jC,SB]
 | c :: cs,k,hk=>by
  have h1:=hC hG c k hk;simp only[jC,SB];cases hn:HE (AC G c k)
  ·have:0≤AC G c k:=by simp only[HE,decide_eq_false_iff_not]at hn;omega
   have:=TP cs (AC G c k) this;simp only[cond_false];push_cast;omega
  ·simp only[cond_true];omega
def sC(c:V)(k:Int):bC G (tC G c k).1=bC G c:=by
 cases c with
 | sl t l=>simp only[tC,bC,(hG t).hs]
 | int kd n=>cases kd<;>rfl
 | _=>rfl
def lU:∀(cs:List V) (k:Int),SB G (ZB G cs k).1=SB G cs
 | [],_=>rfl
 | c :: cs,k=>by simp only[ZB,SB,sC hG,lU cs]
def gS(t:TN):HN (rD G t):=by
 have key:∀(l:List (El t)) (k:Int),0≤k→(k≤((rD G t).mr l k).2∧((rD G t).mr l k).2≤k+(rD G t).ms l)∧(rD G t).he ((rD G t).mr l k).1 k=((rD G t).mr l k).2:=by
  intro l;induction l with
  | nil=>intro k _;exact⟨⟨Int.le_refl _,by simp[rD,eF,DC]⟩,rfl⟩
  | cons x l ih=>
   intro k hk;obtain⟨h1,h2,h3⟩:=PP hG (enc t x) k hk;obtain⟨⟨i1,i2⟩,i3⟩:=ih (BD G t x k).2 (by simp only[BD];omega);simp only[rD,eF,DC,CE]at i1 i2 i3⊢;rw[(RO t x k).2,h3,jT (by omega),cond_false];refine⟨⟨?_,?_⟩,i3⟩
   ·simp only[BD]at i1⊢;omega
   ·simp only[BD]at i2⊢;push_cast;omega
 refine⟨λl k hk=>(key l k hk).1,λl k hk=>(key l k hk).2,λl=>?_,λl=>?_⟩
 rotate_left
 ·induction l with
  | nil=>intro k;rfl
  | cons x l ih=>
   intro k;simp only[rD,eF,DC]at ih⊢;rw[(RO t x k).2,lU hG,ih]
 induction l with
 | nil=>intro k hk;simp[rD,CE,DC]
 | cons x l ih=>
  intro k hk;have h1:=TP hG (enc t x) k hk;simp only[rD,CE,DC]at ih⊢;cases hn:HE (jC G (enc t x) k)
  ·have:0≤jC G (enc t x) k:=by simp only[HE,decide_eq_false_iff_not]at hn;omega
   have:=ih (jC G (enc t x) k) this;simp only[cond_false];push_cast;omega
  ·simp only[cond_true];omega
end
def gN:∀(n:Nat) (t:TN),HN (GE n t)
 | 0,t=>⟨λl k hk=>⟨Int.le_refl _,by simp[GE]⟩,λl k hk=>rfl,λl k hk=>by simp[GE],λl k=>rfl⟩
 | n+1,t=>gS (gN n) t
def uH(t:TN):HN (mf t):=by rw[vT];exact gN 6 t
def qT(t:TN)(l:List (El t)):l.length≤(mf t).ms l:=by
 rw[lH];show l.length≤DC _ l
 have h1:∀cs,cs≠[]→1≤SB mf cs:=λcs h=>by
  cases cs with
  | nil=>exact absurd rfl h
  | cons c cs=>
   simp only[SB];have:1≤bC mf c:=by cases c<;>simp[bC]
   omega
 induction l with
 | nil=>simp
 | cons x l ih=>
  simp only[DC,List.length_cons];have:=h1 (enc t x) λh=>by have:=WA t x;rw[h]at this;have:=wE t;simp at *;omega
  omega
def IB:Int:=4611686018427387904
def yJ(k:Int)(n:Nat):Prop:=0≤k∧k+n≤IB
def rC(t:TN)(l:List (El t))(k:Int):Option (List (El t)×Int):=pt (yJ k ((mf t).ms l)) ((mf t).mr l k)
def FC(t:TN)(l:List (El t))(k:Int):Option Int:=pt (yJ k ((mf t).ms l)∧0≤(mf t).he l k) ((mf t).he l k)
def CN:LK→Int→V
 | .i,k=> .int .i64 k
 | .by,k=> .int .u8 (IntKind.wrap .u8 k)
 | .b,k=> .bool (Int.tmod k 3==0)
 | _,_=> .undef
def AG{R:Type}(t:TN)(i:Int):Nat→List LK→List (El t)→Int→(List (El t)→Int→Option R)→Option R
 | _,[],l,k,K=>K l k
 | off,c :: r,l,k,K=>bif decide (0≤i)&&decide (i<(l.length:Int))then IG l i.toNat λy=>(match c with
   | .l t2=>match(enc t y).drop off with
    | .sl t3 l2 :: _=>if h:t3=t2 then Option.bind (rC t2 (TN.cast h l2) k) λq=>bnd (vB t (FB (enc t y) off [.sl t2 q.1])) λz=>AG t i (off+1) r (l.set i.toNat z) q.2 K else none
    | _=>none
   | c=>bnd (vB t (FB (enc t y) off [CN c k])) λz=>AG t i (off+1) r (l.set i.toNat z) (IntKind.wrap .i64 (k+1)) K)else none
def AN(t:TN)(l:List (El t))(k:Int):Option (List (El t)×Int):=
 KA FU (λ(x:List (El t)×Int×Int) k'=>bif decide (x.2.2<(x.1.length:Int))then AG t x.2.2 0 (lk t) x.1 x.2.1 λl' k1=>k' (l',k1,IntKind.wrap .i64 (x.2.2+1))else some (x.1,x.2.1)) (l,k,0)
def yG(t:TN)(l:List (El t))(i:Int):Nat→List LK→Int→(Int→Option Int)→Option Int
 | _,[],k,K=>K k
 | off,c :: r,k,K=>Option.bind (NA l i) λy=>match c,(enc t y).drop off with
  | .i, .int .i64 n :: _=>cond (n !=k) (some (-1)) (yG t l i (off+1) r (IntKind.wrap .i64 (k+1)) K)
  | .by, .int .u8 n :: _=>cond (n !=IntKind.wrap .u8 k) (some (-1)) (yG t l i (off+1) r (IntKind.wrap .i64 (k+1)) K)
  | .b, .bool b :: _=>cond (!(b==(Int.tmod k 3==0))) (some (-1)) (yG t l i (off+1) r (IntKind.wrap .i64 (k+1)) K)
  | .l t2, .sl t3 l2 :: _=>if h:t3=t2 then Option.bind (FC t2 (TN.cast h l2) k) λq=>cond (decide (q<0)) (some (-1)) (yG t l i (off+1) r q K)else none
  | _,_=>none
def yE(t:TN)(l:List (El t))(k:Int):Option Int:=
 KA FU (λ(x:Int×Int) k'=>cond (decide (x.2<(l.length:Int))) (yG t l x.2 0 (lk t) x.1 λk1=>k' (k1,IntKind.wrap .i64 (x.2+1))) (some x.1)) (k,0)
def XA.dp:∀{ks:List LK} {vs:List V} (j:Nat),XA ks vs→XA (ks.drop j) (vs.drop j)
 | _,_,0,h=>h
 | _,_,_+1, .nil=> .nil
 | _,_,j+1, .cons _ r=>r.dp j
def XA.tp:∀{ks:List LK} {vs:List V} (j:Nat),XA ks vs→XA (ks.take j) (vs.take j)
 | _,_,0,_=> .nil
 | _,_,_+1, .nil=> .nil
 | _,_,j+1, .cons h r=> .cons h (r.tp j)
def aT(t:TN)(x:El t):(lk t).length=(enc t x).length:=(oK t x).len
def dR{R:Type}(t:TN)(i:Nat)(K:List (El t)→Int→Option R):∀(ks:List LK) (j:Nat) (l:List (El t)) (y:El t) (k:Int),(lk t).drop j=ks→ks.all sH=true→l[i]?=some y→0≤k→
  k+SB mf ((enc t y).drop j)≤IB→∃y',enc t y'=(enc t y).take j++(ZB mf ((enc t y).drop j) k).1∧AG t (i:Int) j ks l k K=K (l.set i y') (ZB mf ((enc t y).drop j) k).2
 | [],j,l,y,k,AW,_,hy,_,_=>by
  have h1:(lk t).length≤j:=List.drop_eq_nil_iff.1 AW;rw[aT t y]at h1;refine⟨y,?_,?_⟩
  ·rw[List.drop_eq_nil_of_le h1,List.take_of_length_le h1];simp[ZB]
  ·rw[List.drop_eq_nil_of_le h1];obtain⟨h2,rfl⟩:=List.getElem?_eq_some_iff.1 hy;simp only[AG,ZB,List.set_getElem_self]
 | c :: r,j,l,y,k,AW,AZ,hy,hk,hB=>by
  obtain⟨hi,l7⟩:=List.getElem?_eq_some_iff.1 hy;simp only[List.all_cons,Bool.and_eq_true]at AZ;have hm:=(oK t y).dp j;rw[AW]at hm;obtain⟨b,B,EY,yZ,M8⟩:=hm.take;have oY:=MO t y
  have O1:∀v,FB (enc t y) j [v]=(enc t y).take j++v :: B:=λv=>by
   have:(enc t y).drop (j+1)=B:=by rw[←List.tail_drop,EY];rfl
   simp only[FB,List.length_singleton,this,List.append_assoc,List.singleton_append]
  have Z1:YD b=true∧B.all YD=true∧((enc t y).take j).all YD=true:=by
   have h1:(enc t y).take j++b :: B=enc t y:=by rw[←EY,List.take_append_drop]
   rw[←h1,List.all_append,List.all_cons,Bool.and_eq_true,Bool.and_eq_true]at oY;exact⟨oY.2.1,oY.2.2,oY.1⟩
  rw[EY]at hB⊢;simp only[SB]at hB
  push_cast at hB
  obtain⟨g1,g2,_⟩:=gC uH b k hk
  -- the element behind the step
  obtain⟨z,MY,N8⟩:=wR t (cs:=(enc t y).take j++(tC mf b k).1 :: B) (by
    have:=((oK t y).tp j).app (XA.cons (NS (G:=mf) yZ k) M8);rwa [←AW,List.take_append_drop]at this) (by
    rw[List.all_append,List.all_cons,Bool.and_eq_true,Bool.and_eq_true];exact⟨Z1.2.2,PS Z1.1 k,Z1.2.1⟩)
  have fY:((enc t y).take j).length=j:=by
   have:j<(enc t y).length:=by
    rcases Nat.lt_or_ge j (enc t y).length with h | h
    ·exact h
    ·rw[List.drop_eq_nil_of_le h]at EY;cases EY
   rw[List.length_take];omega
  have O8:(enc t z).drop (j+1)=B:=by
   rw[N8,List.drop_append,List.drop_eq_nil_of_le (by omega),List.nil_append,fY,Nat.add_sub_cancel_left];rfl
  have hzt:(enc t z).take (j+1)=(enc t y).take j++[(tC mf b k).1]:=by
   rw[N8,List.take_append,List.take_of_length_le (by omega),fY,Nat.add_sub_cancel_left];rfl
  have hr:(lk t).drop (j+1)=r:=by rw[←List.tail_drop,AW];rfl
  obtain⟨y',e1,e2⟩:=dR t i K r (j+1) (l.set i z) z (tC mf b k).2 hr AZ.2 (by rw[List.getElem?_set_self hi]) (by omega) (by rw[O8];omega);rw[O8]at e1 e2;rw[hzt]at e1;rw[List.set_set]at e2;refine⟨y',?_,?_⟩
  ·rw[e1];simp[ZB]
  have hg:(decide ((0:Int)≤(i:Int))&&decide ((i:Int)<(l.length:Int)))=true:=by
   simp;omega
  have cB:AG t (↑i) (j+1) r (l.set i z) (tC mf b k).2 K=K (l.set i y') (ZB mf (b :: B) k).2:=e2;rw[←cB];simp only[AG,hg,cond_true,IG,Int.toNat_natCast,hy,WB,O1];cases c with
  | s=>cases AZ.1
  | l t2=>
   obtain⟨n,hn⟩:=yZ;cases b<;>simp[yA]at hn
   ·cases Z1.1
   ·rename_i t3 l2 _;obtain⟨rfl,_⟩:=hn;simp only[EY,dif_pos];have hf:yJ k ((mf t3).ms l2):=⟨hk,by simp only[bC]at hB;push_cast at hB;omega⟩;have hc:TN.cast rfl l2=l2:=rfl;rw[rC,hc,IA hf,fE];have MY:vB t ((enc t y).take j++V.sl t3 ((mf t3).mr l2 k).1 :: B)=some z:=MY;rw[MY,WB];rfl
  | i=>
   obtain⟨n,hn⟩:=yZ;cases b<;>simp[sA]at hn
   rename_i kd m _;cases kd<;>try (simp at hn;done)
   have hw:IntKind.wrap .i64 (k+1)=k+1:=sF (by omega) (by simp only[bC,IB]at hB;omega);have MY:vB t ((enc t y).take j++V.int .i64 k :: B)=some z:=MY;simp only[CN,fE,MY,WB,hw];rfl
  | «by» =>
   obtain⟨n,hn⟩:=yZ;cases b<;>simp[cF]at hn
   rename_i kd m _;cases kd<;>try (simp at hn;done)
   have hw:IntKind.wrap .i64 (k+1)=k+1:=sF (by omega) (by simp only[bC,IB]at hB;omega);have MY:vB t ((enc t y).take j++V.int .u8 (IntKind.wrap .u8 k) :: B)=some z:=MY;simp only[CN,fE,MY,WB,hw];rfl
  | b=>
   obtain⟨n,hn⟩:=yZ;cases b<;>simp[AD]at hn
   have hw:IntKind.wrap .i64 (k+1)=k+1:=sF (by omega) (by simp only[bC,IB]at hB;omega);have MY:vB t ((enc t y).take j++V.bool (Int.tmod k 3==0) :: B)=some z:=MY;simp only[CN,fE,MY,WB,hw];rfl
def zbB{α:Type}{l:List α}{i:Nat}{y y':α}(h:l[i]?=some y):(l.set i y').take (i+1)=l.take i++[y']∧(l.set i y').drop (i+1)=l.drop (i+1)∧l.drop i=y :: l.drop (i+1):=by
 obtain⟨hi,rfl⟩:=List.getElem?_eq_some_iff.1 h;refine⟨?_,?_,(List.drop_eq_getElem_cons hi)⟩
 ·rw[List.take_set,List.take_succ_eq_append_getElem hi,List.set_append_right _ _ (by simp;omega)];simp[List.length_take,Nat.min_eq_left (Nat.le_of_lt hi)]
 ·rw[List.drop_set_of_lt (by omega)]
def zdm(t:TN)(hs:(lk t).all sH=true)(l:List (El t))(k:Int)(hf:yJ k ((mf t).ms l)):AN t l k=some ((mf t).mr l k):=by
 have D0:0≤k∧k+((mf t).ms l:Nat)≤IB:=hf;have FV:=qT t l;have C7:(mf t).ms l=DC (λx=>SB mf (enc t x)) l:=by rw[lH];rfl
 have Z4:(mf t).mr l k=eF (BD mf t) l k:=by rw[lH];rfl
 have key:=jJ (g:=λx:List (El t)×Int×Int=>some (x.1.take x.2.2.toNat++(eF (BD mf t) (x.1.drop x.2.2.toNat) x.2.1).1,(eF (BD mf t) (x.1.drop x.2.2.toNat) x.2.1).2))
  (f:=λ(x:List (El t)×Int×Int) k'=>bif decide (x.2.2<(x.1.length:Int))then AG t x.2.2 0 (lk t) x.1 x.2.1 λl' k1=>k' (l',k1,IntKind.wrap .i64 (x.2.2+1))else some (x.1,x.2.1))
  (fun x=>0≤x.2.2∧x.2.2≤x.1.length∧0≤x.2.1∧x.2.1+(DC (fun x=>SB mf (enc t x)) (x.1.drop x.2.2.toNat):Nat)≤IB∧(x.1.length:Int)≤IB) (fun x=>x.1.length - x.2.2.toNat) (fun x hx k' eW=>by
   obtain⟨l,k,i⟩:=x;obtain⟨h0,h1,h2,h3,h4⟩:=hx;simp only at h0 h1 h2 h3 h4 eW⊢;obtain⟨j,rfl⟩:=Int.eq_ofNat_of_zero_le h0;simp only[Int.toNat_natCast]at h3 eW⊢
   by_cases hj:j<l.length
   ·have hd:decide ((j:Int)<(l.length:Int))=true:=by simp;exact hj
    have hy:l[j]?=some l[j]:=List.getElem?_eq_getElem hj;obtain⟨s1,s2,s3⟩:=zbB (y':=(BD mf t l[j] k).1) hy;rw[hd,cond_true];rw[s3]at h3⊢;simp only[DC]at h3
    push_cast at h3
    obtain⟨y',e1,e2⟩:=dR t j (λl' k1=>k' (l',k1,IntKind.wrap .i64 ((j:Int)+1))) (lk t) 0 l l[j] k rfl hs hy h2 (by rw[List.drop_zero];omega);rw[List.take_zero,List.nil_append,List.drop_zero]at e1;rw[List.drop_zero]at e2
    have hyy:y'=(BD mf t l[j] k).1:=by
     have:=(RO (G:=mf) t l[j] k).2;have h5:=wS t y';rw[e1, ←this,wS]at h5;exact(Option.some.inj h5).symm
    obtain⟨g1,g2,_⟩:=PP uH (enc t l[j]) k h2
    have hw:IntKind.wrap .i64 ((j:Int)+1)=((j+1:Nat):Int):=by
     rw[sF (by omega) (by simp only[IB]at h4;omega)];omega
    rw[e2,hyy,hw,eW _ ⟨by show(0:Int)≤((j+1:Nat):Int);omega,by show((j+1:Nat):Int)≤_;rw[List.length_set];omega,by show(0:Int)≤(ZB mf (enc t l[j]) k).2;omega,by
     show(ZB mf (enc t l[j]) k).2+((DC _ (List.drop (Int.toNat ((j+1:Nat):Int)) _):Nat):Int)≤IB
     rw[Int.toNat_natCast,s2];omega,by show((List.length _:Nat):Int)≤IB;rw[List.length_set];exact h4⟩ (by
     show List.length _ - Int.toNat ((j+1:Nat):Int)<_
     rw[List.length_set,Int.toNat_natCast];omega)]
    simp only[Int.toNat_natCast,s1,s2,eF,List.append_assoc,List.singleton_append];rfl
   ·have kW:j=l.length:=by omega
    subst kW;have hd:decide ((l.length:Int)<(l.length:Int))=false:=by simp
    rw[hd,cond_false]
    simp[eF]) (x:=(l,k,0)) ⟨Int.le_refl _,by show(0:Int)≤_;omega,D0.1,by
     show k+((DC _ (List.drop (Int.toNat 0) l):Nat):Int)≤IB
     rw[Int.toNat_zero,List.drop_zero, ←C7];exact D0.2,by show(l.length:Int)≤IB;omega⟩ (by show l.length - Int.toNat 0<2^64;simp only[IB]at D0;omega)
 rw[Z4];unfold AN;rw[key];simp
def gR{k:Int}(h:HE k=false):0≤k:=by simp only[HE,decide_eq_false_iff_not]at h;omega
def zbe{c:V}{cs:List V}{k:Int}(h:0≤jC mf (c :: cs) k):0≤AC mf c k∧jC mf (c :: cs) k=jC mf cs (AC mf c k):=by
 simp only[jC]at h⊢;cases hn:HE (AC mf c k)
 ·exact⟨gR hn,rfl⟩
 ·rw[hn]at h;simp at h
def fR(t:TN)(l:List (El t))(i:Nat)(hi:i<l.length)(K:Int→Option Int):∀(ks:List LK) (j:Nat) (k:Int),(lk t).drop j=ks→ks.all sH=true→0≤k→
  k+SB mf ((enc t l[i]).drop j)≤IB→0≤jC mf ((enc t l[i]).drop j) k→yG t l (i:Int) j ks k K=K (jC mf ((enc t l[i]).drop j) k)
 | [],j,k,AW,_,_,_,_=>by
  have h1:(lk t).length≤j:=List.drop_eq_nil_iff.1 AW;rw[aT t l[i]]at h1;rw[List.drop_eq_nil_of_le h1];rfl
 | c :: r,j,k,AW,AZ,hk,hB,hh=>by
  simp only[List.all_cons,Bool.and_eq_true]at AZ;have hm:=(oK t l[i]).dp j;rw[AW]at hm;obtain⟨b,B,EY,yZ,M8⟩:=hm.take;have D7:(enc t l[i]).drop (j+1)=B:=by rw[←List.tail_drop,EY];rfl
  have Z1:YD b=true:=by
   have oY:=MO t l[i];rw[←List.take_append_drop j (enc t l[i]),EY,List.all_append,List.all_cons,Bool.and_eq_true,Bool.and_eq_true]at oY;exact oY.2.1
  rw[EY]at hB hh⊢;obtain⟨q1,q2⟩:=zbe hh;have q3:=hC uH b k hk;simp only[SB]at hB
  push_cast at hB
  have hr:(lk t).drop (j+1)=r:=by rw[←List.tail_drop,AW];rfl
  have C4:=fR t l i hi K r (j+1) (AC mf b k) hr AZ.2 q1 (by rw[D7];omega) (by rw[D7, ←q2];exact hh);rw[D7, ←q2]at C4;rw[←C4];simp only[yG,bD hi,WB,EY];cases c with
  | s=>cases AZ.1
  | l t2=>
   obtain⟨n,hn⟩:=yZ;cases b<;>simp[yA]at hn
   ·cases Z1
   ·rename_i t3 l2;obtain⟨rfl,_⟩:=hn;have hf:yJ k ((mf t3).ms l2)∧0≤(mf t3).he l2 k:=⟨⟨hk,by simp only[bC]at hB;push_cast at hB;omega⟩,q1⟩;have hc:TN.cast rfl l2=l2:=rfl;have hd:decide ((mf t3).he l2 k<0)=false:=by simp;exact q1
    simp only[dif_pos];rw[FC,hc,IA hf,hd,cond_false];rfl
  | i=>
   obtain⟨n,hn⟩:=yZ;cases b<;>simp[sA]at hn
   rename_i kd m;cases kd<;>try (simp at hn;done)
   have hw:IntKind.wrap .i64 (k+1)=k+1:=sF (by omega) (by simp only[bC,IB]at hB;omega);simp only[AC]at q1⊢;cases uW:(m !=k)
   ·simp only[cond_false,hw]
   ·rw[uW]at q1;simp at q1
  | «by» =>
   obtain⟨n,hn⟩:=yZ;cases b<;>simp[cF]at hn
   rename_i kd m;cases kd<;>try (simp at hn;done)
   have hw:IntKind.wrap .i64 (k+1)=k+1:=sF (by omega) (by simp only[bC,IB]at hB;omega);simp only[AC]at q1⊢;cases uW:(m !=IntKind.wrap .u8 k)
   ·simp only[cond_false,hw]
   ·rw[uW]at q1;simp at q1
  | b=>
   obtain⟨n,hn⟩:=yZ;cases b<;>simp[AD]at hn
   rename_i b';have hw:IntKind.wrap .i64 (k+1)=k+1:=sF (by omega) (by simp only[bC,IB]at hB;omega);simp only[AC]at q1⊢;cases uW:(!(b'==(Int.tmod k 3==0)))
   ·simp only[cond_false,hw]
   ·rw[uW]at q1;simp at q1
def zdo(t:TN)(hs:(lk t).all sH=true)(l:List (El t))(k:Int)(hf:yJ k ((mf t).ms l)∧0≤(mf t).he l k):yE t l k=some ((mf t).he l k):=by
 have D0:0≤k∧k+((mf t).ms l:Nat)≤IB:=hf.1;have FV:=qT t l;have C7:(mf t).ms l=DC (λx=>SB mf (enc t x)) l:=by rw[lH];rfl
 have Z4:(mf t).he l k=CE (λx k=>jC mf (enc t x) k) l k:=by rw[lH];rfl
 have key:=jJ (g:=λx:Int×Int=>some (CE (λx k=>jC mf (enc t x) k) (l.drop x.2.toNat) x.1))
  (f:=λ(x:Int×Int) k'=>cond (decide (x.2<(l.length:Int))) (yG t l x.2 0 (lk t) x.1 λk1=>k' (k1,IntKind.wrap .i64 (x.2+1))) (some x.1))
  (fun x=>0≤x.2∧x.2≤l.length∧0≤x.1∧x.1+(DC (fun x=>SB mf (enc t x)) (l.drop x.2.toNat):Nat)≤IB∧0≤CE (fun x k=>jC mf (enc t x) k) (l.drop x.2.toNat) x.1) (fun x=>l.length - x.2.toNat) (fun x hx k' eW=>by
   obtain⟨k,i⟩:=x;obtain⟨h0,h1,h2,h3,h4⟩:=hx;simp only at h0 h1 h2 h3 h4 eW⊢;obtain⟨j,rfl⟩:=Int.eq_ofNat_of_zero_le h0;simp only[Int.toNat_natCast]at h3 h4 eW⊢
   by_cases hj:j<l.length
   ·have hd:decide ((j:Int)<(l.length:Int))=true:=by simp;exact hj
    rw[hd,cond_true];have s3:=List.drop_eq_getElem_cons hj;rw[s3]at h3 h4⊢;simp only[DC,CE]at h3 h4⊢
    push_cast at h3
    cases hn:HE (jC mf (enc t l[j]) k)
    case true=>rw[hn]at h4;simp at h4
    rw[hn]at h4;simp only[cond_false]at h4⊢;have g1:=gR hn;have g2:=TP uH (enc t l[j]) k h2;rw[fR t l j hj _ (lk t) 0 k rfl hs h2 (by rw[List.drop_zero];omega) (by rw[List.drop_zero];exact g1),List.drop_zero]
    have hw:IntKind.wrap .i64 ((j:Int)+1)=((j+1:Nat):Int):=by
     rw[sF (by omega) (by simp only[IB]at D0;omega)];omega
    rw[hw,eW _ ⟨by show(0:Int)≤((j+1:Nat):Int);omega,by show((j+1:Nat):Int)≤_;omega,g1,by
     show jC mf (enc t l[j]) k+((DC _ (List.drop (Int.toNat ((j+1:Nat):Int)) _):Nat):Int)≤IB
     rw[Int.toNat_natCast];omega,by
     show 0≤CE _ (List.drop (Int.toNat ((j+1:Nat):Int)) _) (jC mf (enc t l[j]) k)
     rw[Int.toNat_natCast];exact h4⟩ (by
     show List.length _ - Int.toNat ((j+1:Nat):Int)<_
     rw[Int.toNat_natCast];omega)]
    simp only[Int.toNat_natCast]
   ·have kW:j=l.length:=by omega
    subst kW;have hd:decide ((l.length:Int)<(l.length:Int))=false:=by simp
    rw[hd,cond_false]
    simp[CE]) (x:=(k,0)) ⟨Int.le_refl _,by show(0:Int)≤_;omega,D0.1,by
     show k+((DC _ (List.drop (Int.toNat 0) l):Nat):Int)≤IB
     rw[Int.toNat_zero,List.drop_zero, ←C7];exact D0.2,by
     show 0≤CE _ (List.drop (Int.toNat 0) l) k
     rw[Int.toNat_zero,List.drop_zero, ←Z4];exact hf.2⟩ (by show l.length - Int.toNat 0<2^64;simp only[IB]at D0;omega)
 rw[Z4];unfold yE;rw[key];simp
def mh(t:TN)(l:List (El t)){k:Int}(hk:0≤k)(hb:k+((mf t).ms l:Nat)≤IB):∃y m,rC t l k=some (y,m)∧k≤m∧m≤k+((mf t).ms l:Nat)∧FC t y k=some m:=by
 have h1:=(uH t).le l k hk;have h2:=(uH t).he l k hk;refine⟨((mf t).mr l k).1,((mf t).mr l k).2,sG ⟨hk,hb⟩,h1.1,h1.2,?_⟩;rw[FC,sG ⟨⟨hk,by rw[(uH t).hs];exact hb⟩,by rw[h2];omega⟩,h2]
def UF{t:TN}(hs:(lk t).all sH=true){l:List (El t)}{k r:Int}(h:FC t l k=some r):yE t l k=some r:=by
 obtain⟨p,rfl⟩:=fN h;exact zdo t hs l k p
end
end Go.D
namespace Go.D
def evM{P:Program}{tl:List (TypeId×TN)}[kH tl]{f:Nat}{fn:Func}{t:TN}(n:Nat){l:List (Nat×nC)}{g:Gl}(hm:P.follows .mixedOrders=true)(ht:pJ P tl=true)
  (hM:XC P (λf=>JA f l) g) (hf:P.funcs[f]?=some fn) (md:List (Nat×Nat))
  (h0 : (fn.body.isSome && !(fn.name == "runtime.NumGoroutine") && Nat.beq n fn.ntmps && Nat.ble 2 fn.ntmps && (lk t).all sH) = true)
  (he:∀x k,uJ ⟨P,λt=>JA t tl,λf=>yC f [],n,g⟩ (λf=>JA f l) FU fn (fn.body.getD .skip) md t false x k=AN t x k)
  (P8:∀k,uJ ⟨P,λt=>JA t tl,λf=>yC f [],n,g⟩ (λf=>JA f l) 1 fn (fn.body.getD .skip) md t true [] k=some ([],k)):BC P f ⟨.sl t,rC t⟩ g:=by
 simp only[Bool.and_eq_true,Bool.not_eq_true']at h0;obtain⟨⟨⟨⟨h1,h2⟩,h3⟩,h4⟩,h5⟩:=h0;obtain⟨b,hb⟩:=Option.isSome_iff_exists.1 h1;have rY:fn.body.getD .skip=b:=by rw[hb];rfl
 rw[rY]at he P8;refine zcv (C:=⟨P,λt=>JA t tl,λf=>yC f [],n,g⟩) (CM hm ht _ _ _) WO hM hf hb h2 (Nat.eq_of_beq_eq_true h3) h4 md t (rC t) (λx k r _ hr=>?_) λk r _ hr=>?_
 ·obtain⟨p1,rfl⟩:=fN hr;exact(he x k).trans (zdm t h5 x k p1)
 ·obtain⟨p1,rfl⟩:=fN hr;rw[lH];exact P8 k
def evS{P:Program}{tl:List (TypeId×TN)}[kH tl]{f:Nat}{fn:Func}{t:TN}(n:Nat){l:List (Nat×nC)}{g:Gl}(hm:P.follows .mixedOrders=true)(ht:pJ P tl=true)
  (hM:XC P (λf=>JA f l) g) (hf:P.funcs[f]?=some fn) (md:List (Nat×Nat)) (Raw:Value→El t→Int→Option (El t×Int×Value))
  (h0 : (fn.body.isSome && !(fn.name == "runtime.NumGoroutine") && Nat.beq n fn.ntmps && Nat.ble 2 fn.ntmps) = true)
  (he:∀u x k,BP ⟨P,λt=>JA t tl,λf=>yC f [],n,g⟩ (λf=>JA f l) fn (fn.body.getD .skip) md t u x k=Raw u x k)
  (F:El t→Int→Option (El t×Int)) (hF:∀u x k r,F x k=some r→Raw u x k=some (r.1,r.2,u)):BC P f ⟨.st t,F⟩ g:=by
 simp only[Bool.and_eq_true,Bool.not_eq_true']at h0;obtain⟨⟨⟨h1,h2⟩,h3⟩,h4⟩:=h0;obtain⟨b,hb⟩:=Option.isSome_iff_exists.1 h1;have rY:fn.body.getD .skip=b:=by rw[hb];rfl
 rw[rY]at he;exact zcV (C:=⟨P,λt=>JA t tl,λf=>yC f [],n,g⟩) (CM hm ht _ _ _) WO hM hf hb h2 (Nat.eq_of_beq_eq_true h3) h4 md t F λu x k r _ hr=>(he u x k).trans (hF u x k r hr)
def evL{P:Program}{tl:List (TypeId×TN)}[kH tl]{f:Nat}{fn:Func}{m:Nat}{ats:List Ty}{F:LA ats→Option (LA [.v .bool])}(n:Nat){l:List (Nat×KB)}{lm:List (Nat×nC)}{g:Gl}
  (hm:P.follows .mixedOrders=true) (ht:pJ P tl=true) (hΦ:JC ⟨P,λt=>JA t tl,λf=>yC f l,n,g⟩) (hM:XC P (λf=>JA f lm) g) (hf:P.funcs[f]?=some fn)
  (md:List (Nat×Nat)) (tr:List (Nat×List (Nat×Bool))) (fz:List (Nat×List Nat)) (Raw:LA ats→Option Bool)
  (h0 : (fn.body.isSome && !(fn.name == "runtime.NumGoroutine") && Nat.beq n fn.ntmps && RA (kA m) ats && wG ats && Nat.ble m fn.ntmps) = true)
  (he:∀x,zP ⟨P,λt=>JA t tl,λf=>yC f l,n,g⟩ (λf=>JA f lm) fn (fn.body.getD .skip) md tr fz (zA ats x)=Raw x) (QV:∀x r,rA ats x→F x=some r→Raw x=some r):
  oA P f (pA (kA m) ats [.v .bool] F [(false,1)] [] false) g:=by
 simp only[Bool.and_eq_true,Bool.not_eq_true']at h0;obtain⟨⟨⟨⟨⟨h1,h2⟩,h3⟩,h4⟩,h5⟩,h6⟩:=h0;obtain⟨b,hb⟩:=Option.isSome_iff_exists.1 h1;have rY:fn.body.getD .skip=b:=by rw[hb];rfl
 rw[rY]at he;exact zcD (C:=⟨P,λt=>JA t tl,λf=>yC f l,n,g⟩) (CM hm ht _ _ _) hΦ hM hf hb h2 (Nat.eq_of_beq_eq_true h3) md tr fz m ats F h4 h5 h6 λx r hx hr=>(he x).trans (QV x r hx hr)
end Go.D

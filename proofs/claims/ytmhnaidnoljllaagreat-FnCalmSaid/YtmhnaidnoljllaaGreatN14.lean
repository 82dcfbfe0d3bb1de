/-
 Sizes of the program's data.
-/
import Derived.Test.YtmhnaidnoljllaaGreatN13
set_option linter.all false
namespace Go.D
end Go.D
namespace Go.D
end Go.D
namespace Go.D
open Option renaming bind→ob
noncomputable section
def Jf(a0:Aa)(a1:List Ak):Option Aa:=
 ob (lA a0) λr1=>
 ob (eE a0) λr2=>
 cond (!r2)
 (some r1)
 (aA (λ(y3:Aa)=>
 ob (lA a1) λr8=>
 aA (λ(y9:(List Ak)×Aa)=>
 some y9.2) λk10=>
 wA FU (λ(x11:(List Ak)×Int×Aa) k12=>
 aA (λy13=>
 cond (y13)
 (aA (λ(y15:(List Ak)×Aa)=>
 k12 (y15.1,(gA .i64 x11.2.1 1),y15.2)) λk16=>
 cond (decide (0≤x11.2.1)&&decide (x11.2.1<(x11.1.length:Int))) (ob (x11.1[x11.2.1.toNat]?) λe17=>
 ob (dI x11.2.2 e17.To) λr18=>
 cond (decide (r18<0))
 (k16 (x11.1,x11.2.2))
 (cond (decide (0≤x11.2.1)&&decide (x11.2.1<(x11.1.length:Int))) (ob (x11.1[x11.2.1.toNat]?) λe19=>
 cond (decide (0≤x11.2.1)&&decide (x11.2.1<(x11.1.length:Int))) (ob (x11.1[x11.2.1.toNat]?) λe20=>
 ob (Bf x11.2.2 r18 e19.From e20.B) λr21=>
 ob (Bb r21.1 r21.2) λr22=>
 cond (decide (x11.1.length+r21.2.length≤bA)) (k16 ((x11.1++r21.2),r22)) none) none) none)) none)
 (k10 (x11.1,x11.2.2))) λk14=>
 cond (decide (x11.2.1<60))
 (k14 (decide (x11.2.1<(x11.1.length:Int))))
 (k14 false)) (r8,0,r1)) λk4=>
 wA FU (λ(x5:Int×Aa) k6=>
 cond (decide (x5.1<(a1.length:Int)))
 (ob (nA a1 x5.1) λe7=>
 cond (!(lE e7))
 (some r1)
 (k6 ((gA .i64 x5.1 1),x5.2)))
 (k4 x5.2)) (0,(⟨0,[],(⟨[],(⟨[]⟩:Ax),(⟨[],0⟩:As),(⟨0,[]⟩:Ao),[]⟩:Ac),(⟨[],0⟩:As),[],[],[]⟩:Aa)))
def Jg(a0:Aa):Option Aa:=
 aA (λy1=>
 cond (y1)
 (ob (lA a0) λr4=>
 some r4)
 (ob (Bm a0) λr5=>
 ob (Bb r5.1 r5.2) λr6=>
 ob (Jf r6 r5.2) λr7=>
 some r7)) λk2=>
 ob (eE a0) λr3=>
 cond (!r3)
 (k2 true)
 (k2 (a0.Now==1000000))
def Jh(a0:Aa)(a1:Int):Option Aa:=
 ob (lA a0) λr1=>
 cond (!(eA a1 0 60))
 (some r1)
 (aA (λ(y2:Aa)=>
 some y2) λk3=>
 wA FU (λ(x4:Int×Aa) k5=>
 cond (decide (x4.1<a1))
 (ob (Jg x4.2) λr6=>
 k5 ((gA .i64 x4.1 1),r6))
 (k3 x4.2)) (0,r1))
def Na(a0:List UInt8):Option Bool:=
 cond ((XS a0))
 (some true)
 (ob (Hy a0) λr1=>
 ob (Jh r1 48) λr2=>
 aA (λ(y3:Bool)=>
 some y3) λk4=>
 ob (eE r1) λr5=>
 cond (r5)
 (ob (eE r2) λr6=>
 cond (r6)
 (ob (zff r2) λr7=>
 cond (r7)
 (k4 (r2.Now==(gA .i64 r1.Now 48)))
 (k4 false))
 (k4 false))
 (k4 false))
end
end Go.D
namespace Go.D
end Go.D
namespace Go.D
open Option renaming bind→ob
def AO(t:Int):Int:=if t=1 then 22 else if t=2 then 20 else if t=3 then 16 else if t=4 then 8 else 0
def kL(t:Int):Int:=if t=1 then 1 else if t=2 then 2 else if t=3 then 4 else 8
structure Rm(T:Au)(now k:Int):Prop where
 on:T.On=true
 lo:1≤T.Tries
 hi:T.Tries≤5
 w:T.Wait=kL T.Tries
 due:now<T.Due
 len:T.Due - now+AO T.Tries≤k
def zfP{T:Au}{now k:Int}(h:Rm T now k):1≤k:=by
 have h1:=h.due;have h2:=h.len;have:0≤AO T.Tries:=by unfold AO;split<;>(try split)<;>(try split)<;>(try split)<;>omega
 omega
def zcz{T:Au}{now k m:Int}(h:Rm T now k)(hm:k≤m):Rm T now m:=⟨h.on,h.lo,h.hi,h.w,h.due,Int.le_trans h.len hm⟩
def zla{now:Int}(h:eA now 0 1000000=true):Pc (Bc now) λT=>Rm T now 23:=by
 unfold Bc;have hn:=uB.1 h;have e:gA .i64 now 1=now+1:=DA (by omega) (by omega);rw[h];exact .s ⟨rfl,Int.le_refl 1,(show(1:Int)≤5 by omega),rfl,by rw[e];show now<now+1;omega,by rw[e];show now+1 - now+22≤23;omega⟩
def zko{T:Au}{now k:Int}(h:Rm T now k)(hn:eA (now+1) 0 1000000=true)(ht:NC T=true):Pc (Cm T (now+1)) λr=>r.2=2∨(r.2≠2∧Rm r.1 (now+1) (k - 1)):=by
 have N2:=uB.1 hn;obtain⟨h1,h2,h3,h4,h5,h6⟩:=h;unfold Cm Cf;simp only[aA,ht,h1,hn,cond_true,bs]
 by_cases hd:now+1≥T.Due
 ·rw[decide_eq_true hd,Bool.not_true,cond_false];refine .c (λ_=> .s (.inl rfl)) λh7=> .s (.inr ⟨(show(1:Int)≠2 by omega),?_⟩);have h7:=beq_eq_false_iff_ne.1 h7;have ht:T.Tries=1∨T.Tries=2∨T.Tries=3∨T.Tries=4:=by omega
  have e1:T.Due=now+1:=by omega
  have key:∀w t:Int,T.Wait=w→T.Tries=t→1≤t→t≤4→1≤w→w≤8→sD (KB .i64 2 w) 8=kL (t+1)→AO t=kL (t+1)+AO (t+1)→1≤kL (t+1)→kL (t+1)≤8→Rm ⟨true,gA .i64 (now+1) (sD (KB .i64 2 T.Wait) 8),sD (KB .i64 2 T.Wait) 8,gA .i64 T.Tries 1⟩ (now+1) (k - 1):=by
   intro w t e2 e3 g1 g2 g3 g4 g5 g6 g7 g8;rw[e3]at h6;rw[e2,e3];have e4:gA .i64 t 1=t+1:=DA (by omega) (by omega);have e5:gA .i64 (now+1) (kL (t+1))=now+1+kL (t+1):=DA (by omega) (by omega);rw[g5,e4,e5];exact⟨rfl,by show 1≤t+1;omega,by show t+1≤5;omega,rfl,by show now+1<now+1+kL (t+1);omega,by show now+1+kL (t+1) - (now+1)+AO (t+1)≤k - 1;omega⟩
  rcases ht with e | e | e | e
  ·exact key 1 1 (by rw[h4,e];rfl) e (by decide) (by decide) (by decide) (by decide) (by decide) (by decide) (by decide) (by decide)
  ·exact key 2 2 (by rw[h4,e];rfl) e (by decide) (by decide) (by decide) (by decide) (by decide) (by decide) (by decide) (by decide)
  ·exact key 4 3 (by rw[h4,e];rfl) e (by decide) (by decide) (by decide) (by decide) (by decide) (by decide) (by decide) (by decide)
  ·exact key 8 4 (by rw[h4,e];rfl) e (by decide) (by decide) (by decide) (by decide) (by decide) (by decide) (by decide) (by decide)
 ·rw[decide_eq_false hd,Bool.not_false,cond_true];exact .s (.inr ⟨(show(0:Int)≠2 by omega),⟨h1,h2,h3,h4,by show now+1<T.Due;omega,by show T.Due - (now+1)+AO T.Tries≤k - 1;omega⟩⟩)
def TI(c:Ae)(now k:Int):Prop:=c.St=0∨c.St=3∨(c.St=2∧Rm c.T now k)∨(c.St=1∧Rm c.T now (k - 24))
def zcp{c d:Ae}{now k:Int}(h:TI c now k)(e:d.St=c.St∧d.T=c.T):TI d now k:=by
 unfold TI at h⊢;rw[e.1,e.2];exact h
def zun{c:Ae}{now:Int}{b:List UInt8}(hn:eA now 0 1000000=true):Pc (Ft c now b) λr=>r.1=c∨TI r.1 now 47:=by
 unfold Ft;simp only[lA,yA,KC];refine .p λ_=> .j ?_
 repeat' (first | (with_reducible first | intro _ | apply nE | apply XD) | exact .s (.inl rfl) | (refine .b λT hT=> .p λ_=> .b λ_ _=> .s (.inr (.inr (.inr (.inr ⟨rfl,zla hn T hT⟩))))) | dsimp only)
def ztg{c:Ae}{now:Int}{b:List UInt8}:Pc (Fu c now b) λr=>r.1.St=c.St∧r.1.T=c.T:=by
 unfold Fu;simp only[lA,yA,KC]
 repeat' (first | (with_reducible first | intro _ | apply nE | apply gF | apply XD | apply MF) | exact .s ⟨rfl,rfl⟩ | dsimp only)
def zsY{c:Ae}{now:Int}:Pc (Fw c now) λr=>r.1.St=c.St∧r.1.T=c.T:=by
 unfold Fw;simp only[lA,yA,KC]
 repeat' (first | (with_reducible first | intro _ | apply nE | apply gF | apply XD | apply MF) | exact .s ⟨rfl,rfl⟩ | dsimp only)
def ztw{c:Ae}{a:Af}:Pc (Bp c a) λr=>r.St=c.St∧r.T=c.T:=by
 unfold Bp;simp only[lA,KC]
 repeat' (first | (with_reducible first | intro _ | apply nE | apply gF | apply XD | apply MF) | exact .s ⟨rfl,rfl⟩ | dsimp only)
def zuo{c:Ae}:Pc (Fx c) λr=>r.1=c∨r.1.St=0:=by
 unfold Fx Cb;simp only[lA,yA,KC,ba,bs]
 repeat' (first | (with_reducible first | intro _ | apply nE | apply XD | apply MF) | exact .s (.inl rfl) | exact .s (.inr rfl) | dsimp only)
def zrz{c:Ae}{now:Int}{f:Ab}:Pc (Cl c now f) λr=>(r.1.St=c.St∧r.1.T=c.T)∨r.1.St=3:=by
 unfold Cl;simp only[lA,yA]
 repeat' (first | (with_reducible first | intro _ | apply nE | apply gF | apply RS | apply XD | apply MF) | exact .s (.inl ⟨rfl,rfl⟩) | exact .s (.inr rfl) | dsimp only)
def zqX{c:Ae}{now:Int}{f:Ab}(hn:eA now 0 1000000=true):Pc (Dg c now f) λr=>r.1=c∨(r.1.St=2∧Rm r.1.T now 23):=by
 unfold Dg;simp only[lA,yA];refine .p λ_=> .b λ_ _=> .c (λ_=> .s (.inl rfl)) λ_=> .b λT hT=> .b λ_ _=> .b λ_ _=> .p λ_=> .p λ_=> .b λ_ _=> .b λ_ _=> .b λ_ _=> .p λ_=> .s (.inr ⟨rfl,zla hn T hT⟩)
def zuu{c:Ae}{now k:Int}{f:Ab}(hn:eA now 0 1000000=true)(h:TI c now k):Pc (Es c now f) λr=>TI r.1 now k:=by
 unfold Es;simp only[lA,KC,DB]
 have hs:c.St=1→Pc (ob (Dg c now f) λr9=>some (r9.1,r9.2.1,r9.2.2)) λr=>TI r.1 now k:=λh1=> .b λv hv=> .s (by
  rcases zqX hn v hv with e | ⟨e1,e2⟩
  ·show TI v.1 now k
   rw[e];exact h
  ·refine .inr (.inr (.inl ⟨e1,zcz e2 ?_⟩))
   rcases h with h | h | h | h
   ·omega
   ·omega
   ·omega
   ·have:=zfP h.2;omega)
 have hd:Pc (ob (Cl c now f) λr12=>some (r12.1,r12.2.1,r12.2.2)) λr=>TI r.1 now k:= .b λv hv=> .s (by
  rcases zrz v hv with e | e
  ·exact zcp h e
  ·exact .inr (.inl e))
 have hb:∀b:Bool,(b=true→c.St=1)→Pc (cond b (ob (Dg c now f) λr9=>some (r9.1,r9.2.1,r9.2.2)) (aA (λ(y10:Bool)=>cond y10 (ob (Cl c now f) λr12=>some (r12.1,r12.2.1,r12.2.2)) (ob (pt (wt c≤bA) c) λr13=>some (r13,[],[]))) λk11=>cond (PB f.Kind) (cond (c.St==2) (k11 true) (k11 (c.St==3))) (k11 false))) λr=>TI r.1 now k:=λb hb=>by
  have hk:∀b:Bool,Pc (cond b (ob (Cl c now f) λr12=>some (r12.1,r12.2.1,r12.2.2)) (ob (pt (wt c≤bA) c) λr13=>some (r13,[],[]))) λr=>TI r.1 now k:=λb=> .c (λ_=>hd) λ_=> .p λ_=> .s h;refine .c (λh1=>hs (hb h1)) λ_=> .j (.c (λ_=> .c (λ_=>hk _) λ_=>hk _) λ_=>hk _)
 have hw:∀b:Bool,Pc (cond b (ob (pt (wt c≤bA) c) λr5=>some (r5,[],[])) (aA (λ(y6:Bool)=>cond y6 (ob (Dg c now f) λr9=>some (r9.1,r9.2.1,r9.2.2)) (aA (λ(y10:Bool)=>cond y10 (ob (Cl c now f) λr12=>some (r12.1,r12.2.1,r12.2.2)) (ob (pt (wt c≤bA) c) λr13=>some (r13,[],[]))) λk11=>cond (PB f.Kind) (cond (c.St==2) (k11 true) (k11 (c.St==3))) (k11 false))) λk7=>cond (f.Kind==2) (cond (c.St==1) (ob (pt (wt f.Cn≤bA∧wt c.Cn≤bA) (f.Cn==c.Cn)) λr8=>k7 r8) (k7 false)) (k7 false))) λr=>TI r.1 now k:=λb=>
  .c (λ_=> .p λ_=> .s h) λ_=> .j (.c (λ_=> .c (λh1=> .p λ_=>hb _ λ_=>beq_iff_eq.1 h1) λ_=>hb _ nofun) λ_=>hb _ nofun)
 exact .j (.p λ_=> .c (λ_=>hw _) λ_=> .c (λ_=>hw _) λ_=> .b λ_ _=>hw _)
end Go.D
namespace Go.D
def zkv{c:Ae}{now k m:Int}(h:TI c now k)(hm:k≤m):TI c now m:=by
 rcases h with h | h | h | h
 ·exact .inl h
 ·exact .inr (.inl h)
 ·exact .inr (.inr (.inl ⟨h.1,zcz h.2 hm⟩))
 ·exact .inr (.inr (.inr ⟨h.1,zcz h.2 (by omega)⟩))
def zvi{c:Ae}{n:Int}:Pc (Gj c n) λr=>r.1.St=0∨r.1.St=c.St:=by
 unfold Gj Cb;simp only[lA,yA,ba,bs]
 repeat' (first | (with_reducible first | intro _ | apply nE | apply gF | apply XD | apply MF) | exact .s (.inl rfl) | exact .s (.inr rfl) | dsimp only)
def zr9{c:Ae}{now k:Int}(hc:dB c=true)(hn:eA (now+1) 0 1000000=true)(h:TI c now k):Pc (Eu c (now+1)) λr=>TI r.1 (now+1) (k - 1):=by
 unfold Eu Cb;simp only[lA,yA,KC,aA,ba,bs,hc,hn];refine .p λ_=> .p λ_=>?_;simp only[Bool.not_true,cond_false]
 rcases h with h | h | h | h
 ·rw[h];exact .s (.inl h)
 ·rw[h];refine .b λv hv=> .s ?_
  rcases zvi v hv with e | e
  ·exact .inl e
  ·exact .inr (.inl (e.trans h))
 ·obtain⟨h1,h2⟩:=h;have ht:NC c.T=true:=by grind [dB]
  rw[h1];refine .b λv hv=>?_
  rcases zko h2 hn ht v hv with e | ⟨e,e2⟩
  ·rw[e];exact .p λ_=> .p λ_=> .s (.inl rfl)
  ·have e3:(v.2==2)=false:=beq_false_of_ne e;rw[e3];refine .c (λh=>nomatch h) λ_=>?_;cases v.2==1
   ·exact .s (.inr (.inr (.inl ⟨rfl,e2⟩)))
   ·exact .p λ_=> .s (.inr (.inr (.inl ⟨rfl,e2⟩)))
 ·obtain⟨h1,h2⟩:=h;have ht:NC c.T=true:=by grind [dB]
  rw[h1];refine .b λv hv=>?_
  rcases zko h2 hn ht v hv with e | ⟨e,e2⟩
  ·rw[e];exact .p λ_=> .p λ_=> .s (.inl rfl)
  ·have e3:(v.2==2)=false:=beq_false_of_ne e;have e4:=zcz (m:=k - 1 - 24) e2 (by omega);rw[e3];refine .c (λh=>nomatch h) λ_=>?_;cases v.2==1
   ·exact .s (.inr (.inr (.inr ⟨rfl,e4⟩)))
   ·exact .b λ_ _=> .s (.inr (.inr (.inr ⟨rfl,e4⟩)))
def CT(w:Aa)(k:Int):Prop:=∀c∈w.Clients,TI c w.Now k
def CS{w v:Aa}{i:Nat}{d:Ae}{k:Int}(h:CT w k)(h1:v.Now=w.Now)(h2:v.Clients=w.Clients.set i d)(e:TI d w.Now k):CT v k:=λx hx=>by
 rw[h2]at hx;rw[h1]
 rcases List.mem_or_eq_of_mem_set hx with h3 | h3
 ·exact h x h3
 ·rw[h3];exact e
def lL{w v:Aa}{k:Int}(h:CT w k)(h1:v.Now=w.Now)(h2:v.Clients=w.Clients):CT v k:=λx hx=>by
 rw[h2]at hx;rw[h1];exact h x hx
def zS{a0:Aa}{a1 k:Int}{a2:Af}{a3:List UInt8}(ha:ZA a0=true)(h:CT a0 k):Pc (Bf a0 a1 a2 a3) λr=>CT r.1 k:=by
 unfold Bf;simp only[lA,eE,aA];refine .p λ_=> .p λ_=>?_;rw[ha];have hn:=(SB.1 ha).now;cases eA a1 0 2
 ·exact .s h
 cases GA a2
 ·exact .s h
 simp only[Bool.not_true,cond_false];refine .c (λ_=> .b λ_ _=> .g λ_=> .b λ_ _=> .s (lL h rfl rfl)) λ_=> .b λf hf=> .c (λ_=> .s h) λh5=> .b λc hc=> .b λv hv=> .g λ_=> .b λ_ _=> .g λ_=> .b λ_ _=> .s (CS h rfl rfl (zuu hn (h c (HI hc)) v hv))
def zjx{a0:Aa}{k:Int}(ha:ZA a0=true)(hN:a0.Now≠1000000)(h:CT a0 k):Pc (Bm a0) λr=>CT r.1 (k - 1):=by
 unfold Bm;simp only[lA,eE,aA];refine .p λ_=> .p λ_=>?_;rw[ha,beq_false_of_ne hN];have hn:=uB.1 (SB.1 ha).now;have kY:eA (a0.Now+1) 0 1000000=true:=uB.2 (by omega);have IZ:=(SB.1 ha).cl;simp only[Bool.not_true,cond_false];refine .l (λx:(List Ak)×Int×Aa=>x.2.2.Now=a0.Now+1∧x.2.2.Clients.length=2∧∃i:Nat,x.2.1=(i:Int)∧∀(j:Nat) (c:Ae),x.2.2.Clients[j]?=some c→(dB c=true∧TI c a0.Now k∧i≤j)∨(TI c (a0.Now+1) (k - 1)∧j<i)) ⟨DA (by omega) (by omega),IZ,0,rfl,λj c hc=> .inl ⟨AH ha (List.mem_of_getElem? hc),h c (List.mem_of_getElem? hc),Nat.zero_le _⟩⟩ (λx q ⟨g1,g2,i,g3,g4⟩ hk=> .c (λMV=> .g λ_=> .b λc hc=> .b λv hv=> .g λ_=> .b λ_ _=> .g λ_=> .b λ_ _=> .g λ_=>hk _ ?_) λtX=> .b λ_ _=> .g λ_=> .s ?_) _
 ·have MV:=of_decide_eq_true MV;rw[g3,Int.toNat_natCast]at hc⊢;refine⟨g1,by show(x.2.2.Clients.set i v.1).length=2;rw[List.length_set];exact g2,i+1,by show gA .i64 (i:Int) 1=_;rw[DA (by omega) (by omega)];omega,λj d hd=>?_⟩;have hd:(x.2.2.Clients.set i v.1)[j]?=some d:=hd;rw[List.getElem?_set]at hd
  by_cases J4:i=j
  ·subst J4;rw[if_pos rfl,if_pos (by omega)]at hd;cases hd
   rcases g4 i c hc with⟨k1,k2,_⟩ | ⟨_,k3⟩
   ·rw[g1]at hv;exact .inr ⟨zr9 k1 kY k2 v hv,by omega⟩
   ·omega
  ·rw[if_neg J4]at hd
   rcases g4 j d hd with⟨k1,k2,k3⟩ | ⟨k2,k3⟩
   ·exact .inl ⟨k1,k2,by omega⟩
   ·exact .inr ⟨k2,by omega⟩
 ·have tX:=of_decide_eq_false tX;intro c hc;have hc:c∈x.2.2.Clients:=hc;show TI c x.2.2.Now (k - 1)
  rw[g1];obtain⟨j,hj,rfl⟩:=List.getElem_of_mem hc
  rcases g4 j _ (List.getElem?_eq_getElem hj)with⟨_,_,k3⟩ | ⟨k2,_⟩
  ·omega
  ·exact k2
def zkR{w:Aa}{k:Int}{l:List Ak}(h:CT w k):Pc (Bb w l) λr=>CT r k:=λv hv=>by
 obtain⟨h1,h2⟩:=zi0 v hv;exact lL h h1 h2
def uF{w:Aa}{k:Int}{l:List Ak}{b:Bool}(h:CT w k):Pc (Option.bind (Bb w l) λr=>some (r,b)) λr=>CT r.1 k:=
 .b λv hv=> .s (zkR h v hv)
end Go.D
namespace Go.D
def ztJ{w:Aa}{k m:Int}(h:CT w k)(hm:k≤m):CT w m:=λc hc=>zkv (h c hc) hm
def zvt{a0:Aa}{a1:Aj}(ha:ZA a0=true)(hn:wt a0≤400000000)(he:PF a1=true)(hl:decide ((a0.Notes.length:Int)>500)=false)(h0:CT a0 47):Pc (Ev a0 a1) λr=>CT r.1 47:=by
 have hp:∀{α:Type} (v:α),pt (wt a0≤bA) v=some v:=λ_=>oA (by have:=mB;omega);have hf:=fM he;have W1:=(SB.1 ha).now;have jZ:∀{i:Nat} {c:Ae},a0.Clients[i]?=some c→TI c a0.Now 47:=λhc=>h0 _ (List.mem_of_getElem? hc);have hk:a1.Kind=1∨a1.Kind=2∨a1.Kind=3∨a1.Kind=4∨a1.Kind=5∨a1.Kind=6∨a1.Kind=7∨a1.Kind=8∨a1.Kind=9∨a1.Kind=10∨a1.Kind=11∨a1.Kind=12∨a1.Kind=13∨a1.Kind=14∨a1.Kind=15∨a1.Kind=16∨a1.Kind=17:=by omega
 unfold Ev Ib Ip Ir Io;simp only[lA,eE,yA,FD,CD,dI]
 rcases hk with h | h | h | h | h | h | h | h | h | h | h | h | h | h | h | h | h
 all_goals simp only[h,hp,ha,he,hl,aA,Bool.not_true,Bool.not_false,cond_true,cond_false,Int.reduceBEq,beq_self_eq_true,ba,bs,bc,bn]
 ·refine .g λ_=> .b λc hc=> .p λ_=> .p λ_=> .g λ_=> .b λv hv=> .g λ_=> .b λ_ _=> .g λ_=> .b λ_ _=> .c (λ_=> .s h0) λ_=>uF (CS h0 rfl rfl ?_)
  rcases zun W1 v hv with e | e
  ·rw[e];exact jZ hc
  ·exact e
 ·exact .g λ_=> .b λc hc=> .b λv hv=> .g λ_=> .b λ_ _=> .g λ_=> .b λ_ _=> .c (λ_=> .s h0) λ_=>uF (CS h0 rfl rfl (zcp (jZ hc) (ztg v hv)))
 ·exact .b λ_ _=> .g λ_=> .b λ_ _=> .c (λ_=> .s h0) λ_=>uF (lL h0 rfl rfl)
 ·exact .b λv hv=> .c (λ_=> .s h0) λh1=>uF (ztJ (zjx ha (by simp only[Bool.not_eq_false']at h1;have:=of_decide_eq_true h1;omega) h0 v hv) (by omega))
 ·exact .g λ_=> .b λc hc=> .b λv hv=> .g λ_=> .b λ_ _=> .g λ_=> .b λ_ _=>uF (CS h0 rfl rfl (zcp (jZ hc) (ztw v hv)))
 ·exact .g λ_=> .b λc hc=> .b λv hv=> .g λ_=> .b λ_ _=> .g λ_=> .b λ_ _=> .c (λ_=> .s h0) λ_=>uF (CS h0 rfl rfl (zcp (jZ hc) (zsY v hv)))
 ·exact .c (λ_=> .s h0) λ_=> .c (λ_=> .n) λ_=> .b λx hx=> .p λ_=> .c (λ_=> .s h0) λ_=> .b λv hv=>uF (zS ha h0 v hv)
 ·exact .c (λ_=> .s h0) λ_=> .c (λ_=> .n) λ_=> .b λx hx=> .p λ_=> .c (λ_=> .s h0) λ_=> .b λv hv=>uF (zS ha h0 v hv)
 ·exact .c (λ_=> .s h0) λ_=> .c (λ_=> .n) λ_=> .b λx hx=> .p λ_=> .c (λ_=> .s h0) λ_=> .b λv hv=>uF (zS ha h0 v hv)
 ·exact .c (λ_=> .s h0) λ_=> .c (λ_=> .n) λ_=> .b λx hx=> .p λ_=> .c (λ_=> .s h0) λ_=> .c (λ_=> .n) λ_=> .g λ_=> .b λ_ _=> .g λ_=> .b λ_ _=> .c (λ_=> .s h0) λ_=> .b λv hv=>uF (zS ha h0 v hv)
 ·exact .b λu hu=> .b λv hv=> .c (λ_=> .s h0) λ_=>uF (zS ha h0 v hv)
 ·exact .b λ_ _=> .g λ_=> .b λ_ _=> .c (λ_=> .s h0) λ_=>uF (lL h0 rfl rfl)
 ·refine .g λ_=> .b λc hc=> .c (λ_=> .b λv hv=> .g λ_=> .b λ_ _=> .g λ_=> .b λ_ _=> .s h0) λ_=> .b λv hv=> .g λ_=> .b λ_ _=> .g λ_=> .b λ_ _=>uF (CS h0 rfl rfl ?_)
  rcases zuo v hv with e | e
  ·rw[e];exact jZ hc
  ·exact .inl e
 ·exact .b λ_ _=> .g λ_=> .b λ_ _=> .c (λ_=> .s h0) λ_=>uF (lL h0 rfl rfl)
 ·exact .g λ_=> .b λ_ _=> .c (λ_=> .s h0) λ_=> .b λ_ _=> .g λ_=> .p λ_=> .g λ_=> .c (λ_=> .s h0) λ_=>uF (lL h0 rfl rfl)
 ·exact .c (λ_=> .s h0) λ_=> .g λ_=> .b λ_ _=> .c (λ_=> .s h0) λ_=> .g λ_=> .b λ_ _=> .b λ_ _=> .g λ_=> .p λ_=> .g λ_=> .c (λ_=> .s h0) λ_=>uF (lL h0 rfl rfl)
 ·exact .c (λ_=> .b λ_ _=>uF (lL h0 rfl rfl)) λ_=> .b λ_ _=>uF (lL h0 rfl rfl)
end Go.D
namespace Go.D
def zhS{i:Int}{p:List UInt8}{a:Af}:(yB i p a).St=0:=by
 unfold yB;cases eA i 1 9&&vC p&&GA a<;>rfl
def zu5{s a b:List UInt8}{m:Int}:CT (XJ s a b m) 47:=by
 unfold XJ;cases BB (yC [a,b] s m)
 ·exact λc hc=>nomatch hc
 ·intro c hc;have hc:c∈[yB 1 a (aC 1),yB 2 b (aC 2)]:=hc
  rcases List.mem_cons.1 hc with h | h
  ·rw[h];exact .inl zhS
  ·rw[List.mem_singleton.1 h];exact .inl zhS
def zvb{a0:Ar}:Pc (Gk a0) λr=>CT r.1 47:=by
 unfold Gk;exact .b λ_ _=> .b λ_ _=> .b λ_ _=> .b λ_ _=> .p λ_=> .s zu5
def zre{a0:Ar}{a1:Int}{a2:Bool}(ha:nB a0):Pc (Hx a0 a1 a2) λr=>CT r.2.2.1 47:=by
 have hL:=mB;unfold Hx;refine .b λr1 h1=>?_;obtain⟨q,hq,g1,g2,g3⟩:=zhy ha;cases hq.symm.trans h1;refine .p λ_=> .b λr3 h3=>?_;obtain⟨q,hq,_,_,_,g4⟩:=HD (n:=a1) g1;cases hq.symm.trans h3;refine .j (.l (λx6:(List Aj)×Int×Ar×Int×Aa=>nB x6.2.2.1∧WR x6.2.2.2.2∧CT x6.2.2.2.2 47) ⟨g4,g2,zvb r1 h1⟩ (λx6 k7 ⟨nY,JX,V4⟩ wW=> .c (λ_=> .b λr8 h8=> .g λ_=> .p λ_=>?_) λ_=> .s V4) _);have hz:=JX.sz;have F:=UJ JX.ok;obtain⟨q,hq,w8,c8⟩:=@zhi x6.2.2.1 x6.2.2.2.2 x6.2.2.2.1 a2 nY (by omega) (by rw[(SB.1 JX.ok).cl];omega);cases hq.symm.trans h8;have keep:∀(b:Bool) (w:Aa),(b=true→WR w∧CT w 47)→Pc (cond b (k7 ((x6.1++[r8.1]),(qA .i64 x6.2.1 1),r8.2.1,r8.2.2,w)) (k7 ((x6.1++[r8.1]),(qA .i64 x6.2.1 1),r8.2.1,r8.2.2,x6.2.2.2.2))) λr=>CT r.2.2.1 47:=λb w hb=> .c (λh=>wW _ ⟨c8,hb h⟩) λ_=>wW _ ⟨c8,JX,V4⟩;refine .j (.c (λh3=> .c (λh4=> .b λq hq=>keep _ _ λh5=>?_) λ_=>keep false x6.2.2.2.2 nofun) λ_=>keep false x6.2.2.2.2 nofun);have h3:=of_decide_eq_true h3;have hl:decide ((x6.2.2.2.2.Notes.length:Int)>500)=false:=decide_eq_false (by omega);obtain⟨v,hv,D⟩:=zg9 (a0:=x6.2.2.2.2) (a1:=r8.1) (by omega) (by omega);have e:=zlh JX.ok (by omega) (by omega) h4 hl v (cond q.1 q.2 x6.2.2.2.2,q.1) hv (by rw[hq];rfl);rw[h5]at e;have e1:v.1=q.2:=by rw[e];rfl
 have e2:v.2=true:=by rw[e]
 have hk:KP x6.2.2.2.2 v.1:=zle JX.ok (by omega) (by omega) h4 hl v hv;have ht:CT v.1 47:=zvt JX.ok (by omega) h4 hl V4 v hv;have hN:=kE (SB.1 JX.ok).notes;have hW:=yO JX.ok;have NV:=D.sz;rw[e1]at NV hk ht;exact⟨⟨by rw[←e1];exact(D.yes e2).2.2.2.1,hk.2 JX.ch,by show wt q.2≤_;omega⟩,ht⟩
def zpq{a0:List UInt8}(ha:a0.length≤1048576):Pc (Hy a0) λr=>CT r 47:=by
 unfold Hy Jb;simp only[ba,bs];refine .b λr1 h1=> .b λr2 h2=> .b λr3 h3=> .b λr4 h4=> .s ?_;obtain⟨q,hq,g1⟩:=zhE ha;cases hq.symm.trans h1;obtain⟨q,hq,g3⟩:=dN (n:=3) g1;cases hq.symm.trans h3;exact zre g3 r4 h4
end Go.D
namespace Go.D
def zsU{a0:Aa}{a1:Int}{a2:Af}{a3:List UInt8}(ha:ZA a0=true)(hn:wt a0≤800000000)(h0:0≤a1)(h2:a1≤2)(hb:wt a3≤900000000):Ok (Bf a0 a1 a2 a3) λr=>rJ a0 r.2 r.1∧r.1.Now=a0.Now:=by
 obtain⟨r,h,p1,p2,p3,p4,p5,p6,_,p8⟩:=@zid a0 a1 a2 a3 (by omega) hb;refine⟨r,h,⟨p1 ha,p2,ziX r h,by omega,p4,λx hx=>?_⟩,p8⟩
 by_cases e:a1=0
 ·exact(p5 ha e x hx).1
 ·have hc:=(SB.1 ha).cl;have e1:qA .i64 a1 1=a1 - 1:=SA (by omega) (by omega);exact((p6 ha _ e (List.getElem?_eq_getElem (by rw[e1];omega))).1 x hx).1
structure CW(w:Aa)(t k:Int)(n:Nat):Prop where
 ok:ZA w=true
 now:w.Now=t
 ct:CT w k
 sz:wt w≤n
def zkS{w:Aa}{t k:Int}{n:Nat}{l:List Ak}(h1:ZA w=true)(h2:w.Now=t)(h3:CT w k)(h4:wt w≤n)(hn:n≤480000000)(hl:wt l≤1000):Ok (Bb w l) λr=>CW r t k (n+22600):=by
 obtain⟨r,hr,g1,m,g2⟩:=zhA h1 (by omega) hl;refine⟨r,hr,g1,by rw[g2];exact h2,zkR h3 r hr,?_⟩;have h5:=yO g1;have h6:r.Notes=w.Notes:=by rw[g2]
 have h7:wt w.Notes≤wt w:=by simp only[gG];omega
 rw[h6]at h5;omega
def zvg{a0 a1}{t k:Int}{n:Nat}(h:CW a0 t k n)(hn:n≤450000000)(hw:wt a1≤1000)(hl:∀x∈a1,lE x=true):Ok (Jf a0 a1) λr=>CW r t k (n+9000000):=by
 have hL:=mB;have hla:=QB a1;have NV:=h.sz;unfold Jf;refine .cp (by omega) (.m (oA (by omega)) ?_);rw[h.ok];refine .kf (.j (λ_=>True) (λy3 _=> .cp (by omega) ?_) λk4 iW=> .l (λx5:Int×Aa=>0≤x5.1∧x5.1≤(a1.length:Int)) (λx5=>((a1.length:Int) - x5.1).toNat) (λx5 hx k6 EW=> .c (λh1=>?_) λ_=>iW _ trivial) ⟨Int.le_refl _,Int.natCast_nonneg _⟩ (by simp only;omega))
 ·let I:(List Ak)×Int×Aa→Prop:=λx=>∃i:Nat,x.2.1=(i:Int)∧i≤60∧wt x.1≤1000+1000 *i∧(∀z∈x.1,lE z=true)∧CW x.2.2 t k (n+142600 *i);refine .j (λy9=>∃i≤60,CW y9.2 t k (n+142600 *i)) (λy9 ⟨i,hi,g⟩=> .s ⟨g.ok,g.now,g.ct,Nat.le_trans g.sz (by have:=Nat.mul_le_mul_left 142600 hi;omega)⟩) λk10 bW=> .l I (λx=>(60 - x.2.1).toNat) (λx ⟨i,e1,e2,e3,e4,g⟩ k12 BW=>?_) ⟨0,rfl,Nat.zero_le _,hw,hl,h⟩ (by simp only;omega);have hlx:=QB x.1;have hm:=Nat.mul_le_mul_left 142600 e2;have gz:=g.sz;refine .j (λy13=>y13=true→i<60∧i<x.1.length) (λy13 hy=> .c (λh1=>?_) λ_=>bW _ ⟨i,e2,g⟩) λk14 eW=> .c (λh1=>eW _ λh2=>⟨by have:=of_decide_eq_true h1;omega,by have:=of_decide_eq_true h2;omega⟩) λ_=>eW _ nofun;obtain⟨q1,q2⟩:=hy h1;have ei:gA .i64 x.2.1 1=((i+1:Nat):Int):=by rw[e1,DA (by omega) (by omega)];omega
  have hmu:(60 - gA .i64 x.2.1 1).toNat<(60 - x.2.1).toNat:=by rw[ei];omega
  have F:=UJ g.ok;refine .j (λy15=>wt y15.1≤1000+1000 *(i+1)∧(∀z∈y15.1,lE z=true)∧CW y15.2 t k (n+142600 *(i+1))) (λy15 F0=>BW _ ⟨i+1,ei,q1,F0⟩ hmu) λk16 aX=> .h (by simp only[B,e1];omega) (.bg (by rw[e1];omega) λe17 he _=> .b (iU (by omega) F.2.2.2.2.2.1) λr18 hr=> .c (λ_=>aX _ ⟨by show wt x.1≤1000+1000 *(i+1);omega,e4,g.ok,g.now,g.ct,by show wt x.2.2≤n+142600 *(i+1);omega⟩) λhp=> .h (by simp only[B,e1];omega) (.m he (.h (by simp only[B,e1];omega) (.m he ?_))));have hwz:=e4 _ (List.mem_of_getElem? he);have hp:=of_decide_eq_false hp;refine .b (zsU g.ok (by omega) (by omega) (by omega) (by simp only[N];simp only[lE,Bool.and_eq_true,decide_eq_true_eq]at hwz;omega)).we λr21 ⟨⟨E,en⟩,NZ⟩=> .b (zkS E.ok (en.trans g.now) (zS g.ok g.ct r21 NZ) (n:=n+142600 *i+120000) (by have:=E.sz;omega) (by omega) E.wl) λr22 mX=> .g (by have:=E.wl;omega) (aX _ ⟨?_,?_,mX.ok,mX.now,mX.ct,Nat.le_trans mX.sz (by rw[Nat.mul_succ];omega)⟩)
  ·show wt (x.1++r21.2)≤_
   rw[MN];have:=E.wl;omega
  ·intro z hz
   rcases List.mem_append.1 hz with h3 | h3
   ·exact e4 z h3
   ·exact E.wires z h3
 ·have h1:=of_decide_eq_true h1;have ei:gA .i64 x5.1 1=x5.1+1:=DA (by omega) (by omega);refine .bm hx.1 h1 λe he _=>?_;rw[hl e he];exact .kf (EW _ ⟨by simp only[ei];omega,by simp only[ei];omega⟩ (by simp only[ei];omega))
def ztz{a0}{t k:Int}{n:Nat}(h:CW a0 t k n)(ht:t<1000000)(hn:n≤440000000):Ok (Jg a0) λr=>CW r (t+1) (k - 1) (n+9200000):=by
 have hL:=mB;have NV:=h.sz;unfold Jg;refine .j (λy=>y=false) (λy hy=>?_) λk2 IV=> .m (oA (by omega)) ?_
 ·subst hy;refine .kf (.b (zhd (by omega)).we λr5 ⟨⟨q1,_,q3,q4,q5,q6,_⟩,h5⟩=>?_);have hN:a0.Now≠1000000:=by rw[h.now];omega
  refine .b (zkS (q1 h.ok) (n:=n+120000) ((q6 h.ok hN).trans (by rw[h.now])) (zjx h.ok hN h.ct r5 h5) (by omega) (by omega) q4) λr6 vW=> .b (zvg vW (by omega) q4 λx hx=>(q5 h.ok x hx).1) λr7 FW=> .s ⟨FW.ok,FW.now,FW.ct,Nat.le_trans FW.sz (by omega)⟩
 ·rw[h.ok];refine .kf (IV _ ?_);exact beq_false_of_ne (by rw[h.now];omega)
def zuC{a0:Aa}{t k:Int}(h:CW a0 t k 300000)(ht:0≤t∧t≤900000):Ok (Jh a0 48) λr=>CW r (t+48) (k - 48) 450000000:=by
 have hL:=mB;have NV:=h.sz;unfold Jh;refine .cp (by omega) (.kf (.j (λy=>CW y (t+48) (k - 48) 450000000) (λy hy=> .s hy) λk3 JV=> .l (λx:Int×Aa=>∃i:Nat,x.1=(i:Int)∧i≤48∧CW x.2 (t+i) (k - i) (300000+9200000 *i)) (λx=>(48 - x.1).toNat) (λx ⟨i,e1,e2,g⟩ k5 sW=> .c (λh1=>?_) λh1=>?_) ⟨0,rfl,Nat.zero_le _,by simpa using h⟩ (by simp only;omega)))
 ·have h1:=of_decide_eq_true h1;have hm:=Nat.mul_le_mul_left 9200000 (show i≤47 by omega);have ei:gA .i64 x.1 1=((i+1:Nat):Int):=by rw[e1,DA (by omega) (by omega)];omega
  refine .b (ztz g (by omega) (by omega)) λr hr=>sW _ ⟨i+1,ei,by omega,⟨hr.ok,by rw[hr.now];omega,λc hc=>zkv (hr.ct c hc) (by omega),Nat.le_trans hr.sz (by rw[Nat.mul_succ];omega)⟩⟩ (by simp only[ei];omega)
 ·have h1:=of_decide_eq_false h1;have:i=48:=by omega
  subst this;exact JV _ ⟨g.ok,g.now,g.ct,Nat.le_trans g.sz (by omega)⟩
end Go.D
namespace Go.D
def zqq{w:Aa}{k:Int}(hk:k≤0)(h:CT w k):∀c∈w.Clients,c.St=0∨c.St=3:=λc hc=>by
 rcases h c hc with e | e | e | e
 ·exact .inl e
 ·exact .inr e
 ·have:=zfP e.2;omega
 ·have:=zfP e.2;omega
def RQ.ok{x}(_:xA [.sl .byte] x):Na x=some (zkL (α:=List UInt8) x):=by
 have hL:=mB
 have:Ok (Na x) λr=>r=true:=by
  unfold Na;refine .c (λ_=> .s rfl) λhb=>?_;have hb:List.length (α:=UInt8) x≤1048576:=by have:=of_decide_eq_false hb;omega
  refine .b (znn hb).we λw ⟨⟨W,hN⟩,hw⟩=>?_;have hn:=uB.1 (SB.1 W.ok).now;have hz:=W.sz;refine .b (zuC ⟨W.ok,rfl,zpq hb w hw,W.sz⟩ (by omega)) λr g=> .j0 (.m (oA (by omega)) ?_);have hg:=g.sz;rw[W.ok];refine .kt (.m (oA (by omega)) ?_);rw[g.ok]
  have hs:OU r=true:=by
   have h:=zqq (by omega) g.ct;unfold OU;simp only[g.ok,Bool.true_and,Bool.not_eq_true',List.any_eq_false];intro c hc
   rcases h c hc with e | e<;>rw[e]<;>decide
  refine .kt (.m (oA (by omega)) ?_);rw[hs,g.now,DA (by omega) (by omega),beq_self_eq_true];exact .kt (.s rfl)
 obtain⟨r,h,rfl⟩:=this;exact h
end Go.D

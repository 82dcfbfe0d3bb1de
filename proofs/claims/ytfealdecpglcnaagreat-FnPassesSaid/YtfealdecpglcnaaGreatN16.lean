/-
 Sizes.
-/
import Derived.Test.YtfealdecpglcnaaGreatN13
import Derived.Test.YtfealdecpglcnaaGreatA1
set_option linter.all false
namespace Go.D
end Go.D
namespace Go.D
end Go.D
namespace Go.D
open Option renaming bind→ob
noncomputable section
def Dd(a0:Ab)(a1:List Am):Option Ab:=
 ob (nA a0) λr1=>
 ob (bE a0) λr2=>
 cond (!r2)
 (some r1)
 (aA (λ(y3:Ab)=>
 ob (nA a1) λr8=>
 aA (λ(y9:(List Am)×Ab)=>
 some y9.2) λk10=>
 qA FU (λ(x11:(List Am)×Int×Ab) k12=>
 aA (λy13=>
 cond (y13)
 (aA (λ(y15:(List Am)×Ab)=>
 k12 (y15.1,(iA .i64 x11.2.1 1),y15.2)) λk16=>
 cond (decide (0≤x11.2.1)&&decide (x11.2.1<(x11.1.length:Int))) (ob (x11.1[x11.2.1.toNat]?) λe17=>
 ob (SK x11.2.2 e17.To) λr18=>
 cond (decide (r18<0))
 (k16 (x11.1,x11.2.2))
 (cond (decide (0≤x11.2.1)&&decide (x11.2.1<(x11.1.length:Int))) (ob (x11.1[x11.2.1.toNat]?) λe19=>
 cond (decide (0≤x11.2.1)&&decide (x11.2.1<(x11.1.length:Int))) (ob (x11.1[x11.2.1.toNat]?) λe20=>
 ob (Gh x11.2.2 r18 e19.From e20.B) λr21=>
 ob (Ck r21.1 r21.2) λr22=>
 cond (decide (x11.1.length+r21.2.length≤bA)) (k16 ((x11.1++r21.2),r22)) none) none) none)) none)
 (k10 (x11.1,x11.2.2))) λk14=>
 cond (decide (x11.2.1<60))
 (k14 (decide (x11.2.1<(x11.1.length:Int))))
 (k14 false)) (r8,0,r1)) λk4=>
 qA FU (λ(x5:Int×Ab) k6=>
 cond (decide (x5.1<(a1.length:Int)))
 (ob (kA a1 x5.1) λe7=>
 cond (!(LC e7))
 (some r1)
 (k6 ((iA .i64 x5.1 1),x5.2)))
 (k4 x5.2)) (0,(⟨0,[],(⟨[],(⟨[]⟩:Ba),(⟨[],0⟩:Ax),(⟨0,[]⟩:Ao),[]⟩:Ac),(⟨[],0⟩:Ax),[],[],[]⟩:Ab)))
def De(a0:Ab):Option Ab:=
 aA (λy1=>
 cond (y1)
 (ob (nA a0) λr4=>
 some r4)
 (ob (Du a0) λr5=>
 ob (Ck r5.1 r5.2) λr6=>
 ob (Dd r6 r5.2) λr7=>
 some r7)) λk2=>
 ob (bE a0) λr3=>
 cond (!r3)
 (k2 true)
 (k2 (a0.Now==1000000))
def Jt(a0:Ab)(a1:Int):Option Ab:=
 ob (nA a0) λr1=>
 cond (!(eA a1 0 60))
 (some r1)
 (aA (λ(y2:Ab)=>
 some y2) λk3=>
 qA FU (λ(x4:Int×Ab) k5=>
 cond (decide (x4.1<a1))
 (ob (De x4.2) λr6=>
 k5 ((iA .i64 x4.1 1),r6))
 (k3 x4.2)) (0,r1))
end
end Go.D
namespace Go.D
end Go.D
namespace Go.D
end Go.D
namespace Go.D
end Go.D
namespace Go.D
open Option renaming bind→ob
noncomputable section
def Ju(a0:List UInt8):Option (Ab×(List Am)):=
 ob (Gi a0) λr1=>
 ob (Kk r1 16) λr2=>
 ob (Ar r2.2 4) λr3=>
 aA (λ(y4:(List Am)×Af)=>
 ob (Bb y4.2 6) λr12=>
 aA (λ(y13:(List Am)×Af)=>
 some (r2.1,y13.1)) λk14=>
 cond (r12.1)
 (ob (Kj r12.2) λr15=>
 cond (decide (y4.1.length+[r15.1].length≤bA)) (k14 ((y4.1++[r15.1]),r15.2)) none)
 (k14 (y4.1,r12.2))) λk5=>
 qA FU (λ(x6:(List Am)×Int×Af) k7=>
 aA (λy8=>
 cond (y8)
 (ob (Ar x6.2.2 (r2.1.Seen.length:Int)) λr10=>
 cond (decide (0≤r10.1)&&decide (r10.1<(r2.1.Seen.length:Int))) (ob (r2.1.Seen[r10.1.toNat]?) λe11=>
 cond (decide (([]:List UInt8).length+e11.B.length≤bA)) (cond (decide (x6.1.length+[(⟨e11.From,e11.To,[]++e11.B⟩:Am)].length≤bA)) (k7 ((x6.1++[(⟨e11.From,e11.To,[]++e11.B⟩:Am)]),(wA .i64 x6.2.1 1),r10.2)) none) none) none)
 (k5 (x6.1,x6.2.2))) λk9=>
 cond (decide (x6.2.1>0))
 (k9 (decide ((r2.1.Seen.length:Int)>0)))
 (k9 false)) ([],(iA .i64 1 r3.1),r3.2)
def Jv(a0:List UInt8):Option Ab:=
 ob (Gi a0) λr1=>
 ob (Kk r1 16) λr2=>
 ob (Bb r2.2 3) λr3=>
 aA (λ(y4:Af×Ab)=>
 some y4.2) λk5=>
 cond (r3.1)
 (ob (As r3.2 [1,3,8,60]) λr6=>
 k5 (r6.2,(⟨iA .i64 r2.1.Now r6.1,r2.1.Clients,r2.1.S,r2.1.D,r2.1.Seen,r2.1.Known,r2.1.Notes⟩:Ab)))
 (k5 (r3.2,r2.1))
def Ik(a0:Ab)(a1:List Am):Option Ab:=
 aA (λ(y1:(List Am)×Ab)=>
 some y1.2) λk2=>
 qA FU (λ(x3:(List Am)×Int×Ab) k4=>
 aA (λy5=>
 cond (y5)
 (aA (λ(y7:(List Am)×Ab)=>
 k4 (y7.1,(iA .i64 x3.2.1 1),y7.2)) λk8=>
 cond (decide (0≤x3.2.1)&&decide (x3.2.1<(x3.1.length:Int))) (ob (x3.1[x3.2.1.toNat]?) λe9=>
 ob (SK x3.2.2 e9.To) λr10=>
 cond (decide (r10<0))
 (k8 (x3.1,x3.2.2))
 (cond (decide (0≤x3.2.1)&&decide (x3.2.1<(x3.1.length:Int))) (ob (x3.1[x3.2.1.toNat]?) λe11=>
 cond (decide (0≤x3.2.1)&&decide (x3.2.1<(x3.1.length:Int))) (ob (x3.1[x3.2.1.toNat]?) λe12=>
 ob (Ej x3.2.2 r10 e11.From e12.B) λr13=>
 ob (nA r13.1) λr14=>
 ob (Bm r13.2 r14 []) λr15=>
 cond (decide (x3.1.length+r13.1.length≤bA)) (k8 ((x3.1++r13.1),r15)) none) none) none)) none)
 (k2 (x3.1,x3.2.2))) λk6=>
 cond (decide (x3.2.1<60))
 (k6 (decide (x3.2.1<(x3.1.length:Int))))
 (k6 false)) (a1,0,a0)
def Ku(a0:Ab)(a1:List Am):Option Ab:=
 ob (nA a0) λr1=>
 ob (bE a0) λr2=>
 cond (!r2)
 (some r1)
 (aA (λ(y3:Ab)=>
 ob (nA a1) λr8=>
 ob (Ik r1 r8) λr9=>
 some r9) λk4=>
 qA FU (λ(x5:Int×Ab) k6=>
 cond (decide (x5.1<(a1.length:Int)))
 (ob (kA a1 x5.1) λe7=>
 cond (!(LC e7))
 (some r1)
 (k6 ((iA .i64 x5.1 1),x5.2)))
 (k4 x5.2)) (0,(⟨0,[],(⟨[],(⟨[]⟩:Ba),(⟨[],0⟩:Ax),(⟨0,[]⟩:Ao),[]⟩:Ac),(⟨[],0⟩:Ax),[],[],[]⟩:Ab)))
def Il(a0:Ab):Option Ab:=
 ob (nA a0) λr1=>
 aA (λy2=>
 cond (y2)
 (some r1)
 (ob (Ea r1) λr5=>
 ob (nA r5.1) λr6=>
 ob (Bm r5.2 r6 []) λr7=>
 ob (Ik r7 r5.1) λr8=>
 some r8)) λk3=>
 ob (bE a0) λr4=>
 cond (!r4)
 (k3 true)
 (k3 (a0.Now==1000000))
def Ox(a0:List UInt8):Option Bool:=
 cond ((cT a0))
 (some true)
 (ob (Ju a0) λr1=>
 ob (Dd r1.1 r1.2) λr2=>
 ob (Jv a0) λr3=>
 ob (De r3) λr4=>
 aA (λy5=>
 cond (y5)
 (some false)
 (aA (λy13=>
 cond (y13)
 (ob (gB r4 r3) λr16=>
 some r16)
 (ob (Du r3) λr17=>
 aA (λ(y18:Bool)=>
 some y18) λk19=>
 ob (bE r4) λr20=>
 cond (r20)
 (ob (Ck r17.1 r17.2) λr21=>
 ob (Dd r21 r17.2) λr22=>
 ob (gB r4 r22) λr23=>
 cond (r23)
 (ob (Jt r3 1) λr24=>
 ob (gB r4 r24) λr25=>
 k19 r25)
 (k19 false))
 (k19 false))) λk14=>
 ob (bE r3) λr15=>
 cond (!r15)
 (k14 true)
 (k14 (r3.Now==1000000)))) λk6=>
 ob (Ku r1.1 r1.2) λr7=>
 ob (gB r2 r7) λr8=>
 cond (!r8)
 (k6 true)
 (ob (Il r3) λr9=>
 ob (gB r4 r9) λr10=>
 cond (!r10)
 (k6 true)
 (ob (bE r1.1) λr11=>
 cond (r11)
 (ob (bE r2) λr12=>
 k6 (!r12))
 (k6 false))))
end
end Go.D
namespace Go.D
end Go.D
namespace Go.D
def zoG{a0}(ha:a0.length≤1048576):Ok (Ju a0) λr=>wt r.1≤800000000∧r.2.length≤5∧wt r.2≤4200000000∧wt r.1.Notes≤400001000:=by
 unfold Ju;refine have hL:=IB;
 .b (zie ?_) λr1 OV=> .b (zh3 ?_ ?_) λr2 dW=> .b (TA ?_) λr3 tW=> .j (λy4:(List Am)×Af=>wt y4.1≤3300000000∧y4.1.length≤4∧mA y4.2) (λy4 dZ=> .b (uE ?_) λr12 vW=> .j (λy13:(List Am)×Af=>wt y13.1≤4200000000∧y13.1.length≤5) (λy13 gY=> .s ?_)
  λk14 RV=> .c (λh1=> .b (zhW ?_) λr15 GW=> .g ?_ (RV _ ?_))
  λh1=>RV _ ?_)
  λk5 mW=> .l (λx6:(List Am)×Int×Af=>0≤x6.2.1∧x6.2.1≤4∧wt x6.1+800000001 *x6.2.1≤3300000000∧(x6.1.length:Int)+x6.2.1≤4∧mA x6.2.2) (λx6:(List Am)×Int×Af=>x6.2.1.toNat) (λx6 G5 k7 UV=> .j (λy8:Bool=>y8=true→0<x6.2.1∧0<r2.1.Seen.length) (λy8 P4=> .c (λh2=>have i3:=P4 h2; .b (TA ?_) λr10 rW=> .h ?_ (.bg ?_ λe11 S6 L3=> .g ?_ (.g ?_ (UV _ ?_ ?_))))
  λh2=>mW _ ?_)
  λk9 WW=> .c (λh4=>WW _ λq5=>?_)
  λ_=>WW _ nofun) ?_ ?_
 all_goals (try simp only[B,N]at *)<;>(try simp(disch:=omega) only[DA,PA]at *)<;>omega
def zox{a0}(ha:a0.length≤1048576):Ok (Jv a0) λr=>wt r≤800000000∧wt r.Notes≤400001000:=by
 unfold Jv;refine have hL:=IB;
 .b (zie ?_) λr1 OV=> .b (zh3 ?_ ?_) λr2 dW=> .b (uE ?_) λr3 tW=> .j (λy4:Af×Ab=>wt y4.2≤800000000∧wt y4.2.Notes≤400001000) (λy4 dZ=> .s ?_)
  λk5 mW=> .c (λh1=> .b (dB (1) (60) ?_ (by simp) (by decide)) λr6 uW=>mW _ ?_)
  λh1=>mW _ ?_
 all_goals (try simp only[B,N]at *)<;>(try simp(disch:=omega) only[DA,PA]at *)<;>omega
end Go.D
namespace Go.D
def Tw{α:Type}(x y:Option α)(P:α→Prop):Prop:=∃r,x=some r∧y=some r∧P r
def Tw.loop{α σ:Type}{f g:σ→(σ→Option α)→Option α}{P:α→Prop}(I:σ→Prop)(μ:σ→Nat)(e:∀x,I x→∀k k',(∀y,I y→μ y<μ x→Tw (k y) (k' y) P)→Tw (f x k) (g x k') P){x:σ}(hx:I x)(hμ:μ x<2^64):Tw (qA FU f x) (qA FU g x) P:=by
 have h:∀n x,I x→μ x<n→Tw (qA n f x) (qA n g x) P:=by
  intro n;induction n with
  | zero=>intro x _ h;exact absurd h (Nat.not_lt_zero _)
  | succ n ih=>intro x hx h;exact e x hx _ _ λy hy hm=>ih y hy (by omega)
 exact h _ _ hx (by rw[zds];exact hμ)
def zwd{w:Ab}{n:Nat}{l:List Am}(h1:oB w=true)(h4:wt w≤n)(hn:n≤480000000)(hl:wt l≤1000):Ok (Ck w l) λr=>oB r=true∧wt r≤n+22600:=by
 obtain⟨r,hr,g1,m,g2⟩:=zp8 h1 (by omega) hl;refine⟨r,hr,g1,?_⟩;have h5:=DV g1;have h6:r.Notes=w.Notes:=by rw[g2]
 have h7:wt w.Notes≤wt w:=by simp only[KI];omega
 rw[h6]at h5;omega
def zlC{w:Ab}{n:Nat}{l:List Am}(h1:oB w=true)(h4:wt w≤n)(hn:n≤480000000)(hl:wt l≤1000)(hw:∀x∈l,LC x=true):Tw (Ck w l) (Bm w l []) λr=>oB r=true∧wt r≤n+22600:=by
 obtain⟨r,hr,p⟩:=zwd h1 h4 hn hl;obtain⟨q,hq,_⟩:=VM (a0:=w) (a1:=l) (a2:=[]) (by omega) hl (by simp only[DG];omega) (ZR h1).2.2.2.2.2.1;have e:=zv9 (w:=w) (ns:=[]) (l:=l) (vF.1 h1).seen hw r q (by rw[List.append_nil];exact hr) hq;subst e;exact⟨r,hr,hq,p⟩
def zuK{w:Ab}{n:Nat}{i:Int}{a:Ai}{b:List UInt8}(h1:oB w=true)(h4:wt w≤n)(hn:n≤480000000)(hi:0≤i∧i≤2)(ha:MA a=true)(hb:wt b≤900000000):
  ∃r,Gh w i a b=some r∧Ej w i a b=some (r.2,r.1)∧oB r.1=true∧wt r.1≤n+100000∧wt r.2≤1000∧∀x∈r.2,LC x=true:=by
 obtain⟨r,h,p1,_,p3,p4,p5,p6,_,_⟩:=@zri w i a b (by omega) hb;obtain⟨q,hq,_⟩:=@zhA w i a b (by omega) hb (ZR h1).2.2.2.2.2.1 hi;have e:=zvu (a0:=w) (a1:=i) (a2:=a) (a3:=b) h1 (pC.2 hi) ha (r.2,r.1) q (by rw[h];rfl) hq;subst e;refine⟨r,h,hq,p1 h1,by omega,p4,λx hx=>?_⟩
 by_cases e:i=0
 ·exact(p5 h1 e x hx).1
 ·have hc:=(vF.1 h1).cl;have e1:wA .i64 i 1=i - 1:=PA (by omega) (by omega);exact((p6 h1 _ e (List.getElem?_eq_getElem (by rw[e1];omega))).1 x hx).1
def zkL:∀{l:List Am},(∀x∈l,LC x=true)→wt l≤201 *l.length
 | [],_=>Nat.le_refl _
 | x :: l,h=>by
  have h1:=h x (.head _);have h2:=zkL λy hy=>h y (.tail _ hy);simp only[LC,Bool.and_eq_true,decide_eq_true_eq]at h1;simp only[N,List.length_cons];omega
def zeT{α σ:Type}{l:List Am}(hl:l.length≤1000000){bad K:Option α}{z:σ}:
  qA FU (λ(x5:Int×σ) k6=>cond (decide (x5.1<(l.length:Int))) (Option.bind (kA l x5.1) λe7=>cond (!(LC e7)) bad (k6 ((iA .i64 x5.1 1),x5.2))) K) (0,z)=cond (l.all LC) K bad:=by
 refine(AG (g:=λx:Int×σ=>cond ((l.drop x.1.toNat).all LC) K bad) (λx=>0≤x.1∧x.1≤(l.length:Int)) (λx=>((l.length:Int) - x.1).toNat) (λx hx k hk=>?_) ⟨Int.le_refl _,Int.natCast_nonneg _⟩ (by simp only;omega)).trans ?_
 ·obtain⟨i,s⟩:=x;obtain⟨j,rfl⟩:=Int.eq_ofNat_of_zero_le hx.1;have hx:=hx.2;simp only at hx hk⊢;rw[Int.toNat_natCast]
  by_cases h:j<l.length
  ·have e:iA .i64 (j:Int) 1=((j+1:Nat):Int):=by rw[DA (by omega) (by omega)];omega
   rw[decide_eq_true (by omega),cond_true,HB h,YA,List.drop_eq_getElem_cons h,List.all_cons];cases LC l[j]
   ·rfl
   ·rw[Bool.not_true,cond_false,e,hk _ ⟨by simp only;omega,by simp only;omega⟩ (by simp only;omega)];simp only[Int.toNat_natCast,Bool.true_and]
  ·rw[decide_eq_false (by omega),cond_false,List.drop_eq_nil_of_le (by omega)];rfl
 ·rfl
set_option maxHeartbeats 2000000 in
theorem zlf{w:Ab}{l:List Am}{n:Nat}(h:oB w=true)(hz:wt w≤n)(hn:n≤450000000)(hw:wt l≤100000)(hl:∀x∈l,LC x=true):
  Tw (Dd w l) (Ik w l) λr=>oB r=true∧wt r≤n+9000000:=by
 have hL:=IB;have hla:=JB l;unfold Dd Ik;rw[nA,HA (by omega),bE,HA (by omega),h,Bool.not_true,cond_false];simp only[aA];rw[zeT (by omega),List.all_eq_true.2 hl,cond_true,nA,HA (by omega)]
 with_reducible refine Tw.loop (λx=>∃i:Nat,x.2.1=(i:Int)∧i≤60∧wt x.1≤100000+1000 *i∧(∀z∈x.1,LC z=true)∧oB x.2.2=true∧wt x.2.2≤n+142600 *i) (λx=>(60 - x.2.1).toNat) ?_ ?_ ?_
 rotate_left
 ·exact⟨0,rfl,Nat.zero_le _,hw,hl,h,hz⟩
 ·simp only;omega
 rintro⟨q,j,v⟩ ⟨i,e1,e2,e3,e4,e5,e6⟩ k k' hk;simp only at e1 e3 e4 e5 e6 hk⊢;subst e1;have hlq:=JB q;have hm:=Nat.mul_le_mul_left 142600 e2
 by_cases c:i<60∧i<q.length
 ·have ei:iA .i64 (i:Int) 1=((i+1:Nat):Int):=by rw[DA (by omega) (by omega)];omega
  have hq:q[(i:Int).toNat]?=some q[i]:=by rw[Int.toNat_natCast,List.getElem?_eq_getElem c.2]
  have hwz:=e4 _ (List.getElem_mem c.2);have p8:=hwz;simp only[LC,Bool.and_eq_true,decide_eq_true_eq]at p8;have F:=ZR e5;have step:∀(a:List Am×Int×Ab),(∃i:Nat,a.2.1=(i:Int)∧i≤60∧wt a.1≤100000+1000 *i∧(∀z∈a.1,LC z=true)∧oB a.2.2=true∧wt a.2.2≤n+142600 *i)→a.2.1=((i+1:Nat):Int)→Tw (k a) (k' a) λr=>oB r=true∧wt r≤n+9000000:=λa ha e=>hk a ha (by rw[e];omega);rw[decide_eq_true (show(i:Int)<60 by omega),decide_eq_true (show(i:Int)<(q.length:Int) by omega),decide_eq_true (show 0≤(i:Int) by omega)];simp only[cond_true,Bool.and_true,hq,YA,ei];obtain⟨p,hp,p1,p2⟩:=zeX (w:=v) (a:=q[i].To) (by omega) F.2.2.2.2.2.1;rw[hp,YA,YA]
  by_cases hp0:p<0
  ·rw[decide_eq_true hp0];exact step _ ⟨i+1,rfl,c.1,by simp only;omega,e4,e5,by simp only;omega⟩ rfl
  ·rw[decide_eq_false hp0,cond_false,cond_false];obtain⟨r,h1,h2,h3,h4,h5,h6⟩:=zuK (i:=p) (a:=q[i].From) (b:=q[i].B) e5 e6 (by omega) (by omega) p8.1.1 (by simp only[N];omega);obtain⟨s,g1,g2,g3,g4⟩:=zlC h3 h4 (by omega) h5 h6;have hlr:=JB r.2;have hlm:=Nat.mul_succ 142600 i;rw[h1,h2,YA,YA,g1,YA,nA,HA (show wt (r.2,r.1).1≤bA by show wt r.2≤bA;omega),g2,YA,decide_eq_true (show q.length+r.2.length≤bA by omega)];refine step _ ⟨i+1,rfl,c.1,?_,λz hz=>?_,g3,?_⟩ rfl
   ·simp only[EU];omega
   ·rcases List.mem_append.1 hz with hz | hz
    ·exact e4 z hz
    ·exact h6 z hz
   ·exact Nat.le_trans g4 (by rw[Nat.mul_succ];omega)
 ·have WB:Tw (some v) (some v) λr=>oB r=true∧wt r≤n+9000000:=⟨v,rfl,rfl,e5,by omega⟩
  by_cases c1:i<60
  ·rw[decide_eq_true (show(i:Int)<60 by omega),decide_eq_false (show ¬(i:Int)<(q.length:Int) by omega)];simp only[cond_true,cond_false];exact WB
  ·rw[decide_eq_false (show ¬(i:Int)<60 by omega)];simp only[cond_false];exact WB
def zvq{w:Ab}{l:List Am}(hz:wt w≤800000000)(hN:wt w.Notes≤400001000)(hl:l.length≤100)(hw:wt l≤30000000000):Tw (Dd w l) (Ku w l) λr=>wt r≤800000000∧(oB w=true→oB r=true):=by
 have hL:=IB
 have e:Ku w l=cond (!oB w) (some w) (cond (l.all LC) (Option.bind (nA l) λr8=>Option.bind (Ik w r8) some) (some w)):=by
  unfold Ku;rw[nA,HA (by omega),bE,HA (by omega)];simp only[aA];rw[zeT (by omega)]
 rw[e];cases h:oB w
 ·refine⟨w,?_,rfl,by omega,nofun⟩;unfold Dd;rw[nA,HA (by omega),bE,HA (by omega),h];rfl
 ·rw[Bool.not_true,cond_false];cases hc:l.all LC
  ·refine⟨w,?_,rfl,by omega,λ_=>h⟩;unfold Dd;rw[nA,HA (by omega),bE,HA (by omega),h,Bool.not_true,cond_false];simp only[aA];rw[zeT (by omega),hc];rfl
  ·have hc:=List.all_eq_true.1 hc;have hs:=zkL hc;have:=DV h;obtain⟨r,h1,h2,h3,h4⟩:=zlf (n:=401000000) h (by omega) (by omega) (by omega) hc;exact⟨r,h1,by rw[cond_true,nA,HA (by omega),h2];rfl,by omega,λ_=>h3⟩
def zuy{w:Ab}(h:oB w=true)(hN:(w.Now==1000000)=false)(hz:wt w≤420000000):
  ∃r,Du w=some r∧Ea w=some (r.2,r.1)∧oB r.1=true∧wt r.1≤wt w+120000∧wt r.2≤1000∧∀x∈r.2,LC x=true:=by
 obtain⟨r,h1,q1,_,q3,q4,q5,_⟩:=@zpf w (by omega);obtain⟨q,hq,_⟩:=@zhF w (by omega) (ZR h).2.2.2.2.2.1;have e:=zvo h hN (r.2,r.1) q (by rw[h1];rfl) hq;subst e;exact⟨r,h1,hq,q1 h,q3,q4,λx hx=>(q5 h x hx).1⟩
def ztE{w:Ab}(h:oB w=true)(hN:(w.Now==1000000)=false)(hz:wt w≤420000000):
  ∃t m r,Du w=some t∧Ck t.1 t.2=some m∧Dd m t.2=some r∧De w=some r∧Il w=some r∧oB r=true∧wt r≤440000000:=by
 have hL:=IB;obtain⟨t,h1,h2,h3,h4,h5,h6⟩:=zuy h hN hz;obtain⟨m,g1,g2,g3,g4⟩:=zlC (n:=430000000) h3 (by omega) (by omega) h5 h6;obtain⟨r,k1,k2,k3,k4⟩:=zlf g3 (n:=431000000) (by omega) (by omega) (by omega) h6;refine⟨t,m,r,h1,g1,k1,?_,?_,k3,by omega⟩
 ·unfold De;simp only[aA];rw[bE,HA (by omega),h,Bool.not_true,cond_false,hN,cond_false,h1,YA,g1,YA,k1];rfl
 ·unfold Il;simp only[aA];rw[nA,HA (by omega),bE,HA (by omega),h,Bool.not_true,cond_false,hN,cond_false,h2,YA,nA,HA (show wt (t.2,t.1).1≤bA by show wt t.2≤bA;omega),g2,YA,k2];rfl
def zus{w:Ab}(h:oB w=false∨(w.Now==1000000)=true)(hz:wt w≤800000000):De w=some w∧Il w=some w:=by
 have hL:=IB;unfold De Il;simp only[aA];rw[bE,HA (by omega),nA,HA (by omega),HA (by omega),HA (by omega)]
 rcases h with h | h
 ·rw[h];exact⟨rfl,rfl⟩
 ·rw[h];cases oB w<;>exact⟨rfl,rfl⟩
end Go.D
namespace Go.D
def GO{a:Ab}(h:wt a+wt a≤bA):gB a a=some true:=uA ⟨rfl,by omega⟩
def ztT{v:Ab}(h:wt v≤bA):Jt v 1=De v:=by
 unfold Jt;rw[nA,HA h,show eA 1 0 60=true by decide,Bool.not_true,cond_false];simp only[aA];refine(AG (g:=λx:Int×Ab=>if x.1=0 then De x.2 else some x.2) (λx=>x.1=0∨x.1=1) (λx=>(1 - x.1).toNat) (λx hx k hk=>?_) (.inl rfl) (by simp only;omega)).trans (if_pos rfl);obtain⟨i,w⟩:=x;simp only at hx hk⊢;have e:iA .i64 0 1=1:=DA (by omega) (by omega)
 rcases hx with rfl | rfl
 ·rw[decide_eq_true (by omega),cond_true,if_pos rfl,e];cases De w with
  | none=>rfl
  | some r=>rw[YA,hk _ (.inr rfl) (by simp only;omega),if_neg (by simp only;omega)]
 ·rw[decide_eq_false (by omega),cond_false,if_neg (by omega)]
def CP.ok{x}(_:xA [.sl .byte] x):Ox x=some (zlv (α:=List UInt8) x):=by
 have hL:=IB
 have:Ok (Ox x) λr=>r=true:=by
  unfold Ox;refine .c (λ_=> .s rfl) λhb=>?_;have hb:List.length (α:=UInt8) x≤1048576:=by have:=of_decide_eq_false hb;omega
  refine .b (zoG hb) λd ⟨d1,d2,d3,d4⟩=>?_;obtain⟨p,p1,p2,p3,p4⟩:=zvq (w:=d.1) (l:=d.2) d1 d4 (by omega) (by omega);refine .m p1 (.b (zox hb) λv ⟨hv,U1⟩=>?_);cases h:(oB v&&!(v.Now==1000000))
  ·have h':oB v=false∨(v.Now==1000000)=true:=by
    cases hw:oB v
    ·exact .inl rfl
    ·rw[hw]at h;exact .inr (by simpa using h)
   obtain⟨r1,r2⟩:=zus h' (by omega);refine .m r1 (.j (λy=>y=false) (λy hy=>?_) λk hk=> .m p2 (.m (GO (by omega)) (.kf (.m r2 (.m (GO (by omega)) (.kf (.m (uA (by omega)) (.c (λh=> .m (uA (by omega)) (hk _ (by rw[p4 h];rfl))) λ_=>hk _ rfl))))))));subst hy;refine .kf (.j (λy=>y=true) (λy hy=>?_) λk hk=> .m (uA (by omega)) (.c (λ_=>hk _ rfl) λhf=>hk _ (h'.resolve_left (by rw[nf hf];nofun))));subst hy;exact .kt (.m (GO (by omega)) (.s rfl))
  ·obtain⟨h1,h2⟩:=Bool.and_eq_true_iff.1 h;have h2:(v.Now==1000000)=false:=by simpa using h2
   have:=DV h1;obtain⟨t,m,r,t1,m1,k1,r1,r2,r3,r4⟩:=ztE h1 h2 (by omega);refine .m r1 (.j (λy=>y=false) (λy hy=>?_) λk hk=> .m p2 (.m (GO (by omega)) (.kf (.m r2 (.m (GO (by omega)) (.kf (.m (uA (by omega)) (.c (λh=> .m (uA (by omega)) (hk _ (by rw[p4 h];rfl))) λ_=>hk _ rfl))))))));subst hy;refine .kf (.j (λy=>y=false) (λy hy=>?_) λk hk=> .m (uA (by omega)) (.c (λhf=>by rw[h1]at hf;cases hf) λ_=>hk _ h2));subst hy;refine .kf (.m t1 (.j (λy=>y=true) (λy hy=> .s hy) λk hk=> .m (uA (by omega)) ?_));rw[r3];exact .kt (.m m1 (.m k1 (.m (GO (by omega)) (.kt (.m ((ztT (by omega)).trans r1) (.m (GO (by omega)) (hk _ rfl)))))))
 obtain⟨r,h,rfl⟩:=this;exact h
end Go.D

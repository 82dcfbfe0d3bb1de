/-
 Sizes of the program's data.
-/
import Derived.Test.YthmhafeaiaigoaaGreatN12
import Derived.Test.YthmhafeaiaigoaaGreatN11
import Derived.Test.YthmhafeaiaigoaaGreatA1
import Derived.Test.YthmhafeaiaigoaaGreatN8g
set_option linter.all false
namespace Go.D
end Go.D
namespace Go.D
end Go.D
namespace Go.D
open Option renaming bind→ob
noncomputable def Kg(a0:List UInt8):=
 ob (Kj a0) λr1=>
 ob (Jj a0 26) λr2=>
 ob (Kl r1 r2 true) λr3=>
 ob (Bb r3.2.2.2 10) λr4=>
 aA (λ(y5:Af×Aa)=>
 some (y5.2,r3.2.1)) λk6=>
 cond (r4.1)
 (ob (Ke r4.2 4) λr7=>
 k6 (r7.2,r7.1))
 (k6 (r4.2,r3.1))
noncomputable def Pm(a0:List UInt8):=
 cond ((DT a0))
 (some true)
 (ob (Kg a0) λr1=>
 aA (λ(y2:(List Am))=>
 aA (λ(y4:Int)=>
 ob (Fc r1.1 y2) λr8=>
 cond (decide (0≤(0:Int))&&decide ((0:Int)≤y4)&&decide (y4≤(y2.length:Int))) (ob (Fc r1.1 (List.take ((y4 - 0).toNat) (List.drop 0 y2))) λr9=>
 cond (decide (0≤y4)&&decide (y4≤(y2.length:Int))&&decide ((y2.length:Int)≤(y2.length:Int))) (ob (Fc r9 (List.take (((y2.length:Int) - y4).toNat) (List.drop y4.toNat y2))) λr10=>
 aA (λ(y11:Bool)=>
 some y11) λk12=>
 ob (kB r8 r10) λr13=>
 cond (r13)
 (ob (Kf r1.1 y2) λr14=>
 ob (kB r8 r14) λr15=>
 k12 r15)
 (k12 false)) none) none) λk5=>
 cond (decide ((y2.length:Int)>0))
 (ob (Ji a0 2) λr6=>
 cond ((iA .i64 (y2.length:Int) 1)==0) none (let x7:Int:=zA .i64 r6 (iA .i64 (y2.length:Int) 1)
 k5 x7))
 (k5 0)) λk3=>
 cond (decide ((r1.2.length:Int)>60))
 (cond (decide (0≤(0:Int))&&decide ((0:Int)≤60)&&decide (60≤(r1.2.length:Int))) (k3 (List.take 60 r1.2)) none)
 (k3 r1.2))
end Go.D
namespace Go.D
end Go.D
namespace Go.D
def zpH{a0}(ha:a0.length≤1048576):Ok (Kg a0) λr=>wt r.1≤800000000∧wt r.2≤200000:=by
 unfold Kg
 refine .b (zrs ?_) λr1 NV=> .b (zqx ?_ ?_) λr2 eW=> .b (zij ?_ ?_) λr3 uW=> .b (KE ?_) λr4 UV=> .j (λy5:Af×Aa=>wt y5.2≤800000000) (λy5 O5=> .s ?_)
  λk6 CW=> .c (λh1=> .b (zq4 ?_ ?_) λr7 HW=>CW _ ?_)
  λh1=>CW _ ?_
 all_goals (try simp only[NB]at *)<;>omega
end Go.D
namespace Go.D
def zmd{α:Type}[Wt α]{a:α}(h:wt a≤bA):kB a a=some true:=qA ⟨rfl,h⟩
end Go.D
namespace Go.D
noncomputable def AG:Aa→List Am→Option Aa
 | w,[]=>some w
 | w,e :: l=>Option.bind (Fb w e) λr=>AG r.1 l
def zmc{l m:List Am}:∀{w:Aa},AG w (l++m)=Option.bind (AG w l) λu=>AG u m:=by
 induction l with
 | nil=>exact rfl
 | cons e l ih=>
  intro w;simp only[List.cons_append,AG,ba,ih]
def zlA{w u:Aa}{l:List Am}{n:Nat}{e:Am}{r:Aa×Bool}(h:AG w (l.take n)=some u)(he:l[n]?=some e)(hr:Fb u e=some r):AG w (l.take (n+1))=some r.1:=by
 rw[List.take_succ,he,zmc,h];simp only[bs,Option.toList,AG,hr]
def zlM{w:Aa}(h:eB w=false)(hw:wt w≤4000000000):∀{l:List Am},wt l≤300000→AG w l=some w
 | [],_=>rfl
 | e :: l,hl=>by
  rw[sD]at hl;obtain⟨r,hr,D⟩:=ze6 (a1:=e) hw (by omega);rw[AG,hr,bs];cases h2:r.2
  ·rw[D.no h2];exact zlM h hw (by omega)
  ·have:=(D.yes h2).1;rw[h]at this;cases this
def zv8{l:List Am}:List.take ((pD (l.length:Int) 60 - 0).toNat) (List.drop 0 l)=l.take 60:=by
 have hm:=zal (l.length:Int) 60;rw[List.drop_zero,Int.sub_zero]
 rcases hm.2 with h | h
 ·rw[h,Int.toNat_natCast,List.take_length,List.take_of_length_le (by omega)]
 ·rw[h];rfl
def zgY{a0:Aa}{a1:List Am}:Pc (Fc a0 a1) λr=>AG a0 (a1.take 60)=some r:=by
 unfold Fc
 (try simp only[oA])
 simp only[zv8,aA];refine .p λ_=> .g λ_=> .l (λx:Int×Aa=>∃n:Nat,x.1=(n:Int)∧n≤(a1.take 60).length∧AG a0 ((a1.take 60).take n)=some x.2) ⟨0,rfl,Nat.zero_le _,rfl⟩ (λx k ⟨n,h1,h2,h3⟩ hk=> .c (λh=> .b λe he=> .b λr hr=>?_) λh=> .s ?_) _
 ·have h:=of_decide_eq_true h;have hl:=List.length_take (i:=60) (l:=a1);refine hk _ ⟨n+1,?_,by omega,zlA h3 ?_ hr⟩
  ·show iA .i64 x.1 1=_
   rw[h1,DA (by omega) (by omega)];omega
  ·unfold kA at he;rw[h1,if_pos (by omega)]at he;exact he
 ·have h:=of_decide_eq_false h;have:n=(a1.take 60).length:=by omega
  rw[this,List.take_length]at h3;exact h3
def zvJ{a0:Aa}{a1:List Am}(hn:wt a0≤2000000000)(hw:wt a1≤300000):Ok (Kf a0 a1) λq=>AG a0 (a1.take 60)=some q:=by
 have hL:=DB;have hl:=zB a1;unfold Kf;refine .cp (by omega) (.m (qA (by omega)) (.c (λh=> .s (zlM (nt h) (by omega) (by have:=wD a1 60;omega))) λh0=>?_));let I:Int×Aa→Prop:=λx=>∃n:Nat,x.1=n∧n≤a1.length∧n≤60∧eB x.2=true∧wt x.2≤wt a0+140000 *n∧AG a0 (a1.take n)=some x.2;refine .j (λy=>AG a0 (a1.take 60)=some y) (λy hy=> .s hy) λk4 QV=> .l I (λx=>(60 - x.1).toNat) (λx ⟨n,e1,e2,e3,e4,e5,e6⟩ k6 CW=>?_) ⟨0,rfl,Nat.zero_le _,Nat.zero_le _,nf h0,Nat.le_add_right _ _,rfl⟩ (by simp only;omega);refine .j (λy7=>y7=decide (n<a1.length∧n<60)) (λy7 aY=> .c (λh1=>?_) λh1=>QV _ ?_) λk8 pW=> .c (λh1=>pW _ ?_) λh1=>pW _ ?_
 ·obtain⟨h2,h3⟩:=of_decide_eq_true (aY.symm.trans h1);have he:=List.getElem?_eq_getElem h2;have s9:=zhm he;have e7:wt x.2≤4000000000:=Nat.le_trans e5 (by have:=Nat.mul_le_mul_left 140000 e3;omega);obtain⟨r,hr,D⟩:=ze6 (a1:=a1[n]) e7 (by omega);have hx:=e1
  have hs:I (iA .i64 x.1 1,r.1):=by
   refine⟨n+1,by show iA .i64 x.1 1=_;rw[e1,DA (by omega) (by omega)];omega,h2,h3,?_,?_,zlA e6 he hr⟩
   ·cases h:r.2
    ·show eB r.1=true
     rw[D.no h];exact e4
    ·exact(D.yes h).2.2.2.1
   ·exact Nat.le_trans D.sz (by rw[Nat.mul_succ, ←Nat.add_assoc];exact Nat.add_le_add_right e5 _)
  have hm:(60 - iA .i64 x.1 1).toNat<(60 - x.1).toNat:=by rw[e1,DA (by omega) (by omega)];omega
  have rn:(x.2.Notes.length≤500→fF a1[n]=true→False)→x.2=r.1:=λh=>by
   cases e:r.2
   ·exact(D.no e).symm
   ·obtain⟨_,h2,h3,_⟩:=D.yes e;exact(h h2 h3).elim
  have gi:∀{β:Type} {P:β→Prop} {f:Am→Option β},Ok (f a1[n]) P→Ok (Option.bind (kA a1 x.1) f) P:=λh=> .m (by unfold kA;rw[if_pos (by omega),e1];exact he) h;refine .j (λy9=>(y9=true→fF a1[n]=true∧decide ((x.2.Notes.length:Int)>500)=false)∧(y9=false→x.2=r.1)) (λy9 yY=> .j (λy12=>y12=r.1) (λy12 HX=>CW _ (HX▸hs) hm) λk13 XV=> .c (λh4=>?_) λh4=>?_) λk10 OV=>gi (.c (λh4=>OV _ ⟨λh5=>⟨h4,decide_eq_false (by have:=of_decide_eq_true h5;omega)⟩,λh5=>rn λh6 _=>(by have:=of_decide_eq_false h5;omega)⟩) λh4=>OV _ ⟨nofun,λ_=>rn λ_ h6=>(by rw[h6]at h4;cases h4)⟩)
  ·obtain⟨g1,g2⟩:=yY.1 h4;have F:=mO e4;have h5:wt x.2≤300000000:=by have:=zaD e4;have:=CE (HC.1 e4).notes;have:=of_decide_eq_false g2;omega
   have hf:=lO g1;refine .cp (by omega) (gi (.b (zjr (by omega) (by have:=F.1;have:=F.2.1;omega) F.2.2.2.2.2.1 (by omega) (by omega)).we λq ⟨_,hq⟩=>?_));have e:=zxF e4 (by omega) (by omega) g1 g2 r (cond q.1 q.2 x.2,q.1) hr (by rw[hq];rfl);exact .j0 (.c (λh=>XV _ (by rw[e,h];rfl)) λh=>XV _ (by rw[e,h];rfl))
  ·exact XV _ (yY.2 h4)
 ·have h3:=of_decide_eq_false (aY.symm.trans h1);show AG a0 (a1.take 60)=some x.2
  by_cases h:n=60
  ·rw[h]at e6;exact e6
  ·rw[List.take_of_length_le (by omega)];rw[List.take_of_length_le (by omega)]at e6;exact e6
 ·exact decide_eq_decide.2 (by have:=of_decide_eq_true h1;omega)
 ·exact(decide_eq_false (by have:=of_decide_eq_false h1;omega)).symm
end Go.D
namespace Go.D
def MQ.ok{x}(_:xA [.sl .byte] x):Pm x=some (zmu (α:=List UInt8) x):=by
 have hL:=DB
 have:Ok (Pm x) λr=>r=true:=by
  unfold Pm;refine .c (λ_=> .s rfl) λhb=>?_;have hb:List.length (α:=UInt8) x≤1048576:=by have:=of_decide_eq_false hb;omega
  refine .b (zpH hb) λd ⟨w1,w2⟩=> .j (λy2=>y2.length≤60∧wt y2≤200000) (λy2 ⟨u1,u2⟩=> .j (λy4=>0≤y4∧y4≤(y2.length:Int)) (λy4 ⟨v1,v2⟩=>?_) λk5 dW=> .c (λh=> .b (zxq (n:=2) (by omega) hb) λr6 vW=>?_) λ_=>dW _ ⟨Int.le_refl _,Int.natCast_nonneg _⟩) λk3 JV=> .c (λh=> .h (by have:=of_decide_eq_true h;simp only[B];omega) (JV _ ⟨by rw[List.length_take];omega,by have:=wD d.2 60;omega⟩)) λh=>JV _ ⟨by have:=of_decide_eq_false h;omega,w2⟩
  ·obtain⟨n,rfl⟩:=Int.eq_ofNat_of_zero_le v1;have t1:=wD y2 n;have t2:=RE y2 n;refine .b (zfE (by omega) (by omega)).we λr8 ⟨p8,h8⟩=> .h (by simp only[B];omega) ?_;have e9:List.take ((n:Int) - 0).toNat (List.drop 0 y2)=y2.take n:=by rw[List.drop_zero,Int.sub_zero,Int.toNat_natCast]
   have e10:List.take ((y2.length:Int) - (n:Int)).toNat (List.drop (n:Int).toNat y2)=y2.drop n:=by rw[Int.toNat_natCast,List.take_of_length_le (by rw[List.length_drop];omega)]
   rw[e9,e10];refine .b (zfE (by omega) (by omega)).we λr9 ⟨p9,h9⟩=> .h (by simp only[B];omega) (.b (zfE (by have:=p9.2.2.2;omega) (by omega)).we λr10 ⟨p10,tW⟩=> .j0 ?_);have f8:=zgY r8 h8;have f9:=zgY r9 h9;have f10:=zgY r10 tW;rw[List.take_of_length_le (by rw[List.length_take];omega)]at f9;rw[List.take_of_length_le (by rw[List.length_drop];omega)]at f10;have f11:=f8;rw[List.take_of_length_le u1, ←List.take_append_drop n y2,zmc,f9,bs,f10]at f8;cases f8;have hz:=p8.2.2.2;refine .m (zmd (by omega)) (.kt (.b (zvJ (by omega) (by omega)) λr14 jY=>?_));rw[f11]at jY;cases jY;exact .m (zmd (by omega)) (.s rfl)
  ·have h:=of_decide_eq_true h;have e1:iA .i64 (y2.length:Int) 1=(y2.length:Int)+1:=DA (by omega) (by omega);have hq:=gH (a:=r6) (n:=(y2.length:Int)+1) (by omega) (by omega);rw[e1];exact .n (beq_false_of_ne (by omega)) (dW _ ⟨hq.1,by omega⟩)
 obtain⟨r,h,rfl⟩:=this;exact h
end Go.D

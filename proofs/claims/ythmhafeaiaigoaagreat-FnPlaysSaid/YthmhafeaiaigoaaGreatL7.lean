/-
 A body's end: what the function gives.
-/
import Derived.Test.YthmhafeaiaigoaaGreatL6
import Derived.Test.YthmhafeaiaigoaaGreatL5
import Derived.Carry
import Derived.WideKeyArgs
import Derived.ChangeSame
set_option linter.all false
namespace Go.D
variable [jA]
omit [jA]in
def aC.app{a b c d:List V}(h:aC a b)(k:aC c d):aC (a++c) (b++d):=by
 induction h with
 | nil=>exact k
 | cons h1 _ ih=>exact .cons h1 ih
omit [jA]in
def zjm(t:Ty)(vs:List V)(x:t.T×List V)(h:HH t vs=some x):∃us,vs=us++x.2∧aC us (zec t x.1):=by
 cases t with
 | v t=>
  simp only[HH]at h;obtain⟨a,h1,h2⟩:=Option.bind_eq_some_iff.1 h;cases h2;exact⟨_,(List.take_append_drop _ _).symm,MF t h1⟩
 | cells t=>
  simp only[HH]at h;obtain⟨a,h1,h2⟩:=Option.bind_eq_some_iff.1 h;cases h2;exact⟨_,(List.take_append_drop _ _).symm,MF t h1⟩
 | sl t=>
  cases vs with
  | nil=>simp[HH]at h
  | cons v vs=>
   simp only[HH]at h;obtain⟨a,h1,h2⟩:=Option.bind_eq_some_iff.1 h;cases h2;exact⟨[v],rfl, .cons (YA h1) .nil⟩
 | raw=>
  cases vs with
  | nil=>simp[HH]at h
  | cons v vs=>simp only[HH,Option.some.injEq]at h;subst h;exact⟨[v],rfl, .cons (.refl _) .nil⟩
 | pt=>simp[HH]at h
 | c1=>simp[HH]at h
 | p1=>simp[HH]at h
 | c2=>simp[HH]at h
omit [jA]in
def zfT:∀(ts:List Ty) (vs:List V) (x:fB ts),jJ ts vs=some x→aC vs (wE ts x)
 | [],[],x,h=> .nil
 | [],_ :: _,x,h=>by simp[jJ]at h
 | [t],vs,x,h=>by
  simp only[jJ]at h;obtain⟨y,h1,h2⟩:=Option.bind_eq_some_iff.1 h;obtain⟨us,h3,h4⟩:=zjm t vs y h1;split at h2
  ·rename_i h5;cases h2;rw[h5,List.append_nil]at h3;subst h3;exact h4
  ·cases h2
 | t :: d :: r,vs,x,h=>by
  simp only[jJ]at h;obtain⟨y,h1,h2⟩:=Option.bind_eq_some_iff.1 h;obtain⟨z,h3,h4⟩:=Option.bind_eq_some_iff.1 h2;cases h4;obtain⟨us,h5,h6⟩:=zjm t vs y h1;rw[h5];exact h6.app (zfT (d :: r) _ z h3)
section
variable {C:Cx} {w0:World} {outer own D:Nat→Prop} {R:Type} {st st1 st2:St} {ρ ρ1 ρ2:Nat→Option RI} {a a1 a2:Act} {w w1 w2:World} {j:JI}
omit [jA]in
def zkO(an:An):∀c:Code,sI an (λ_=>True) c:=by
 have jd:∀o,JD (λ_=>True) o:=λo=>by cases o<;>simp[JD]
 intro c;induction c with
 | region id ops d=>exact⟨λ_ _ _ _=>trivial,jd _⟩
 | seq x y hx hy=>exact⟨hx,hy⟩
 | cond c x y hx hy=>cases c<;>first | exact⟨hx,hy,jd _⟩ | exact⟨hx,hy⟩
 | block id x hx=>exact⟨hx,jd _⟩
 | loop x hx=>
  refine⟨hx,?_⟩;split
  ·exact jd _
  ·trivial
 | scope x hx=>exact hx
 | _=>trivial
omit [jA]in
def zb9(ow:List Nat)(B:Nat)(e:V)(es:List V)(p q:Nat)(h:q≠p):bB ow B (λ_=>none) p (e :: es) (B+q)=bB ow B (λ_=>none) (p+1) es (B+q):=by
 cases e<;>simp only[bB]
 cases hb:ow.any (Nat.beq p)
 ·rfl
 ·simp only[cond_true];rw[CA _ _ _ _ (by omega)]
omit [jA]in
def zgj(ow:List Nat)(B:Nat):∀(cs es:List V) (p q:Nat) (row:vA),aC cs es→bB ow B (λ_=>none) p es (B+q)=some row→
  bB ow B (λ_=>none) p cs (B+q)=some row∨(bB ow B (λ_=>none) p cs (B+q)=none∧∃t,row=⟨.arr t [], .own⟩)
 | [],_,p,q,row,hs,h=>by cases hs;simp[bB]at h
 | c :: cs,_,p,q,row,hs,h=>by
  cases hs with
  | cons JY FX=>
  rename_i e es
  by_cases hq:q=p
  ·subst hq;cases JY with
   | refl=>
    have hn:∀l:List V,bB ow B (λ_=>none) (q+1) l (B+q)=none:=λl=>dE _ _ _ _ _ (by omega);left;cases c<;>simp only[bB]at h⊢ <;>try (rw[hn]at h;cases h)
    cases hb:ow.any (Nat.beq q)
    ·simp only[hb,cond_false]at h;rw[hn]at h;cases h
    ·simp only[hb,cond_true,QA]at h⊢;exact h
   | byte n=>simp only[bB]at h;rw[dE _ _ _ _ _ (by omega)]at h;cases h
   | nil t=>
    right;simp only[bB]at h⊢;refine⟨dE _ _ _ _ _ (by omega),?_⟩;cases hb:ow.any (Nat.beq q)
    ·simp only[hb,cond_false]at h;rw[dE _ _ _ _ _ (by omega)]at h;cases h
    ·simp only[hb,cond_true,QA]at h;cases h;exact⟨t,rfl⟩
  ·rw[zb9 _ _ _ _ _ _ hq]at h⊢;exact zgj ow B cs es (p+1) q row FX h
def zgb(ow:List Nat)(B:Nat){bad bad2:Nat→Prop}{ρ2:Nat→Option RI}(hk:∀u d,VR w ρ bad u d→VR w ρ2 bad2 u d):∀(cs es:List V) (p:Nat) (u:Nat→Value),aC cs es→
  (∀q t,p≤q→bB ow B (λ_=>none) p cs (B+q)=none→bB ow B (λ_=>none) p es (B+q)=some ⟨.arr t [], .own⟩→ρ2 (B+q)=some ⟨0,0,0,true⟩)→
  (∀j (hj:j<(RA ow B p cs).length),VR w ρ bad (u j) (RA ow B p cs)[j])→∀j (hj:j<(RA ow B p es).length),VR w ρ2 bad2 (u j) (RA ow B p es)[j]
 | [],_,p,u,hs,hn,hv,j,hj=>by cases hs;simp[RA]at hj
 | c :: cs,_,p,u,hs,hn,hv,j,hj=>by
  cases hs with
  | cons JY FX=>
  rename_i e es;have hd:∀(c:V) (cs:List V),∃c',RA ow B p (c :: cs)=c' :: RA ow B (p+1) cs:=λc cs=>by cases c<;>exact⟨_,rfl⟩
  obtain⟨c',IZ⟩:=hd c cs;obtain⟨e',zX⟩:=hd e es
  have A3:∀j (hj:j<(c' :: RA ow B (p+1) cs).length),VR w ρ bad (u j) (c' :: RA ow B (p+1) cs)[j]:=λj hj=>by
   have:=hv j (by rw[IZ];exact hj);simpa only[IZ]using this
  have ih:=zgb ow B hk cs es (p+1) (λj=>u (j+1)) FX (λq t h1 h2 h3=>hn q t (by omega) (by rw[zb9 _ _ _ _ _ _ (by omega)];exact h2) (by rw[zb9 _ _ _ _ _ _ (by omega)];exact h3))
   (λj hj=>by have:=A3 (j+1) (by simp;omega);simpa using this)
  have yX:=A3 0 (by simp);simp only[List.getElem_cons_zero]at yX
  have goal0:VR w ρ2 bad2 (u 0) e':=by
   cases JY with
   | refl=>
    have:e'=c':=by
     have h1:=congrArg List.head? IZ;have h2:=congrArg List.head? zX;cases c<;>simp[RA]at h1 h2<;>rw[←h1, ←h2]
    rw[this];exact hk _ _ yX
   | byte n=>
    have h1:=congrArg List.head? IZ;have h2:=congrArg List.head? zX;simp only[RA,List.head?_cons,Option.some.injEq]at h1 h2;subst h1;subst h2;exact hk _ _ (VR.sub (.byte n) yX)
   | nil t=>
    have h1:=congrArg List.head? IZ;have h2:=congrArg List.head? zX;simp only[RA,List.head?_cons,Option.some.injEq]at h1 h2;subst h1;have E0:u 0= .slice none 0 0:=by generalize u 0=x at yX;cases yX;rfl
    cases hb:ow.any (Nat.beq p)
    ·simp only[hb,cond_false]at h2;subst h2;rw[E0];exact .slE _ _ _ (Nat.zero_le _)
    ·simp only[hb,cond_true]at h2;subst h2;rw[E0];refine .owN _ ⟨0,0,0,true⟩ none (hn p t (Nat.le_refl _) ?_ ?_) rfl rfl
     ·simp only[bB];exact dE _ _ _ _ _ (by omega)
     ·simp only[bB,hb,cond_true,QA]
  cases j with
  | zero=>simp only[zX,List.getElem_cons_zero];exact goal0
  | succ j=>simp only[zX,List.getElem_cons_succ];exact ih j (by rw[zX]at hj;simpa using hj)
omit [jA]in
def zj9{t:Ty}{ats:List Ty}{as:List V}{x:fB (t :: ats)}(hd:yD (t :: ats) as=some x):
  ∃v vs y,as=v :: vs∧∃(x0:t.T),oE t v=some x0∧yD ats vs=some y∧iB (t :: ats) x=YC t x0 :: iB ats y:=by
 cases ats with
 | nil=>
  cases as with
  | nil=>simp[yD]at hd
  | cons v vs=>
   cases vs with
   | nil=>exact⟨v,[],(),rfl,x,by simpa[yD]using hd,rfl,rfl⟩
   | cons=>simp[yD]at hd
 | cons d r=>
  cases as with
  | nil=>simp[yD]at hd
  | cons v vs=>
   simp only[yD]at hd;obtain⟨x0,h1,h2⟩:=Option.bind_eq_some_iff.1 hd;obtain⟨y,h3,h4⟩:=Option.bind_eq_some_iff.1 h2;cases h4;exact⟨v,vs,y,rfl,x0,h1,h3,rfl⟩
omit [jA]in
def KG:∀(ks:List sB) (k:Nat) (as:List V) (q:Nat) (row:vA),EA ks k as q=some row→128 *k≤q
  | [],k,as,q,row,h=>by cases as<;>simp[EA]at h
  | .plain :: ks,k,[],q,row,h=>by simp[EA]at h
  | .plain :: ks,k,a :: as,q,row,h=>by
   have:=KG ks (k+1) as q row (by simpa only[EA]using h);omega
  | .mv ow :: ks,k,[],q,row,h=>by simp[EA]at h
  | .mv ow :: ks,k,a :: as,q,row,h=>by
   cases a<;>simp only[EA]at h<;>try (cases h;done)
   rw[xC]at h;split at h
   ·rename_i x hx;obtain⟨_,_,_,h1,_⟩:=ME _ _ _ _ _ _ hx;omega
   ·have:=KG ks (k+1) as q row h;omega
  | .ptr ow :: ks,k,[],q,row,h=>by simp[EA]at h
  | .ptr ow :: ks,k,a :: as,q,row,h=>by
   cases a<;>simp only[EA]at h<;>try (cases h;done)
   by_cases hq:q=128 *k+127
   ·omega
   ·rw[CA _ _ _ _ hq,xC]at h;split at h
    ·rename_i x hx;obtain⟨_,_,_,h1,_⟩:=ME _ _ _ _ _ _ hx;omega
    ·have:=KG ks (k+1) as q row h;omega
def zlI{bad bad2:Nat→Prop}{ρ2:Nat→Option RI}(SX:∀u d,VR w ρ bad u d→VR w ρ2 bad2 u d):∀(ks:List sB) (ats:List Ty) (as:List V) (x:fB ats) (k:Nat) (u:Nat→Value),DC ks ats=true→yD ats as=some x→
  (∀q t,EA ks k as q=none→EA ks k (iB ats x) q=some ⟨.arr t [], .own⟩→ρ2 q=some ⟨0,0,0,true⟩)→
  (∀j (hj:j<(VB ks k as).length),VR w ρ bad (u j) (VB ks k as)[j])→
  (VB ks k (iB ats x)).length=(VB ks k as).length∧∀j (hj:j<(VB ks k (iB ats x)).length),VR w ρ2 bad2 (u j) (VB ks k (iB ats x))[j]:=by
 intro ks;induction ks with
 | nil=>
  intro ats as x k u hk hd hn hv;cases ats with
  | nil=>cases as with
   | nil=>exact⟨rfl,λj hj=>by simp[VB]at hj⟩
   | cons=>simp[yD]at hd
  | cons=>simp[DC]at hk
 | cons q ks ih=>
  intro ats as x k u hk hd hn hv;cases ats with
  | nil=>cases q<;>simp[DC]at hk
  | cons t ats=>
   obtain⟨v,vs,y,rfl,x0,h1,h3,h4⟩:=zj9 hd;rw[h4]at hn⊢;cases q with
   | plain=>
    simp only[DC]at hk;obtain⟨e1,e2⟩:=ih ats vs y (k+1) (λj=>u (j+1)) hk h3 (λq t a b=>hn q t a b) (λj hj=>hv (j+1) (by simp[VB];omega));refine⟨by simp[VB,e1],λj hj=>?_⟩;cases j with
    | zero=>exact SX _ _ (zlt t v x0 h1 (hv 0 (by simp[VB])))
    | succ j=>exact e2 j (by simpa[VB]using hj)
   | ptr ow=>
    cases t with
    | cells t=>
     simp only[DC,Bool.and_eq_true]at hk;have YV:=Nat.le_of_ble_eq_true hk.1;simp only[oE]at h1;split at h1
     case h_2=>cases h1
     rename_i cs;have wW:(enc t x0).length=sz t:=qD t x0;have G3:cs.length=sz t:=by rw[(MF t h1).len,wW]
     obtain⟨e1,e2⟩:=ih ats vs y (k+1) (λj=>u (j+1)) hk.2 h3 (λq t' a b=>by
      have vY:=KG ks (k+1) _ q _ b;refine hn q t' ?_ ?_
      ·simp only[EA];rw[CA _ _ _ _ (by omega),xC,dE _ _ _ _ _ (by omega)];exact a
      ·simp only[EA,YC];rw[CA _ _ _ _ (by omega),xC,dE _ _ _ _ _ (by omega)];exact b) (λj hj=>hv (j+1) (by simp[VB];omega))
     refine⟨by simp[VB,e1],λj hj=>?_⟩;cases j with
     | zero=>exact SX _ _ (hv 0 (by simp[VB]))
     | succ j=>exact e2 j (by simpa[VB]using hj)
    | _=>simp[DC]at hk
   | mv ow=>
    cases t with
    | v t=>
     simp only[DC,Bool.and_eq_true]at hk;obtain⟨⟨AW,YV⟩,hk⟩:=hk;have YV:=Nat.le_of_ble_eq_true YV;simp only[oE]at h1;split at h1
     case h_2=>simp[AW]at h1
     rename_i cs;simp only[AW,cond_true]at h1;have BW:=MF t h1;have wW:(enc t x0).length=sz t:=qD t x0;have G3:cs.length=sz t:=by rw[BW.len,wW]
     have R6:YC (.v t) x0= .agg (enc t x0):=by simp only[YC,uK,AW,cond_true]
     rw[R6]at hn⊢
     obtain⟨e1,e2⟩:=ih ats vs y (k+1) (λj=>u (j+1)) hk h3 (λq t' a b=>by
      have vY:=KG ks (k+1) _ q _ b;refine hn q t' ?_ ?_
      ·simp only[EA];rw[xC,dE _ _ _ _ _ (by omega)];exact a
      ·simp only[EA];rw[xC,dE _ _ _ _ _ (by omega)];exact b) (λj hj=>hv (j+1) (by simp[VB];omega))
     refine⟨by simp[VB,e1],λj hj=>?_⟩;cases j with
     | zero=>
      have yX:=hv 0 (by simp[VB]);simp only[VB,List.getElem_cons_zero]at yX⊢;generalize u 0=u0 at yX;cases yX with
      | agg _ vsA hs GX=>
      rw[FF]at hs;refine .agg _ vsA (by rw[FF,hs,wW,G3]) ?_;refine zgb ow (128 *k) SX cs (enc t x0) 0 (λj=>vsA.getD j undef) BW (λp t' _ h5 h6=>?_) GX;obtain⟨_,_,_,e3,e4⟩:=ME _ _ _ _ _ _ h6;refine hn _ t' ?_ ?_
      ·simp only[EA];rw[xC,h5];show EA ks (k+1) vs (128 *k+p)=none
       cases hr:EA ks (k+1) vs (128 *k+p)with
       | none=>rfl
       | some z=>have:=KG ks (k+1) vs _ z hr;omega
      ·simp only[EA];rw[xC,h6]
     | succ j=>exact e2 j (by simpa[VB]using hj)
    | _=>simp[DC]at hk
omit [jA]in
def zvH:∀(ks:List sB) (ats:List Ty) (as:List V) (x:fB ats) (k:Nat),DC ks ats=true→yD ats as=some x→
  (∀q row,EA ks k as q=some row→q<128 *(k+ks.length))∧
  ∀q row',EA ks k (iB ats x) q=some row'→q<128 *(k+ks.length)∧(EA ks k as q=some row'∨(EA ks k as q=none∧∃t,row'=⟨.arr t [], .own⟩)∨
   ∃ow B cs es,EA ks k as q=some ⟨.box (RA ow B 0 cs), .own⟩∧row'=⟨.box (RA ow B 0 es), .own⟩∧aC cs es∧
    ∀p t,bB ow B (λ_=>none) 0 cs (B+p)=none→bB ow B (λ_=>none) 0 es (B+p)=some ⟨.arr t [], .own⟩→EA ks k as (B+p)=none∧EA ks k (iB ats x) (B+p)=some ⟨.arr t [], .own⟩):=by
 intro ks;induction ks with
 | nil=>
  intro ats as x k hk hd;refine⟨λq row h=>by cases as<;>simp[EA]at h,λq row' h=>?_⟩;cases ats with
  | nil=>simp[EA]at h
  | cons=>simp[DC]at hk
 | cons g ks ih=>
  intro ats as x k hk hd;cases ats with
  | nil=>cases g<;>simp[DC]at hk
  | cons t ats=>
   obtain⟨v,vs,y,rfl,x0,h1,h3,h4⟩:=zj9 hd;rw[h4];cases g with
   | plain=>
    simp only[DC]at hk;obtain⟨i1,i2⟩:=ih ats vs y (k+1) hk h3;refine⟨λq row h=>?_,λq row' h=>?_⟩
    ·simp only[EA]at h;have:=i1 q row h;simp only[List.length_cons];omega
    ·simp only[EA]at h⊢;obtain⟨j1,j2⟩:=i2 q row' h;exact⟨by simp only[List.length_cons];omega,j2⟩
   | ptr ow=>
    cases t with
    | cells t=>
     simp only[DC,Bool.and_eq_true]at hk;obtain⟨YV,hk⟩:=hk;have YV:=Nat.le_of_ble_eq_true YV;simp only[oE]at h1;split at h1
     case h_2=>cases h1
     rename_i cs;obtain⟨i1,i2⟩:=ih ats vs y (k+1) hk h3;have BW:=MF t h1;have wW:(enc t x0).length=sz t:=qD t x0;have G3:cs.length=sz t:=by rw[BW.len,wW]
     refine⟨λq row h=>?_,λq row' h=>?_⟩
     ·simp only[List.length_cons];simp only[EA]at h
      by_cases hq:q=128 *k+127
      ·omega
      ·rw[CA _ _ _ _ hq,xC]at h;split at h
       ·rename_i z hz;obtain⟨_,_,_,e1,e2⟩:=ME _ _ _ _ _ _ hz;omega
       ·have:=i1 q row h;omega
     ·simp only[List.length_cons];simp only[YC,EA]at h
      by_cases hq:q=128 *k+127
      ·subst hq;rw[QA]at h;cases h;refine⟨by omega, .inr (.inr ⟨ow,128 *k,cs,enc t x0,by simp only[EA];exact QA _ _ _,rfl,BW,λp t' e1 e2=>?_⟩)⟩;obtain⟨_,_,_,e3,e4⟩:=ME _ _ _ _ _ _ e2;have OY:128 *k+p≠128 *k+127:=by omega
       simp only[EA,YC];rw[CA _ _ _ _ OY,CA _ _ _ _ OY,xC,xC ow (128 *k) (EA ks (k+1) (iB ats y)),e1,e2];refine⟨?_,rfl⟩;cases hr:EA ks (k+1) vs (128 *k+p)with
       | none=>rfl
       | some z=>have:=KG ks (k+1) vs _ z hr;omega
      ·rw[CA _ _ _ _ hq,xC]at h;split at h
       ·rename_i z hz;cases h;obtain⟨_,_,_,e1,e2⟩:=ME _ _ _ _ _ _ hz;refine⟨by omega,?_⟩;have gZ:=hz;rw[show q=128 *k+(q - 128 *k) by omega]at gZ
        rcases zgj ow (128 *k) cs (enc t x0) 0 _ _ BW gZ with h5 | ⟨h5,h6⟩<;>rw[show 128 *k+(q - 128 *k)=q by omega]at h5
        ·left;simp only[EA];rw[CA _ _ _ _ hq,xC,h5]
        ·right;left;refine⟨?_,h6⟩;simp only[EA];rw[CA _ _ _ _ hq,xC,h5];show EA ks (k+1) vs q=none
         cases hr:EA ks (k+1) vs q with
         | none=>rfl
         | some z=>have:=KG ks (k+1) vs _ z hr;omega
       ·rename_i hz;obtain⟨j1,j2⟩:=i2 q row' h;have vY:=KG ks (k+1) _ q row' h
        have lift:∀q',128 *(k+1)≤q'→EA (.ptr ow :: ks) k (.agg cs :: vs) q'=EA ks (k+1) vs q'∧EA (.ptr ow :: ks) k (.agg (enc t x0) :: iB ats y) q'=EA ks (k+1) (iB ats y) q':=λq' kY=>by
         simp only[EA];rw[CA _ _ _ _ (by omega),CA _ _ _ _ (by omega),xC,xC ow (128 *k) (EA ks (k+1) (iB ats y)),dE _ _ _ _ _ (by omega),dE _ _ _ _ _ (by omega)];exact⟨rfl,rfl⟩
        obtain⟨l1,l2⟩:=lift q (by omega);refine⟨by omega,?_⟩;rw[l1]
        rcases j2 with j2 | j2 | ⟨ow',B,cs',es',j2,j3,j4,j5⟩
        ·exact .inl j2
        ·exact .inr (.inl j2)
        ·refine .inr (.inr ⟨ow',B,cs',es',j2,j3,j4,λp t' e1 e2=>?_⟩);obtain⟨j6,j7⟩:=j5 p t' e1 e2;have:=KG ks (k+1) _ _ _ j7;obtain⟨l3,l4⟩:=lift (B+p) (by omega);show EA (.ptr ow :: ks) k (.agg cs :: vs) (B+p)=none∧EA (.ptr ow :: ks) k (.agg (enc t x0) :: iB ats y) (B+p)=_
         rw[l3,l4];exact⟨j6,j7⟩
    | _=>simp[DC]at hk
   | mv ow=>
    cases t with
    | v t=>
     simp only[DC,Bool.and_eq_true]at hk;obtain⟨⟨AW,YV⟩,hk⟩:=hk;have YV:=Nat.le_of_ble_eq_true YV;simp only[oE]at h1;split at h1
     case h_2=>simp[AW]at h1
     rename_i cs;simp only[AW,cond_true]at h1;obtain⟨i1,i2⟩:=ih ats vs y (k+1) hk h3;have BW:=MF t h1;have wW:(enc t x0).length=sz t:=qD t x0;have G3:cs.length=sz t:=by rw[BW.len,wW]
     have R6:YC (.v t) x0= .agg (enc t x0):=by simp only[YC,uK,AW,cond_true]
     rw[R6];refine⟨λq row h=>?_,λq row' h=>?_⟩
     ·simp only[List.length_cons];simp only[EA]at h;rw[xC]at h;split at h
      ·rename_i z hz;obtain⟨_,_,_,e1,e2⟩:=ME _ _ _ _ _ _ hz;omega
      ·have:=i1 q row h;omega
     ·simp only[List.length_cons];simp only[EA]at h;rw[xC]at h;split at h
      ·rename_i z hz;cases h;obtain⟨_,_,_,e1,e2⟩:=ME _ _ _ _ _ _ hz;refine⟨by omega,?_⟩;have gZ:=hz;rw[show q=128 *k+(q - 128 *k) by omega]at gZ
       rcases zgj ow (128 *k) cs (enc t x0) 0 _ _ BW gZ with h5 | ⟨h5,h6⟩<;>rw[show 128 *k+(q - 128 *k)=q by omega]at h5
       ·left;simp only[EA];rw[xC,h5]
       ·right;left;refine⟨?_,h6⟩;simp only[EA];rw[xC,h5];show EA ks (k+1) vs q=none
        cases hr:EA ks (k+1) vs q with
        | none=>rfl
        | some z=>have:=KG ks (k+1) vs _ z hr;omega
      ·rename_i hz;obtain⟨j1,j2⟩:=i2 q row' h;have vY:=KG ks (k+1) _ q row' h
       have lift:∀q',128 *(k+1)≤q'→EA (.mv ow :: ks) k (.agg cs :: vs) q'=EA ks (k+1) vs q'∧EA (.mv ow :: ks) k (.agg (enc t x0) :: iB ats y) q'=EA ks (k+1) (iB ats y) q':=λq' kY=>by
        simp only[EA];rw[xC,xC ow (128 *k) (EA ks (k+1) (iB ats y)),dE _ _ _ _ _ (by omega),dE _ _ _ _ _ (by omega)];exact⟨rfl,rfl⟩
       obtain⟨l1,l2⟩:=lift q (by omega);refine⟨by omega,?_⟩;rw[l1]
       rcases j2 with j2 | j2 | ⟨ow',B,cs',es',j2,j3,j4,j5⟩
       ·exact .inl j2
       ·exact .inr (.inl j2)
       ·refine .inr (.inr ⟨ow',B,cs',es',j2,j3,j4,λp t' e1 e2=>?_⟩);obtain⟨j6,j7⟩:=j5 p t' e1 e2;have:=KG ks (k+1) _ _ _ j7;obtain⟨l3,l4⟩:=lift (B+p) (by omega);rw[l3,l4];exact⟨j6,j7⟩
    | _=>simp[DC]at hk
def zln{ks:List sB}{ats:List Ty}{as:List V}{x:fB ats}(uY:DC ks ats=true)(hd:yD ats as=some x)(hh:rB w0 outer own ρ (EA ks 0 as) w)(JW:∀q,EA ks 0 as q=none→ρ q=none):
  ∃ρ2,rB w0 outer own ρ2 (EA ks 0 (iB ats x)) w∧(∀u d,VR w ρ (uA outer ρ (EA ks 0 as)) u d→VR w ρ2 (uA outer ρ2 (EA ks 0 (iB ats x))) u d)∧
   (∀q ri,ρ q=some ri→ρ2 q=some ri)∧(∀q,128 *ks.length≤q→ρ2 q=none)∧∀q row,EA ks 0 as q=none→EA ks 0 (iB ats x) q=some row→ρ2 q=some ⟨0,0,0,true⟩:=by
 have hEE:∀q row,EA ks 0 as q=none→EA ks 0 (iB ats x) q=some row→ρ q=none:=λq _ h _=>JW q h;obtain⟨r1,r2⟩:=zvH ks ats as x 0 uY hd;generalize hE:EA ks 0 as=h at *;generalize hE2:EA ks 0 (iB ats x)=h2 at *
 let ρ2:Nat→Option RI:=λq=>match ρ q with
  | some ri=>some ri
  | none=>if(h2 q).isSome=true then some ⟨0,0,0,true⟩else none
 have e1:∀q ri,ρ q=some ri→ρ2 q=some ri:=λq ri hq=>by simp only[ρ2,hq]
 have e2:∀q row,ρ q=none→h2 q=some row→ρ2 q=some ⟨0,0,0,true⟩:=λq row hq hr=>by simp only[ρ2,hq,hr];rfl
 have e3:∀q,ρ q=none→h2 q=none→ρ2 q=none:=λq hq hr=>by simp only[ρ2,hq,hr];rfl
 have mW:∀b,uA outer ρ2 h2 b→uA outer ρ h b:=by
  rintro b (hb | ⟨q,row,ri,f1,f2,f3,f4,f5⟩)
  ·exact .inl hb
  ·rcases(r2 q row f1).2 with g | ⟨g,_⟩ | ⟨ow,B,cs,es,g,_⟩
   ·obtain⟨ri',k1,_⟩:=hh.rows q _ g;rw[e1 _ _ k1]at f3;cases f3;exact .inr ⟨q,row,_,g,f2,k1,f4,f5⟩
   ·rw[e2 q row (JW q g) f1]at f3;cases f3;cases f4
   ·obtain⟨ri',k1,_⟩:=hh.rows q _ g;rw[e1 _ _ k1]at f3;cases f3;exact .inr ⟨q,_,_,g,rfl,k1,f4,f5⟩
 have hk:∀u d,VR w ρ (uA outer ρ h) u d→VR w ρ2 (uA outer ρ2 h2) u d:=λu d hu=>hu.mono e1 (λ_ _ _=>rfl) λb hb=> .inl (mW b hb)
 have UZ:∀q row' ri,h2 q=some row'→ρ2 q=some ri→ri.nl=false→∃row,h q=some row∧ρ q=some ri:=λq row' ri f1 f3 f4=>by
  rcases(r2 q row' f1).2 with g | ⟨g,_⟩ | ⟨ow,B,cs,es,g,_⟩
  ·obtain⟨ri',k1,_⟩:=hh.rows q _ g;rw[e1 _ _ k1]at f3;cases f3;exact⟨_,g,k1⟩
  ·rw[e2 q row' (JW q g) f1]at f3;cases f3;cases f4
  ·obtain⟨ri',k1,_⟩:=hh.rows q _ g;rw[e1 _ _ k1]at f3;cases f3;exact⟨_,g,k1⟩
 refine⟨ρ2,⟨hh.wx,hh.old,hh.outLt,λr row' hr=>?_,λq q' row row' qi qi' h1 h2 h3 h4 h5 h6 h7=>?_⟩,hk,e1,λq hq=>?_,λq row h1 h2=>e2 q row (JW q h1) h2⟩
 ·rcases(r2 r row' hr).2 with g | ⟨g,t,rfl⟩ | ⟨ow,B,cs,es,g,rfl,g2,g3⟩
  ·obtain⟨ri,k1,k2,k3⟩:=hh.rows r _ g;exact⟨ri,e1 _ _ k1,k2.keep (λ_=>rfl) hk,k3⟩
  ·exact⟨⟨0,0,0,true⟩,e2 r _ (JW r g) hr,⟨rfl, .inl ⟨rfl,rfl⟩⟩,λhn=>by cases hn⟩
  ·obtain⟨ri,k1,k2,k3⟩:=hh.rows r _ g;refine⟨ri,e1 _ _ k1,⟨k2.1,λj hj=>?_⟩,k3⟩;have hl:(RA ow B 0 es).length=(RA ow B 0 cs).length:=by rw[FF,FF,g2.len]
   obtain⟨f1,u,f2,f3⟩:=k2.2 j (by rw[←hl];exact hj);refine⟨f1,u,f2,?_⟩
   have:=zgb (w:=w) (ρ:=ρ) ow B hk cs es 0 (λj=>(w.cell? (at_ ri.b j)).getD undef) g2 (λq t _ h5 h6=>by
    obtain⟨g4,g5⟩:=g3 q t h5 h6;exact e2 _ _ (JW _ g4) g5) (λj hj=>by
    obtain⟨_,u,f2,f3⟩:=k2.2 j hj;rw[f2];exact f3) j hj
   rw[f2]at this;exact this
 ·obtain⟨_,g1,g2⟩:=UZ _ _ _ h1 h3 h5;obtain⟨_,g3,g4⟩:=UZ _ _ _ h2 h4 h6;exact hh.inj q q' _ _ qi qi' g1 g3 g2 g4 h5 h6 h7
 ·refine e3 q (JW q ?_) ?_
  ·cases O2:h q with
   | none=>rfl
   | some row=>have:=r1 q row O2;omega
  ·cases O2:h2 q with
   | none=>rfl
   | some row=>have:=(r2 q row O2).1;omega
end
end Go.D
namespace Go.D
variable [jA]
section
variable {C:Cx} {w0:World} {outer own D:Nat→Prop} {R:Type} {st st1 st2:St} {ρ ρ1 ρ2:Nat→Option RI} {a a1 a2:Act} {w w1 w2:World} {j:JI}
omit [jA]in
def zcE{α:Type}(l m:List α)(i:Nat)(d:α)(h:i<l.length):(l++m).getD i d=l.getD i d:=by
 rw[List.getD_eq_getElem?_getD,List.getD_eq_getElem?_getD,List.getElem?_append_left h]
omit [jA]in
def zcH{α:Type}(l m:List α)(i:Nat)(d:α)(h:l.length≤i):(l++m).getD i d=m.getD (i - l.length) d:=by
 rw[List.getD_eq_getElem?_getD,List.getD_eq_getElem?_getD,List.getElem?_append_right h]
inductive tJ:List (Bool×Nat)→List Value→List Value→Prop
 | nil:tJ [] [] []
 | agg {n:Nat} {sh:List (Bool×Nat)} {rv cells:List Value} (vs:Array Value) (h:vs.size=n) (hr:tJ sh rv cells):tJ ((true,n) :: sh) (.agg vs :: rv) (vs.toList++cells)
 | one {sh:List (Bool×Nat)} {rv cells:List Value} (v:Value) (hr:tJ sh rv cells):tJ ((false,1) :: sh) (v :: rv) (v :: cells)
omit [jA]in
def tJ.len{sh:List (Bool×Nat)}{rv cells:List Value}(h:tJ sh rv cells):eL sh=cells.length∧rv.length=sh.length:=by
 induction h with
 | nil=>exact⟨rfl,rfl⟩
 | agg vs h hr ih=>simp only[eL,List.map_cons,List.sum_cons,List.length_append,Array.length_toList,List.length_cons]at ih⊢;omega
 | one v hr ih=>simp only[eL,List.map_cons,List.sum_cons,List.length_cons]at ih⊢;omega
def zuu{bad:Nat→Prop}{sh:List (Bool×Nat)}{rv cells:List Value}(h:tJ sh rv cells):∀X:List V,cells.length≤X.length→(∀j (hj:j<X.length),j<cells.length→VR w ρ bad (cells.getD j undef) X[j])→
  (VE sh X).length=rv.length∧∀i (hi:i<(VE sh X).length),VR w ρ bad (rv.getD i undef) (VE sh X)[i]:=by
 induction h with
 | nil=>intro X _ _;exact⟨rfl,λi hi=>by simp[VE]at hi⟩
 | agg vs YV hr ih=>
  rename_i n sh rv cells;intro X hX hv;simp only[List.length_append,Array.length_toList]at hX
  obtain⟨h1,h2⟩:=ih (X.drop n) (by simp;omega) (λj hj VW=>by
   have:=hv (n+j) (by simp at hj;omega) (by simp;omega);rw[List.getElem_drop];rw[zcH _ _ _ _ (by simp;omega)]at this;simpa[YV]using this)
  refine⟨by simp[VE,h1],λi hi=>?_⟩;cases i with
  | zero=>
   show VR w ρ bad (.agg vs) (.agg (X.take n))
   refine .agg _ _ (by simp;omega) λj hj=>?_;have H9:j<n:=by simp at hj;omega
   have:=hv j (by simp at hj;omega) (by simp;omega);rw[zcE _ _ _ _ (by simp;omega)]at this;rw[List.getElem_take];rw[Array.getD_eq_getD_getElem?];rw[List.getD_eq_getElem?_getD]at this;simpa using this
  | succ i=>exact h2 i (by simpa[VE]using hi)
 | one v hr ih=>
  rename_i sh rv cells;intro X hX hv;cases X with
  | nil=>simp at hX
  | cons x X=>
   simp only[List.length_cons]at hX;obtain⟨h1,h2⟩:=ih X (by omega) (λj hj VW=>hv (j+1) (by simp;omega) (by simp;omega));refine⟨by simp[VE,h1],λi hi=>?_⟩;cases i with
   | zero=>exact hv 0 (by simp) (by simp)
   | succ i=>exact h2 i (by simpa[VE]using hi)
omit [jA]in
def zuH{sh:List (Bool×Nat)}{X:List V}{v:V}(h:VE sh X=[v]):yI sh X=v:=by simp[yI,h]
omit [jA]in
def zue{sh:List (Bool×Nat)}{X:List V}(h:∀v,VE sh X≠[v]):yI sh X= .tup (VE sh X):=by
 unfold yI;split
 ·rename_i v hv;exact absurd hv (h v)
 ·rfl
def zvX{bad:Nat→Prop}{sh:List (Bool×Nat)}{rv cells:List Value}(h:tJ sh rv cells){X:List V}(hX:cells.length≤X.length)(hv:∀j (hj:j<X.length),j<cells.length→VR w ρ bad (cells.getD j undef) X[j]):
  VR w ρ bad (if h:rv.toArray.size=1 then rv.toArray[0]else .tuple rv.toArray) (yI sh X):=by
 obtain⟨h1,h2⟩:=zuu h X hX hv
 by_cases hY:∃v,VE sh X=[v]
 ·obtain⟨v,hY⟩:=hY;rw[zuH hY];rw[hY]at h1;have hl:rv.toArray.size=1:=by simpa using h1.symm
  rw[dif_pos hl];have h3:=h2 0 (by rw[hY];simp);simp only[hY,List.getElem_cons_zero]at h3;rw[List.getD_eq_getElem?_getD,List.getElem?_eq_getElem (by simp at hl;omega)]at h3;simpa using h3
 ·have hl:¬rv.toArray.size=1:=λhl=>by
   have K0:(VE sh X).length=1:=by rw[h1];simpa using hl
   exact hY (List.length_eq_one_iff.1 K0)
  rw[dif_neg hl,zue λv hv=>hY ⟨v,hv⟩];refine .tup _ _ (by simp[h1]) λi hi=>?_;have:=h2 i hi;rw[Array.getD_eq_getD_getElem?];rw[List.getD_eq_getElem?_getD]at this;simpa using this
omit [jA]in
def zgz{α β:Type}{P:Program}{w:World}(f:α→Sem β):∀(l:List α) (r:List β),l.length=r.length→(∀i (hi:i<l.length) (hr:i<r.length),(f l[i]).run P w= .ok r[i] w)→(l.mapM f).run P w= .ok r w
 | [],[],_,_=>by simp
 | [],_ :: _,h,_=>by simp at h
 | _ :: _,[],h,_=>by simp at h
 | x :: l,y :: r,h,hf=>by
  have h0:=hf 0 (by simp) (by simp);simp only[List.getElem_cons_zero]at h0;have h1:=zgz f l r (by simpa using h) (λi hi hr=>hf (i+1) (by simp;omega) (by simp;omega));simp[List.mapM_cons,h0,h1,Result.andThen]
def vL(tmps:Array Value):ResultVar→Sem Value
 | .tmp t=>pure (tmps.getD t undef)
 | .cell x t=>do loadVar t (←asAddr (tmps.getD x undef))
def zd3(hr:ZA C w0 outer own ρ st a w):∀(rs:List ResultVar) (sh:List (Bool×Nat)) (vs:List V),DH C.P st rs sh=some vs→
  ∃rv cells,tJ sh rv cells∧rs.length=rv.length∧cells.length=vs.length∧(∀j (hj:j<vs.length),VR w ρ (uA outer ρ st.h) (cells.getD j undef) vs[j])∧
   ∀i (hi:i<rs.length) (h2:i<rv.length),(vL a.tmps rs[i]).run C.P w= .ok rv[i] w
 | [],[],vs,h=>by
  simp only[DH,Option.some.injEq]at h;subst h;exact⟨[],[], .nil,rfl,rfl,λj hj=>by simp at hj,λi hi=>by simp at hi⟩
 | [],_ :: _,vs,h=>by simp[DH]at h
 | .tmp t :: _,[],vs,h=>by simp[DH]at h
 | .cell .. :: _,[],vs,h=>by simp[DH]at h
 | .tmp t :: rs,(ag,n) :: sh,vs,h=>by
  simp only[DH]at h;have hv:=hr.slots t;split at h
  ·rename_i cs us hs S6;cases hb:(ag&&Nat.beq n cs.length)
   case false=>simp[hb]at h
   simp only[hb,cond_true,Option.some.injEq]at h;subst h;simp only[Bool.and_eq_true]at hb;obtain⟨rfl,hn⟩:=hb;have hn:=Nat.eq_of_beq_eq_true hn;obtain⟨rv,cells,h1,h2,h3,h4,h5⟩:=zd3 hr rs sh us S6;rw[hs]at hv;generalize hA:a.tmps.getD t undef=A at hv;cases hv with
   | agg _ vs YV GX=>
   refine⟨.agg vs :: rv,vs.toList++cells, .agg vs (by omega) h1,by simp[h2],by simp[h3,YV],λj hj=>?_,λi hi hi2=>?_⟩
   ·by_cases iX:j<cs.length
    ·rw[List.getElem_append_left iX,zcE _ _ _ _ (by simp;omega)];have:=GX j iX;rw[Array.getD_eq_getD_getElem?]at this;rw[List.getD_eq_getElem?_getD];simpa using this
    ·have VW:j - cs.length<us.length:=by simp at hj;omega
     rw[List.getElem_append_right (by omega),zcH _ _ _ _ (by simp;omega)];have:=h4 _ VW;simpa[YV]using this
   ·cases i with
    | zero=>simp only[List.getElem_cons_zero,vL,hA];rfl
    | succ i=>exact h5 i (by simpa using hi) (by simpa using hi2)
  ·rename_i us S6 WW;cases hb:(!ag&&Nat.beq n 1&&(st.s t).leaf)
   case false=>simp[hb]at h
   simp only[hb,cond_true,Option.some.injEq]at h;subst h;simp only[Bool.and_eq_true,Bool.not_eq_true']at hb;obtain⟨⟨rfl,hn⟩,hlf⟩:=hb;have hn:=Nat.eq_of_beq_eq_true hn;subst hn;obtain⟨rv,cells,h1,h2,h3,h4,h5⟩:=zd3 hr rs sh us S6;refine⟨a.tmps.getD t undef :: rv,a.tmps.getD t undef :: cells, .one _ h1,by simp[h2],by simp[h3],λj hj=>?_,λi hi hi2=>?_⟩
   ·cases j with
    | zero=>exact hv
    | succ j=>exact h4 j (by simpa using hj)
   ·cases i with
    | zero=>rfl
    | succ i=>exact h5 i (by simpa using hi) (by simpa using hi2)
  ·cases h
 | .cell x t :: rs,(ag,n) :: sh,vs,h=>by
  simp only[DH]at h;have hv:=hr.slots x;split at h
  case h_2=>cases h
  rename_i b us ag' n' hs S6 AW YV;split at h
  case h_2=>cases h
  rename_i cs m HV;cases hb:((ag==ag')&&Nat.beq n n'&&Nat.beq n cs.length&&(ag||Nat.beq n 1))
  case false=>simp[hb]at h
  simp only[hb,cond_true,Option.some.injEq]at h;subst h;simp only[Bool.and_eq_true,beq_iff_eq]at hb;obtain⟨⟨⟨rfl,h1⟩,h2⟩,h3⟩:=hb;have h1:=Nat.eq_of_beq_eq_true h1;have h2:=Nat.eq_of_beq_eq_true h2;subst h1;obtain⟨rv,cells,k1,k2,k3,k4,k5⟩:=zd3 hr rs sh us S6;rw[hs]at hv;obtain⟨ri,hρ,WV,_⟩:=hr.heap.rows _ _ HV;obtain⟨e1,e2⟩:=zgp hρ WV hv
  have MV:pG ag n cs 0 some=some (if ag then .agg cs else cs.getD 0 .undef):=by
   unfold pG;cases ag with
   | true=>
    have:Nat.ble (0+n) cs.length=true:=Nat.ble_eq_true_of_le (by omega);simp only[dD,this,if_true,List.drop_zero];rw[List.take_of_length_le (by omega)]
   | false=>
    simp only[Bool.false_or]at h3;have:=Nat.eq_of_beq_eq_true h3
    match cs,h2 with
    | [c],_=>rfl
    | [],h2=>simp at h2;omega
    | _ :: _ :: _,h2=>simp at h2;omega
  obtain⟨d,v,g1,g2,g3⟩:=zme (K:=some) AW YV e2 MV;have g1:d=if ag then V.agg cs else cs.getD 0 .undef:=Option.some.inj g1
  subst g1
  have GV:(vL a.tmps (.cell x t)).run C.P w= .ok v w:=by
   simp only[vL,e1,asAddr,Sem.run_bind,Sem.run_pure,Result.andThen_ok];exact g3
  cases ag with
  | true=>
   simp only[if_true]at g2;cases g2 with
   | agg _ vs T6 GX=>
   refine⟨.agg vs :: rv,vs.toList++cells, .agg vs (by omega) k1,by simp[k2],by simp[k3,T6],λj hj=>?_,λi hi hi2=>?_⟩
   ·by_cases iX:j<cs.length
    ·rw[List.getElem_append_left iX,zcE _ _ _ _ (by simp;omega)];have:=GX j iX;rw[Array.getD_eq_getD_getElem?]at this;rw[List.getD_eq_getElem?_getD];simpa using this
    ·have VW:j - cs.length<us.length:=by simp at hj;omega
     rw[List.getElem_append_right (by omega),zcH _ _ _ _ (by simp;omega)];have:=k4 _ VW;simpa[T6]using this
   ·cases i with
    | zero=>exact GV
    | succ i=>exact k5 i (by simpa using hi) (by simpa using hi2)
  | false=>
   simp only[Bool.false_or]at h3;have h3:=Nat.eq_of_beq_eq_true h3;subst h3
   match cs,h2 with
   | [c],_=>
    simp only[Bool.false_eq_true,if_false]at g2;refine⟨v :: rv,v :: cells, .one v k1,by simp[k2],by simp[k3],λj hj=>?_,λi hi hi2=>?_⟩
    ·cases j with
     | zero=>exact g2
     | succ j=>exact k4 j (by simpa using hj)
    ·cases i with
     | zero=>exact GV
     | succ i=>exact k5 i (by simpa using hi) (by simpa using hi2)
   | [],h2=>simp at h2
   | _ :: _ :: _,h2=>simp at h2
def zs1(hr:ZA C w0 outer own ρ st a w){fn:Func}{sh:List (Bool×Nat)}{vs:List V}(h:DH C.P st fn.results.toList sh=some vs):
  ∃rv cells,tJ sh rv cells∧cells.length=vs.length∧(∀j (hj:j<vs.length),VR w ρ (uA outer ρ st.h) (cells.getD j undef) vs[j])∧
   (results fn a.tmps).run C.P w= .ok (if h:rv.toArray.size=1 then rv.toArray[0]else .tuple rv.toArray) w:=by
 obtain⟨rv,cells,h1,h2,h3,h4,h5⟩:=zd3 hr _ _ _ h;refine⟨rv,cells,h1,h3,h4,?_⟩;have:=zgz (P:=C.P) (w:=w) (vL a.tmps) fn.results.toList rv h2 h5;show((do let vs ←fn.results.mapM (vL a.tmps);pure (if h:vs.size=1 then vs[0]else .tuple vs)):Sem Value).run C.P w=_
 rw[Array.mapM_eq_mapM_toList];simp only[Sem.run_bind,Sem.run_map,this,Result.andThen_ok,Sem.run_pure]
end
end Go.D
namespace Go.D
variable [jA]
inductive Bd:V→Prop where
 | undef:Bd .undef
 | bool (b:Bool):Bd (.bool b)
 | int (k:IntKind) (n:Int) (h:zE k n):Bd (.int k n)
 | str (s:List UInt8) (h:s.length≤maxLen):Bd (.str s)
 | nil:Bd .nil
 | sl (t:TN) (l:List (El t)) (h:l.length≤maxLen) (hv:∀i (h:i<l.length) j,j<sz t→Bd ((enc t l[i]).getD j .undef)):Bd (.sl t l)
 | ow (r:Nat):Bd (.ow r)
 | ov (r:Nat) (t:TN) (off len:Nat):Bd (.ov r t off len)
 | bp (r off:Nat):Bd (.bp r off)
 | ep (r:Nat) (t:TN) (i off:Nat):Bd (.ep r t i off)
 | fp (cs:List V) (off:Nat) (h:∀j (h:j<cs.length),Bd cs[j]):Bd (.fp cs off)
 | fn (f:Nat) (cs:List V) (h:∀j (h:j<cs.length),Bd cs[j]):Bd (.fn f cs)
 | agg (cs:List V) (h:∀j (h:j<cs.length),Bd cs[j]):Bd (.agg cs)
 | tup (cs:List V) (h:∀j (h:j<cs.length),Bd cs[j]):Bd (.tup cs)
 | nili:Bd .nili
 | ifc (b:Bool):Bd (.ifc b)
section
variable {w:World} {ρ:Nat→Option RI} {bad:Nat→Prop} {v:Value} {d:V}
def VR.bd(h:VR w ρ bad v d):Bd d:=by
 induction h with
 | undef=>exact .undef
 | bool=>exact .bool _
 | int _ _ h=>exact .int _ _ h
 | str _ h=>exact .str _ h
 | nil=>exact .nil
 | slE=>exact .sl _ _ (Nat.zero_le _) (λi h=>by simp at h)
 | slC t l b off cap u hb hl hc he hu hv ih=>exact .sl _ _ (Nat.le_trans hl hc) ih
 | ow=>exact .ow _
 | owN=>exact .ow _
 | ov=>exact .ov _ _ _ _
 | bp=>exact .bp _ _
 | ep=>exact .ep _ _ _ _
 | fp cs off b o u h0 hb hu hv ih=>exact .fp _ _ ih
 | fn f cs caps hs hv ih=>exact .fn _ _ ih
 | agg cs vs hs hv ih=>exact .agg _ ih
 | tup cs vs hs hv ih=>exact .tup _ ih
 | nili=>exact .nili
 | ifc=>exact .ifc _
 | ifn=>exact .ifc _
def DI(t:TN)(x:El t):Prop:=∀j,j<sz t→Bd ((enc t x).getD j .undef)
def bdl(t:TN)(l:List (El t)):Prop:=l.length≤maxLen∧∀x∈l,DI t x
omit [jA]in
def Bd.list{t:TN}{l:List (El t)}(h:Bd (.sl t l)):bdl t l:=by
 cases h with
 | sl _ _ h hv=>
  refine⟨h,λx hx j hj=>?_⟩;obtain⟨i,hi,rfl⟩:=List.mem_iff_getElem.1 hx;exact hv i hi j hj
omit [jA]in
def Bd.len{s:List UInt8}(h:Bd (.str s)):s.length≤maxLen:=by cases h;assumption
omit [jA]in
def Bd.fits{k:IntKind}{n:Int}(h:Bd (.int k n)):zE k n:=by cases h;assumption
omit [jA]in
def zlT(t:TN)(h:t.isAgg=false)(x:El t):∃c,enc t x=[c]:=by cases t<;>first | exact⟨_,rfl⟩ | simp[TN.isAgg]at h
def zhP:(t:Ty)→t.T→Prop
 | .v t,x=>DI t x
 | .sl t,l=>bdl t l
 | .raw,v=>Bd v
 | .cells t,x=>DI t x
 | .pt t,x=>DI t x
 | .c1 _ t,x=>DI t x
 | .p1 _ t,x=>DI t x
 | .c2 _ _ t,x=>DI t x.1∧DI t x.2
omit [jA]in
def zaC{t:TN}{x:El t}(h:Bd (.fp (enc t x) 0)):DI t x:=λj hj=>by
 have VW:j<(enc t x).length:=by rw[qD];exact hj
 rw[List.getD_eq_getElem?_getD,List.getElem?_eq_getElem VW];cases h with
 | fp _ _ h=>exact h j VW
omit [jA]in
def zd2{g:Nat}{c:V}{r:List V}(h:Bd (.fn g (c :: r))):Bd c:=by
 cases h with
 | fn _ _ h=>exact h 0 (by simp)
omit [jA]in
def zxh{g:Nat}{c d:V}(h:Bd (.fn g [c,d])):Bd d:=by
 cases h with
 | fn _ _ h=>exact h 1 (by simp)
omit [jA]in
def zms{c:V}(h:Bd (.fp [c] 0)):Bd c:=by
 cases h with
 | fp _ _ h=>exact h 0 (by simp)
def xA:(ts:List Ty)→fB ts→Prop
 | [],_=>True
 | [t],x=>zhP t x
 | t :: d :: r,x=>zhP t x.1∧xA (d :: r) x.2
omit [jA]in
def zlX{t:Ty}{x:t.T}(h:Bd (YC t x)):zhP t x:=by
 cases t with
 | v t=>
  intro j hj;simp only[YC,uK]at h;have VW:j<(enc t x).length:=by rw[qD];exact hj
  cases AW:t.isAgg
  ·simp only[AW,cond_false]at h;have YV:sz t=1:=by cases t<;>first | rfl | simp[TN.isAgg]at AW
   obtain⟨c,hc⟩:=zlT t AW x;simp only[hc]at h⊢;have:j=0:=by omega
   subst this;exact h
  ·simp only[AW,cond_true]at h;rw[List.getD_eq_getElem?_getD,List.getElem?_eq_getElem VW];cases h with
   | agg _ h=>exact h j VW
 | sl t=>exact Bd.list h
 | raw=>exact h
 | cells t=>
  intro j hj;have VW:j<(enc t x).length:=by rw[qD];exact hj
  rw[List.getD_eq_getElem?_getD,List.getElem?_eq_getElem VW];cases h with
  | agg _ h=>exact h j VW
 | pt t=>exact zaC h
 | c1 g t=>exact zaC (zd2 h)
 | p1 g t=>exact zaC (zd2 (zms h))
 | c2 g h' t=>exact⟨zaC (zd2 (zms (zd2 h))),zaC (zxh h)⟩
omit [jA]in
def zgl:∀(ts:List Ty) (x:fB ts),(∀v∈iB ts x,Bd v)→xA ts x
 | [],x,h=>trivial
 | [t],x,h=>zlX (h _ (by simp[iB]))
 | t :: d :: r,x,h=>⟨zlX (h _ (by simp[iB])),zgl (d :: r) x.2 λv hv=>h v (by simp[iB,hv])⟩
omit [jA]in
def ztJ{t:Ty}{ats:List Ty}(x:fB (t :: ats)):∃(x0:t.T) (y:fB ats),iB (t :: ats) x=YC t x0 :: iB ats y:=by
 cases ats with
 | nil=>exact⟨x,(),rfl⟩
 | cons d r=>exact⟨x.1,x.2,rfl⟩
def zmr{outer own:Nat→Prop}{w0:World}{h:Nat→Option vA}(hh:rB w0 outer own ρ h w){r:Nat}{t:TN}{l:List (El t)}{m:rH}(hr:h r=some ⟨.arr t l,m⟩):Bd (.sl t l):=by
 obtain⟨ri,_,⟨hn,ho⟩,_⟩:=hh.rows r _ hr
 rcases ho with⟨_,rfl⟩ | ⟨_,_,h1,h2,_,h3⟩
 ·exact .sl _ _ (Nat.zero_le _) λi h=>by simp at h
 ·refine .sl _ _ (by omega) λi hi j hj=>?_;obtain⟨u,_,h4⟩:=h3 i hi j hj;exact h4.bd
omit [jA]in
def zgU(ow:List Nat)(B:Nat):∀(es:List V) (p:Nat),(∀j (hj:j<(RA ow B p es).length),Bd (RA ow B p es)[j])→(∀q t l,bB ow B (λ_=>none) p es q=some ⟨.arr t l, .own⟩→Bd (.sl t l))→∀j (hj:j<es.length),Bd es[j]
 | [],p,hv,hr,j,hj=>by simp at hj
 | e :: es,p,hv,hr,j,hj=>by
  have hd:∃e',RA ow B p (e :: es)=e' :: RA ow B (p+1) es:=by cases e<;>exact⟨_,rfl⟩
  obtain⟨e',zX⟩:=hd
  have A3:∀j (hj:j<(e' :: RA ow B (p+1) es).length),Bd (e' :: RA ow B (p+1) es)[j]:=λj hj=>by
   have:=hv j (by rw[zX];exact hj);simpa only[zX]using this
  cases j with
  | succ j=>
   refine zgU ow B es (p+1) (λj hj=>by have:=A3 (j+1) (by simp;omega);simpa using this) (λq t l hq=>?_) j (by simpa using hj);obtain⟨_,_,_,h1,_⟩:=ME _ _ _ _ _ _ hq;refine hr q t l ?_;have:=zb9 ow B e es p (q - B) (by omega);rw[show B+(q - B)=q by omega]at this;rw[this];exact hq
  | zero=>
   have h0:=A3 0 (by simp);simp only[List.getElem_cons_zero]at h0⊢;have h1:=congrArg List.head? zX;cases e<;>simp only[RA,List.head?_cons,Option.some.injEq]at h1<;>try (subst h1;exact h0)
   rename_i t l;cases hb:ow.any (Nat.beq p)
   ·simp only[hb,cond_false]at h1;subst h1;exact h0
   ·exact hr (B+p) t l (by simp only[bB,hb,cond_true,QA])
def zmD{outer own:Nat→Prop}{w0:World}{h:Nat→Option vA}(hh:rB w0 outer own ρ h w):∀(ks:List sB) (ats:List Ty) (x:fB ats) (k:Nat) (u:Nat→Value),DC ks ats=true→
  (∀q row,EA ks k (iB ats x) q=some row→h q=some row)→
  (∀j (hj:j<(VB ks k (iB ats x)).length),VR w ρ (uA outer ρ h) (u j) (VB ks k (iB ats x))[j])→∀v∈iB ats x,Bd v:=by
 intro ks;induction ks with
 | nil=>
  intro ats x k u hk hE hS v hv;cases ats with
  | nil=>simp[iB]at hv
  | cons=>simp[DC]at hk
 | cons g ks ih=>
  intro ats x k u hk hE hS v hv;cases ats with
  | nil=>cases g<;>simp[DC]at hk
  | cons t ats=>
   obtain⟨x0,y,he⟩:=ztJ x;rw[he]at hE hS hv;cases g with
   | plain=>
    simp only[DC]at hk
    rcases List.mem_cons.1 hv with rfl | hv
    ·exact(hS 0 (by simp[VB])).bd
    ·exact ih ats y (k+1) (λj=>u (j+1)) hk (λq row hq=>hE q row (by simpa only[EA]using hq)) (λj hj=>hS (j+1) (by simp[VB];omega)) v hv
   | mv ow=>
    cases t with
    | v t=>
     simp only[DC,Bool.and_eq_true]at hk;obtain⟨⟨AW,YV⟩,hk⟩:=hk;have YV:=Nat.le_of_ble_eq_true YV;have R6:YC (.v t) x0= .agg (enc t x0):=by simp only[YC,uK,AW,cond_true]
     rw[R6]at hE hS hv;have wW:(enc t x0).length=sz t:=qD t x0
     rcases List.mem_cons.1 hv with rfl | hv
     ·have h0:=hS 0 (by simp[VB]);simp only[VB,List.getElem_cons_zero]at h0;generalize u 0=u0 at h0;cases h0 with
      | agg _ vsA hs GX=>
      refine .agg _ (zgU ow (128 *k) _ 0 (λj hj=>(GX j hj).bd) λq t' l hq=>?_);obtain⟨_,_,_,e1,e2⟩:=ME _ _ _ _ _ _ hq;refine zmr hh (hE q ⟨.arr t' l, .own⟩ ?_);simp only[EA];rw[xC,hq]
     ·refine ih ats y (k+1) (λj=>u (j+1)) hk (λq row hq=>hE q row ?_) (λj hj=>hS (j+1) (by simp[VB];omega)) v hv;have vY:=KG ks (k+1) _ q row hq;simp only[EA];rw[xC,dE _ _ _ _ _ (by omega)];exact hq
    | _=>simp[DC]at hk
   | ptr ow=>
    cases t with
    | cells t=>
     simp only[DC,Bool.and_eq_true]at hk;obtain⟨YV,hk⟩:=hk;have YV:=Nat.le_of_ble_eq_true YV;simp only[YC]at hE hS hv;have wW:(enc t x0).length=sz t:=qD t x0;have HV:=hE (128 *k+127) _ (by simp only[EA];exact QA _ _ _)
     rcases List.mem_cons.1 hv with rfl | hv
     ·obtain⟨ri,_,WV,_⟩:=hh.rows _ _ HV;refine .agg _ (zgU ow (128 *k) _ 0 (λj hj=>?_) λq t' l hq=>?_)
      ·obtain⟨_,x,_,h2⟩:=WV.2 j hj;exact h2.bd
      ·obtain⟨_,_,_,e1,e2⟩:=ME _ _ _ _ _ _ hq;refine zmr hh (hE q ⟨.arr t' l, .own⟩ ?_);simp only[EA];rw[CA _ _ _ _ (by omega),xC,hq]
     ·refine ih ats y (k+1) (λj=>u (j+1)) hk (λq row hq=>hE q row ?_) (λj hj=>hS (j+1) (by simp[VB];omega)) v hv;have vY:=KG ks (k+1) _ q row hq;simp only[EA];rw[CA _ _ _ _ (by omega),xC,dE _ _ _ _ _ (by omega)];exact hq
    | _=>simp[DC]at hk
end
end Go.D
namespace Go.D
variable [jA]
section
variable {C:Cx} {w0:World} {outer own D:Nat→Prop} {R:Type} {st st1 st2:St} {ρ ρ1 ρ2:Nat→Option RI} {a a1 a2:Act} {w w1 w2:World} {j:JI}
omit [jA]in
def ztG{t:Ty}{ats:List Ty}{as:List V}{x:fB (t :: ats)}(hd:yD (t :: ats) as=some x):
  ∃v vs y,as=v :: vs∧∃(x0:t.T),oE t v=some x0∧yD ats vs=some y∧iB (t :: ats) x=YC t x0 :: iB ats y:=by
 cases ats with
 | nil=>
  cases as with
  | nil=>simp[yD]at hd
  | cons v vs=>
   cases vs with
   | nil=>exact⟨v,[],(),rfl,x,by simpa[yD]using hd,rfl,rfl⟩
   | cons=>simp[yD]at hd
 | cons d r=>
  cases as with
  | nil=>simp[yD]at hd
  | cons v vs=>
   simp only[yD]at hd;obtain⟨x0,h1,h2⟩:=Option.bind_eq_some_iff.1 hd;obtain⟨y,h3,h4⟩:=Option.bind_eq_some_iff.1 h2;cases h4;exact⟨v,vs,y,rfl,x0,h1,h3,rfl⟩
omit [jA]in
def zrA:∀(ks:List sB) (ats:List Ty) (as:List V) (x:fB ats) (k:Nat),DC ks ats=true→yD ats as=some x→
  (∀bs vs h,ZB ks (iB ats x) bs vs h=ZB ks as bs vs h)∧∀bs q b,uB ks k bs q=some b→∃row,EA ks k as q=some row:=by
 intro ks;induction ks with
 | nil=>
  intro ats as x k hk hd;cases ats with
  | nil=>cases as with
   | nil=>exact⟨λ_ _ _=>rfl,λbs q b h=>by simp[uB]at h⟩
   | cons=>simp[yD]at hd
  | cons=>simp[DC]at hk
 | cons g ks ih=>
  intro ats as x k hk hd;cases ats with
  | nil=>cases g<;>simp[DC]at hk
  | cons t ats=>
   obtain⟨v,vs,y,rfl,x0,h1,h3,h4⟩:=ztG hd;rw[h4];cases g with
   | plain=>
    simp only[DC]at hk;obtain⟨e1,e2⟩:=ih ats vs y (k+1) hk h3;exact⟨λbs ws h=>e1 bs ws h,λbs q b h=>by simp only[uB]at h;exact e2 bs q b h⟩
   | mv ow=>
    cases t with
    | v t=>
     simp only[DC,Bool.and_eq_true]at hk;obtain⟨⟨AW,YV⟩,hk⟩:=hk;have YV:=Nat.le_of_ble_eq_true YV;obtain⟨e1,e2⟩:=ih ats vs y (k+1) hk h3;simp only[oE]at h1;split at h1
     case h_2=>simp[AW]at h1
     rename_i cs;simp only[AW,cond_true]at h1;have wW:(enc t x0).length=sz t:=qD t x0;have G3:cs.length=sz t:=by rw[(MF t h1).len,wW]
     refine⟨λbs ws h=>e1 bs ws h,λbs q b h=>?_⟩;simp only[uB]at h;have vY:=(IF _ _ _ _ _ h).1;simp only[EA];rw[xC,dE _ _ _ _ _ (by omega)];exact e2 bs q b h
    | _=>simp[DC]at hk
   | ptr ow=>
    cases t with
    | cells t=>
     simp only[DC,Bool.and_eq_true]at hk;obtain⟨YV,hk⟩:=hk;have YV:=Nat.le_of_ble_eq_true YV;obtain⟨e1,e2⟩:=ih ats vs y (k+1) hk h3;simp only[oE]at h1;split at h1
     ·rename_i cs;have hl:=(MF t h1).len;refine⟨λbs ws h=>?_,λbs q b h=>?_⟩
      ·cases bs with
       | nil=>rfl
       | cons b bs=>simp only[YC,ZB, ←hl,e1]
      ·cases bs with
       | nil=>simp[uB]at h
       | cons c bs=>
        simp only[uB]at h;simp only[EA]
        by_cases hq:q=128 *k+127
        ·subst hq;exact⟨_,QA _ _ _⟩
        ·rw[if_neg hq]at h;have vY:=(IF _ _ _ _ _ h).1;have wW:(enc t x0).length=sz t:=qD t x0;rw[CA _ _ _ _ hq,xC,dE _ _ _ _ _ (by omega)];exact e2 bs q b h
     ·cases h1
    | _=>simp[DC]at hk
def zur(hh:rB w0 outer own ρ st.h w):∀(ks:List sB) (as:List V) (k:Nat) (us:List V),oG st ks as k=some us→
  ∃uc:Nat→Value,(∀j (hj:j<us.length),VR w ρ (uA outer ρ st.h) (uc j) us[j])∧
   ∀(bs:List Nat) (vs:List V) (h0:Nat→Option vA) (r:Nat) (row:vA),ZB ks as bs vs h0 r=some row→h0 r=some row∨
    ∃q off n cs ri,uB ks k bs q=some r∧row=⟨.box ((vs.drop off).take n), .own⟩∧off+n≤us.length∧st.h q=some ⟨.box cs, .own⟩∧ρ q=some ri∧ri.nl=false∧
     ∀i,i<n→w.frozen? (at_ ri.b i)=false∧w.cell? (at_ ri.b i)=some (uc (off+i)):=by
 intro ks;induction ks with
 | nil=>
  intro as k us h;cases as with
  | nil=>
   simp only[oG,Option.some.injEq]at h;subst h;exact⟨λ_=>undef,λj hj=>by simp at hj,λbs vs h0 r row hr=> .inl (by simpa[ZB]using hr)⟩
  | cons=>simp[oG]at h
 | cons g ks ih=>
  intro as k us h;cases g with
  | plain=>
   cases as with
   | nil=>simp[oG]at h
   | cons v as=>
    simp only[oG]at h;obtain⟨uc,h1,h2⟩:=ih as (k+1) us h;exact⟨uc,h1,λbs vs h0 r row hr=>by simp only[ZB]at hr;simp only[uB];exact h2 bs vs h0 r row hr⟩
  | mv ow=>
   cases as with
   | nil=>simp[oG]at h
   | cons v as=>
    simp only[oG]at h;obtain⟨uc,h1,h2⟩:=ih as (k+1) us h;exact⟨uc,h1,λbs vs h0 r row hr=>by simp only[ZB]at hr;simp only[uB];exact h2 bs vs h0 r row hr⟩
  | ptr ow=>
   cases as with
   | nil=>simp[oG]at h
   | cons v as=>
    cases v with
    | agg cs0=>
     simp only[oG]at h;split at h
     case h_2=>cases h
     rename_i cs us' HV U6;cases hb:Nat.beq cs.length cs0.length
     case false=>simp[hb]at h
     simp only[hb,cond_true,Option.some.injEq]at h;subst h;have hl:=Nat.eq_of_beq_eq_true hb;obtain⟨uc,h1,h2⟩:=ih as (k+1) us' U6;obtain⟨ri,hρ,WV,_⟩:=hh.rows _ _ HV;refine⟨λj=>if j<cs.length then(w.cell? (at_ ri.b j)).getD undef else uc (j - cs.length),λj hj=>?_,λbs vs h0 r row hr=>?_⟩
     ·dsimp only
      by_cases iX:j<cs.length
      ·rw[if_pos iX,List.getElem_append_left iX];obtain⟨_,u,f1,f2⟩:=WV.2 j iX;rw[f1];exact f2
      ·rw[if_neg iX,List.getElem_append_right (by omega)];exact h1 _ _
     ·cases bs with
      | nil=>exact .inl (by simpa[ZB]using hr)
      | cons b bs=>
       simp only[ZB]at hr
       by_cases hrb:r=b
       ·subst hrb;rw[QA]at hr;cases hr;refine .inr ⟨128 *k+127,0,cs0.length,cs,ri,by simp[uB],by simp,by simp;omega,HV,hρ,WV.1,λi hi=>?_⟩;obtain⟨f0,u,f1,f2⟩:=WV.2 i (by omega);refine⟨f0,?_⟩;dsimp only;rw[if_pos (by omega)];simp[f1]
       ·rw[CA _ _ _ _ hrb]at hr
        rcases h2 bs _ h0 r row hr with h3 | ⟨q,off,n,cs',ri',e1,e2,e3,e4,e5,e6,e7⟩
        ·exact .inl h3
        ·refine .inr ⟨q,cs0.length+off,n,cs',ri',?_,by rw[e2,List.drop_drop],by simp;omega,e4,e5,e6,λi hi=>?_⟩
         ·have:=(IF _ _ _ _ _ e1).1;simp only[uB];rw[if_neg (by omega)];exact e1
         ·obtain⟨g1,g2⟩:=e7 i hi;refine⟨g1,?_⟩;dsimp only;rw[g2,if_neg (by omega)];congr 2;omega
    | _=>simp[oG]at h
omit [jA]in
def zsn{h:Nat→Option vA}{v:V}{x:V×List Nat}(hf:IG h v=some x):∀r∈x.2,∃t l m,h r=some ⟨.arr t l,m⟩:=by
 unfold IG at hf;split at hf
 ·rename_i r;split at hf
  ·rename_i t l m hr;cases hm:m.isLock<;>simp[hm]at hf
   subst hf;intro q hq;simp at hq;subst hq;exact⟨_,_,_,hr⟩
  ·cases hf
 ·rename_i r t off len;split at hf
  ·rename_i t' l m hr;cases hm:m.isLock
   ·simp only[hm,cond_false]at hf;split at hf
    ·simp at hf;subst hf;intro q hq;simp at hq;subst hq;exact⟨_,_,_,hr⟩
    ·cases hf
   ·simp[hm]at hf
  ·cases hf
 ·cases hb:uG 8 v<;>simp[hb]at hf
  subst hf;simp
omit [jA]in
def eU(ow:List Nat):∀(cs:List V) (p:Nat) (h:Nat→Option vA) (x:List V×(Nat→Option vA)) (q:Nat) (c:List V),bE ow p cs h=some x→h q=some ⟨.box c, .own⟩→x.2 q=some ⟨.box c, .own⟩
 | [],p,h,x,q,c,ht,hq=>by simp[bE]at ht;subst ht;exact hq
 | v :: cs,p,h,x,q,c,ht,hq=>by
  simp only[bE]at ht;cases hb:ow.any (Nat.beq p)
  ·simp only[hb,cond_false]at ht;split at ht
   case h_2=>cases ht
   rename_i c' ids zZ;split at ht
   case h_2=>cases ht
   rename_i hr;cases ht;have hx:=eU ow cs _ _ _ q c hr;refine hx ?_;rw[EF,if_neg]
   ·exact hq
   ·intro hm;obtain⟨t,l,m,h3⟩:=zsn zZ q hm;rw[hq]at h3;cases h3
  ·simp only[hb,cond_true]at ht;split at ht
   ·split at ht
    case h_2=>cases ht
    rename_i HV;split at ht
    case h_2=>cases ht
    rename_i hr;cases ht;have hx:=eU ow cs _ _ _ q c hr;refine hx ?_;rw[CA _ _ _ _ (by rintro rfl;rw[HV]at hq;cases hq)];exact hq
   ·split at ht
    case h_2=>cases ht
    rename_i hr;cases ht;have hx:=eU ow cs _ _ _ q c hr;exact hx hq
   ·split at ht
    case h_2=>cases ht
    rename_i HV;split at ht
    case h_2=>cases ht
    rename_i hr;cases ht;have hx:=eU ow cs _ _ _ q c hr;refine hx ?_;rw[CA _ _ _ _ (by rintro rfl;rw[HV]at hq;cases hq)];exact hq
   ·cases ht
open Classical in
theorem zwY{fn:Func}{ks:List sB}{as:List V}{bs ow:List Nat}{base:Nat}{shape:List (Bool×Nat)}{rts:List Ty}{vs us rs:List V}{h2:Nat→Option vA}{r:fB rts}
  (hr:ZA C w0 outer own ρ st a w) (hf:∀q,st.nx≤q→ρ q=none) (DX:DH C.P st fn.results.toList shape=some vs) (U6:oG st ks as 0=some us)
  (LW:bE ow 0 (vs++us) st.h=some (rs,h2)) (hun:jJ rts rs=some r) (KV:(wE rts r).length≤128) (S4:bs.Nodup) (i9:∀b∈bs,Out base 128 b):
  ∃v,(results fn a.tmps).run C.P w= .ok v w∧∃ρf,rB w0 outer own ρf (pF ks as bs ow base shape (wE rts r)) w∧
   VR w ρf (uA outer ρf (pF ks as bs ow base shape (wE rts r))) v (yI shape (RA ow base 0 (wE rts r)))∧
   (∀q b,uB ks 0 bs q=some b→ρf b=ρ q)∧(∀r,ρf r≠none→(base≤r∧r<base+128)∨r∈bs):=by
 obtain⟨rv,cells,k1,k2,k3,k4⟩:=zs1 hr DX;obtain⟨uc,u1,u2⟩:=zur hr.heap ks as 0 us U6;have BW:=zfT rts rs r hun;have V6:=IP ow _ _ _ _ LW;simp only at V6;generalize hR0:wE rts r=R0 at *;have hRl:R0.length=vs.length+us.length:=by rw[←BW.len,V6,List.length_append]
 have hsh:eL shape=vs.length:=by rw[k1.len.1,k2]
 let M:=st.nx;let u:Nat→Value:=λj=>if j<vs.length then cells.getD j undef else uc (j - vs.length)
 have hhn:∀q,st.nx≤q→st.h q=none:=λq hq=>by
  cases hg:st.h q with
  | none=>rfl
  | some row=>obtain⟨ri,h3,_⟩:=hr.heap.rows _ _ hg;rw[hf q hq]at h3;cases h3
 obtain⟨ρ2,g2,T,hTl⟩:=qV ow M 128 (vs++us) 0 st.h h2 rs R0 ρ st.h u LW BW (by rw[List.length_append];omega) hr.heap (λj hj=>by
   simp only[u]
   by_cases iX:j<vs.length
   ·rw[if_pos iX,List.getElem_append_left iX];exact k3 j iX
   ·rw[if_neg iX,List.getElem_append_right (by omega)];exact u1 _ (by simp at hj;omega)) (λ_ _ h=>h) (λq _=>hhn _ (by simp only[M];omega)) (λq _ _=>hf _ (by simp only[M];omega))
 let ρf:Nat→Option RI:=λr=>if base≤r∧r<base+128 then ρ2 (M+(r - base))else if h:∃q,uB ks 0 bs q=some r then ρ (Classical.choose h)else none
 let φ:Nat→Nat:=λr=>if base≤r∧r<base+128 then M+(r - base)else if h:∃q,uB ks 0 bs q=some r then Classical.choose h else 0
 have RY:∀q,q<128→ρf (base+q)=ρ2 (M+q)∧φ (base+q)=M+q:=λq hq=>by
  have h1:base≤base+q∧base+q<base+128:=by omega
  simp only[ρf,φ,if_pos h1];have:base+q - base=q:=by omega
  simp[this]
 have F0:∀q b,uB ks 0 bs q=some b→ρf b=ρ q∧φ b=q:=λq b hq=>by
  have h1:¬(base≤b∧b<base+128):=i9 b (IF _ _ _ _ _ hq).2.2;have h2:∃q,uB ks 0 bs q=some b:=⟨q,hq⟩;have h3:Classical.choose h2=q:=sV ks 0 bs _ _ b S4 (Classical.choose_spec h2) hq;simp only[ρf,φ,if_neg h1,dif_pos h2,h3];exact⟨trivial,trivial⟩
 -- the rows
 have HV:∀q row,pF ks as bs ow base shape R0 q=some row→
   (∃p t l,p<128∧q=base+p∧row=⟨.arr t l, .own⟩∧g2 (M+p)=some row)∨
   ∃p off n cs ri,uB ks 0 bs p=some q∧row=⟨.box ((((RA ow base 0 R0).drop (eL shape)).drop off).take n), .own⟩∧off+n≤us.length∧g2 p=some ⟨.box cs, .own⟩∧ρ p=some ri∧ri.nl=false∧p<M∧
    ∀i,i<n→w.frozen? (at_ ri.b i)=false∧w.cell? (at_ ri.b i)=some (uc (off+i)):=λq row hq=>by
  rcases u2 bs _ _ q row hq with h1 | ⟨p,off,n,cs,ri,e1,e2,e3,e4,e5,e6,e7⟩
  ·obtain⟨t,l,h3,h4,h5⟩:=ME _ _ _ _ _ _ h1;refine .inl ⟨q - base,t,l,by omega,by omega,h3,?_⟩;rw[T.new (q - base) (by omega) (by omega), ←WU ow base M R0 0 (q - base),show base+(q - base)=q by omega];exact h1
  ·refine .inr ⟨p,off,n,cs,ri,e1,e2,e3,T.lies _ _ (eU ow _ _ _ _ p cs LW e4),e5,e6,?_,e7⟩
   rcases Nat.lt_or_ge p st.nx with h | h
   ·exact h
   ·rw[hf p h]at e5;cases e5
 have mW:∀b,uA outer ρf (pF ks as bs ow base shape R0) b→uA outer ρ2 g2 b:=by
  rintro b (hb | ⟨q,row,ri,f1,f2,f3,f4,f5⟩)
  ·exact .inl hb
  ·rcases HV q row f1 with⟨p,t,l,h1,rfl,h3,h4⟩ | ⟨p,off,n,cs,ri',e1,e2,e3,e4,e5,e6,e7,e8⟩
   ·rw[(RY p h1).1]at f3;exact .inr ⟨_,row,ri,h4,f2,f3,f4,f5⟩
   ·rw[(F0 p q e1).1]at f3;exact .inr ⟨p,_,ri,e4,rfl,T.ext _ _ f3,f4,f5⟩
 have hX:∀j (hj:j<(RA ow base 0 R0).length),VR w ρf (uA outer ρf (pF ks as bs ow base shape R0)) (u j) (RA ow base 0 R0)[j]:=
  cV (w:=w) (ρ:=ρ2) (ρ2:=ρf) (bad:=uA outer ρ2 g2) (bad2:=uA outer ρf (pF ks as bs ow base shape R0)) ow M base R0 0 u (λq _ hq _ _=>(RY q (by omega)).1) (λj hj=>(T.closed j hj).1) mW T.vals
 refine⟨_,k4,ρf,?_,?_,λq b hq=>(F0 q b hq).1,λq hq=>?_⟩
 ·refine T.heap.sub φ T.heap.wx T.heap.old T.heap.outLt (λq row hq=>?_) (λq q' row row' h1 h2 h3=>?_)
  ·rcases HV q row hq with⟨p,t,l,h1,rfl,rfl,h4⟩ | ⟨p,off,n,cs,ri,e1,e2,e3,e4,e5,e6,e7,e8⟩
   ·obtain⟨ri,f1,f2,f3⟩:=T.heap.rows _ _ h4;exact⟨_,ri,by rw[(RY p h1).2];exact h4,by rw[(RY p h1).1];exact f1,by rw[(RY p h1).2];exact f1,zbm f2 mW ρf,λhn=>(f3 hn).1⟩
   ·obtain⟨ri',f1,f2,f3⟩:=T.heap.rows _ _ e4;rw[T.ext _ _ e5]at f1;cases f1;refine⟨_,ri,by rw[(F0 p q e1).2];exact e4,by rw[(F0 p q e1).1];exact e5,by rw[(F0 p q e1).2];exact T.ext _ _ e5,?_,λhn=>⟨(f3 hn).1.1,λ_=>(f3 hn).1.2 rfl⟩⟩;rw[e2];refine⟨e6,λi hi=>?_⟩
    have IW:i<n∧vs.length+off+i<(RA ow base 0 R0).length:=by
     simp only[List.length_take,List.length_drop]at hi;omega
    obtain⟨g3,g4⟩:=e8 i IW.1;refine⟨g3,_,g4,?_⟩;have h5:=hX (vs.length+(off+i)) (by omega);simp only[u]at h5;rw[if_neg (by omega),show vs.length+(off+i) - vs.length=off+i by omega]at h5;simp only[List.getElem_take,List.getElem_drop,hsh];exact h5
  ·rcases HV q row h1 with⟨p,t,l,f1,rfl,f3,f4⟩ | ⟨p,off,n,cs,ri,e1,e2,e3,e4,e5,e6,e7,e8⟩<;>
   rcases HV q' row' h2 with⟨p',t',l',f1',rfl,f3',f4'⟩ | ⟨p',off',n',cs',ri',e1',e2',e3',e4',e5',e6',e7',e8'⟩
   ·rw[(RY p f1).2,(RY p' f1').2]at h3;omega
   ·rw[(RY p f1).2,(F0 p' q' e1').2]at h3;omega
   ·rw[(F0 p q e1).2,(RY p' f1').2]at h3;omega
   ·rw[(F0 p q e1).2,(F0 p' q' e1').2]at h3;subst h3;rw[e1]at e1';exact Option.some.inj e1'
 ·refine zvX k1 (by rw[FF];omega) λj hj VW=>?_;have h5:=hX j hj;simp only[u]at h5;rw[if_pos (by omega)]at h5;exact h5
 ·by_cases h1:base≤q∧q<base+128
  ·exact .inl h1
  ·by_cases h2:∃p,uB ks 0 bs p=some q
   ·obtain⟨p,h2⟩:=h2;exact .inr (IF _ _ _ _ _ h2).2.2
   ·simp only[ρf,if_neg h1,dif_neg h2]at hq;exact absurd rfl hq
def zuU (hC : VF C) (hΦ : fG C) {f : Nat} {fn : Func} {body : Code} (hf : C.P.funcs[f]? = some fn) (hb : fn.body = some body) (KW : (fn.name == "runtime.NumGoroutine") = false)
  (hnt:C.nt=fn.ntmps) (an:An) (ks:List sB) (ow:List Nat) (shape:List (Bool×Nat)) (ats rts:List Ty) (F:fB ats→Option (fB rts))
  (uY:DC ks ats=true) (m4:Nat.ble ks.length fn.ntmps=true)
  (j9:∀x r,xA ats x→F x=some r→zaA C fn body an ks ow shape rts (iB ats x)=some r):
  yB C.P f ⟨ks,fB ats,fB rts,yD ats,F,wE rts,shape,ow,false⟩ C.g:=by
 intro w args as outer ownw ρ x r base bs YV fZ hh PX JW S4 i9 EZ hF W6 hgl;simp only at YV fZ hh PX JW EZ hF W6;have m4:=Nat.le_of_ble_eq_true m4;refine .inl ⟨?_,calls_of_wp hf hb ?_⟩
 ·have VX : ¬ fn.name = "runtime.NumGoroutine" := by simpa using KW
  simp[callFunc,program,hf,hb,VX,Sem.run]
 obtain⟨pb1,pb2⟩:=zrA ks ats as x 0 uY EZ;obtain⟨ρ2,H1,H2,H3,H4,H5⟩:=zln uY EZ hh JW;obtain⟨e1,e2⟩:=zlI (w:=w) (ρ:=ρ) H2 ks ats as x 0 (λj=>args.getD j undef) uY EZ (λq t h1 h2=>H5 q _ h1 h2) PX;have G9:∀base rs,pF ks (iB ats x) bs ow base shape rs=pF ks as bs ow base shape rs:=λbase rs=>by simp only[pF,pb1]
 have nZ:ZA C w outer ownw ρ2 {s:=λi=>match(VB ks 0 (iB ats x)).drop i with | v :: _=>v | []=> .undef,h:=EA ks 0 (iB ats x),nx:=128 *ks.length}
   {tmps:=args++Array.replicate (fn.ntmps - args.size) undef,defers:=[]} w:=by
  refine⟨H1,λi=>?_,by simp;omega,rfl,hgl⟩;show VR w ρ2 _ _ (match(VB ks 0 (iB ats x)).drop i with | v :: _=>v | []=> .undef)
  by_cases hi:i<(VB ks 0 (iB ats x)).length
  ·rw[List.drop_eq_getElem_cons hi];have h3:=e2 i hi;have hia:i<args.size:=by omega
   rw[Array.getD_eq_getD_getElem?]at h3⊢;rw[Array.getElem?_append_left hia];exact h3
  ·rw[List.drop_eq_nil_of_le (by omega)];exact .undef _
 refine zlR hC hΦ an body (λ_=>True) (zkO an body) _ _ w ρ2 _ r _ nZ (λq hq=>H4 q hq) (j9 x r (zgl ats x (zmD H1 ks ats x 0 (λj=>args.getD j undef) uY (λ_ _ h=>h) λj hj=>e2 j hj)) hF) λe st' a' w' ρ' hg hk=>?_
 have key:(match DH C.P st' fn.results.toList shape,oG st' ks (iB ats x) 0 with
   | some vs,some us=>match bE ow 0 (vs++us) st'.h with
    | some (rs,_)=>jJ rts rs
    | none=>none
   | _,_=>none)=some r→a'.defers=[]∧∃v,(results fn a'.tmps).run C.P w'= .ok v w'∧∃v',Ending.returned v= .returned v'∧∃ρf,rB w outer ownw ρf (pF ks as bs ow base shape (wE rts r)) w'∧
   VR w' ρf (uA outer ρf (pF ks as bs ow base shape (wE rts r))) v' (yI shape (RA ow base 0 (wE rts r)))∧
   (∀q b,uB ks 0 bs q=some b→ρf b=ρ q)∧(∀r,ρf r≠none→(base≤r∧r<base+128)∨r∈bs):=by
  intro hk;split at hk
  case h_2=>cases hk
  rename_i vs us DX U6;split at hk
  case h_2=>cases hk
  rename_i rs h2 LW;obtain⟨v,h3,ρf,h4,h5,h6,h7⟩:=zwY (bs:=bs) (base:=base) hg.rel hg.fresh DX U6 LW hk W6 S4 i9;rw[G9]at h4 h5;refine⟨hg.rel.defers,v,h3,v,rfl,ρf,h4,h5,λq b hq=>?_,h7⟩;rw[h6 q b hq];obtain⟨row,HV⟩:=pb2 bs q b hq;obtain⟨ri,h8,_⟩:=hh.rows _ _ HV;rw[hg.ext _ _ (H3 _ _ h8),h8]
 cases e with
 | exit id=>cases hk
 | normal=>exact key hk
 | ret=>exact key hk
noncomputable def zef(C:Cx)(fn:Func)(body:Code)(an:An)(ks:List sB)(ts:List Ty)(as:List V):Option (fB ts):=
 YE C an body {s:=λi=>match(VB ks 0 as).drop i with | v :: _=>v | []=> .undef,h:=EA ks 0 as,nx:=128 *ks.length} λe st=>
  match e with
  | .exit _=>none
  | _=>match fn.results.toList with
   | [.tmp t]=>match st.s t with
    | .bp b 0=>match st.h b with
     | some ⟨.box cs, .own⟩=>bif cs.all (uG 8)then jJ ts cs else none
     | _=>none
    | _=>none
   | _=>none
def zwq{fn:Func}{ks:List sB}{as:List V}{bs:List Nat}{base t b:Nat}{rts:List Ty}{cs:List V}{r:fB rts}
  (hr:ZA C w0 outer own ρ st a w) (DX:fn.results.toList=[.tmp t]) (hs:st.s t= .bp b 0) (HV:st.h b=some ⟨.box cs, .own⟩) (WW:cs.all (uG 8)=true) (hun:jJ rts cs=some r):
  ∃v,(results fn a.tmps).run C.P w= .ok v w∧∃ρf,rB w0 outer own ρf (AA (λ_=>none) base (some ⟨.box (wE rts r), .own⟩)) w∧
   VR w ρf (uA outer ρf (AA (λ_=>none) base (some ⟨.box (wE rts r), .own⟩))) v (.bp base 0)∧(∀q,ρf q≠none→q=base):=by
 have hv:=hr.slots t;rw[hs]at hv;obtain⟨ri,hρ,WV,Z3⟩:=hr.heap.rows _ _ HV;have BW:=zfT rts cs r hun;generalize wE rts r=es at BW;generalize hA:a.tmps.getD t undef=A at hv;cases hv with
 | bp _ _ ri' h1 h2=>
 rw[hρ]at h1;cases h1;let ρf:Nat→Option RI:=λq=>if q=base then some ri else none
 have mW:∀c,uA outer ρf (AA (λ_=>none) base (some ⟨.box es, .own⟩)) c→uA outer ρ st.h c:=by
  rintro c (hb | ⟨q,row,ri',f1,f2,f3,f4,f5⟩)
  ·exact .inl hb
  ·by_cases hq:q=base
   ·subst hq;simp only[ρf,if_true,Option.some.injEq]at f3;subst f3;exact .inr ⟨b,_,ri,HV,rfl,hρ,f4,f5⟩
   ·rw[CA _ _ _ _ hq]at f1;cases f1
 refine⟨.pointer (some (at_ ri.b 0)),?_,ρf,?_, .bp _ _ ri (by simp[ρf]) h2,λq hq=>?_⟩
 ·have:=zgz (P:=C.P) (w:=w) (vL a.tmps) fn.results.toList [.pointer (some (at_ ri.b 0))] (by rw[DX];rfl) (λi hi hi2=>by
   simp only[DX]at hi⊢;have:i=0:=by simp at hi;omega
   subst this;simp only[List.getElem_cons_zero,vL,hA];rfl)
  show((do let vs ←fn.results.mapM (vL a.tmps);pure (if h:vs.size=1 then vs[0]else .tuple vs)):Sem Value).run C.P w=_
  rw[Array.mapM_eq_mapM_toList];simp only[Sem.run_bind,Sem.run_map,this,Result.andThen_ok,Sem.run_pure];rfl
 ·refine hr.heap.sub (λ_=>b) hr.heap.wx hr.heap.old hr.heap.outLt (λq row hq=>?_) (λq q' row row' g1 g2 _=>?_)
  ·by_cases K3:q=base
   ·subst K3;rw[QA]at hq;cases hq;refine⟨_,ri,HV,by simp[ρf],hρ,⟨h2,λj hj=>?_⟩,λhn=>⟨(Z3 hn).1.1,λ_=>(Z3 hn).1.2 rfl⟩⟩;have VW:j<cs.length:=by rw[BW.len];exact hj
    obtain⟨e1,u,e2,e3⟩:=WV.2 j VW;refine⟨e1,u,e2,VR.sub (BW.get j VW hj) ?_⟩;have hn:=(zcB 8 _ (List.all_eq_true.1 WW _ (List.getElem_mem VW))).1;exact(e3.noRef hn ρf).mono (λ_ _ h=>h) (λ_ _ _=>rfl) λc hc=> .inl (mW c hc)
   ·rw[CA _ _ _ _ K3]at hq;cases hq
  ·have k1:q=base:=by
    rcases Nat.decEq q base with h | h
    ·rw[CA _ _ _ _ h]at g1;cases g1
    ·exact h
   have k2:q'=base:=by
    rcases Nat.decEq q' base with h | h
    ·rw[CA _ _ _ _ h]at g2;cases g2
    ·exact h
   rw[k1,k2]
 ·by_cases h:q=base
  ·exact h
  ·simp only[ρf,if_neg h]at hq;exact absurd rfl hq
omit [jA]in
def zjM:∀(n k:Nat) (bs:List Nat) (q:Nat),uB (List.replicate n .plain) k bs q=none
 | 0,k,bs,q=>by simp[uB]
 | n+1,k,bs,q=>by simp only[List.replicate_succ,uB];exact zjM n (k+1) bs q
def zvt (hC : VF C) (hΦ : fG C) {f : Nat} {fn : Func} {body : Code} (hf : C.P.funcs[f]? = some fn) (hb : fn.body = some body) (KW : (fn.name == "runtime.NumGoroutine") = false)
  (hnt:C.nt=fn.ntmps) (an:An) (n:Nat) (shape:List (Bool×Nat)) (ats rts:List Ty) (F:fB ats→Option (fB rts))
  (uY:DC (List.replicate n .plain) ats=true) (m4:Nat.ble n fn.ntmps=true)
  (j9:∀x r,xA ats x→F x=some r→zef C fn body an (List.replicate n sB.plain) rts (iB ats x)=some r):
  yB C.P f ⟨List.replicate n .plain,fB ats,fB rts,yD ats,F,wE rts,shape,[],true⟩ C.g:=by
 generalize X6:List.replicate n sB.plain=ks at uY j9⊢;have hkn:ks.length=n:=by rw[←X6];simp
 intro w args as outer ownw ρ x r base bs YV fZ hh PX JW S4 i9 EZ hF W6 hgl;simp only at YV fZ hh PX JW EZ hF W6;have m4:=Nat.le_of_ble_eq_true m4;refine .inl ⟨?_,calls_of_wp hf hb ?_⟩
 ·have VX : ¬ fn.name = "runtime.NumGoroutine" := by simpa using KW
  simp[callFunc,program,hf,hb,VX,Sem.run]
 obtain⟨ρ2,H1,H2,H3,H4,H5⟩:=zln uY EZ hh JW;obtain⟨e1,e2⟩:=zlI (w:=w) (ρ:=ρ) H2 ks ats as x 0 (λj=>args.getD j undef) uY EZ (λq t h1 h2=>H5 q _ h1 h2) PX
 have nZ:ZA C w outer ownw ρ2 {s:=λi=>match(VB ks 0 (iB ats x)).drop i with | v :: _=>v | []=> .undef,h:=EA ks 0 (iB ats x),nx:=128 *ks.length}
   {tmps:=args++Array.replicate (fn.ntmps - args.size) undef,defers:=[]} w:=by
  refine⟨H1,λi=>?_,by simp;omega,rfl,hgl⟩;show VR w ρ2 _ _ (match(VB ks 0 (iB ats x)).drop i with | v :: _=>v | []=> .undef)
  by_cases hi:i<(VB ks 0 (iB ats x)).length
  ·rw[List.drop_eq_getElem_cons hi];have h3:=e2 i hi;have hia:i<args.size:=by omega
   rw[Array.getD_eq_getD_getElem?]at h3⊢;rw[Array.getElem?_append_left hia];exact h3
  ·rw[List.drop_eq_nil_of_le (by omega)];exact .undef _
 refine zlR hC hΦ an body (λ_=>True) (zkO an body) _ _ w ρ2 _ r _ nZ (λq hq=>H4 q hq) (j9 x r (zgl ats x (zmD H1 ks ats x 0 (λj=>args.getD j undef) uY (λ_ _ h=>h) λj hj=>e2 j hj)) hF) λe st' a' w' ρ' hg hk=>?_
 have key:(match fn.results.toList with
   | [.tmp t]=>match st'.s t with
    | .bp b 0=>match st'.h b with
     | some ⟨.box cs, .own⟩=>bif cs.all (uG 8)then jJ rts cs else none
     | _=>none
    | _=>none
   | _=>none)=some r→a'.defers=[]∧∃v,(results fn a'.tmps).run C.P w'= .ok v w'∧∃v',Ending.returned v= .returned v'∧∃ρf,rB w outer ownw ρf (AA (λ_=>none) base (some ⟨.box (wE rts r), .own⟩)) w'∧
   VR w' ρf (uA outer ρf (AA (λ_=>none) base (some ⟨.box (wE rts r), .own⟩))) v' (.bp base 0)∧
   (∀q b,uB ks 0 bs q=some b→ρf b=ρ q)∧(∀r,ρf r≠none→(base≤r∧r<base+128)∨r∈bs):=by
  intro hk;split at hk
  case h_2=>cases hk
  rename_i t DX;split at hk
  case h_2=>cases hk
  rename_i b hs;split at hk
  case h_2=>cases hk
  rename_i cs HV;cases WW:cs.all (uG 8)
  case false=>simp[WW]at hk
  simp only[WW,cond_true]at hk;obtain⟨v,h3,ρf,h4,h5,h6⟩:=zwq (ks:=ks) (as:=as) (bs:=bs) (base:=base) hg.rel DX hs HV WW hk;refine⟨hg.rel.defers,v,h3,v,rfl,ρf,h4,h5,λq b hq=>?_,λq hq=>?_⟩
  ·rw[←X6,zjM]at hq;cases hq
  ·rw[h6 q hq];exact .inl ⟨Nat.le_refl _,by omega⟩
 cases e with
 | exit id=>cases hk
 | normal=>exact key hk
 | ret=>exact key hk
end
end Go.D
namespace Go.D
inductive LK where
 | i | by | b | s
 | l (t:TN)
 deriving DecidableEq
def lk:TN→List LK
 | .byte=>[.by] | .int=>[.i] | .bool=>[.b] | .str=>[.s] | .bs=>[.l .byte]
 | .Addr=>[.i, .i]
 | .Op=>[.i, .i, .i, .l .byte]
 | .Event=>[.i, .i, .i, .i, .l .byte, .l .Op]
 | .Jar=>[.l .byte]
 | .Dice=>[.l .byte, .i]
 | .Win=>[.i, .l .int]
 | .Ep=>[.i, .l .byte, .i, .i, .l .int]
 | .Chan=>[.i, .l .byte, .i, .l .byte, .i, .i, .l .int, .i, .l .byte, .i, .i, .l .int, .b, .i, .l .byte]
 | .Cand=>[.i, .i, .l .byte, .i]
 | .Paths=>[.i, .i, .l .Cand]
 | .Sess=>[.i, .l .byte, .l .byte, .i, .l .byte, .i, .l .byte, .i, .i, .l .int, .i, .l .byte, .i, .i, .l .int, .b, .i, .l .byte, .i, .i, .l .Cand, .i, .i, .b]
 | .Tab=>[.i, .l .Sess]
 | .Credit=>[.i, .i, .i, .i]
 | .Server=>[.l .bs, .l .byte, .l .byte, .i, .i, .l .Sess, .l .Credit]
 | .Frame=>[.i, .i, .l .byte, .l .byte, .i, .l .byte, .l .byte, .i, .i, .l .byte, .l .byte]
 | .Timer=>[.b, .i, .i, .i]
 | .Client=>[.i, .l .byte, .i, .i, .i, .l .byte, .i, .i, .l .byte, .l .byte, .i, .l .byte, .l .byte, .i, .i, .l .byte, .l .byte, .i, .l .byte, .i, .l .byte, .i, .i, .l .int, .i, .l .byte, .i, .i, .l .int, .b, .i, .l .byte, .b, .i, .i, .i, .b, .i, .i, .i, .i]
 | .Wire=>[.i, .i, .i, .i, .l .byte]
 | .Note=>[.i, .i, .i, .l .byte, .l .byte, .i, .i, .l .byte, .l .byte, .i, .i, .i]
 | .World=>[.i, .l .Client, .l .bs, .l .byte, .l .byte, .i, .i, .l .Sess, .l .Credit, .l .byte, .i, .l .Wire, .l .bs, .l .Note]
 | .Cur=>[.l .byte, .i, .i]
 | .Out=>[.i, .i, .i, .i, .l .byte, .l .byte, .i, .l .byte, .l .byte, .i, .i, .l .byte, .l .byte]
 | .Form=>[.i, .s]
 | .Hash=>[.l .int, .l .byte, .i]
def Mat:LK→V→Prop
 | .i,v=>∃n,HA v=some n
 | .by,v=>∃n,vT v=some n
 | .b,v=>∃n,VH v=some n
 | .s,v=>∃n,gP v=some n
 | .l t,v=>∃n,WA t v=some n
inductive kC:List LK→List V→Prop
 | nil:kC [] []
 | cons {k:LK} {v:V} {ks:List LK} {vs:List V} (h:Mat k v) (r:kC ks vs):kC (k :: ks) (v :: vs)
def kC.app{a b:List LK}{x y:List V}(h:kC a x)(k:kC b y):kC (a++b) (x++y):=by
 induction h with
 | nil=>exact k
 | cons h _ ih=>exact .cons h ih
def kC.len{a:List LK}{x:List V}(h:kC a x):a.length=x.length:=by
 induction h with
 | nil=>rfl
 | cons h _ ih=>simp[ih]
def kC.take{k:LK}{ks:List LK}{x:List V}(h:kC (k :: ks) x):∃v r,x=v :: r∧Mat k v∧kC ks r:=by
 cases h with | cons h r=>exact⟨_,_,rfl,h,r⟩
def zaq{α β:Type}{p:V→Option α}{v:V}{a:α}(h:p v=some a)(cs:List V)(k:α→List V→Option β):tk p (v :: cs) k=k a cs:=by simp[tk,h]
def SD{β:Type}(r:β){x:List V}(h:kC [] x):∃y,cC x r=some y:=by cases h;exact⟨r,rfl⟩
def KA{β:Type}{ks:List LK}{K:Int→List V→Option β}{x:List V}(h:kC (.i :: ks) x)(hk:∀a r,kC ks r→∃y,K a r=some y):∃y,tk HA x K=some y:=by
 cases h with | cons h r=>obtain⟨a,h⟩:=h;rw[zaq h];exact hk _ _ r
def UM{β:Type}{ks:List LK}{K:Bool→List V→Option β}{x:List V}(h:kC (.b :: ks) x)(hk:∀a r,kC ks r→∃y,K a r=some y):∃y,tk VH x K=some y:=by
 cases h with | cons h r=>obtain⟨a,h⟩:=h;rw[zaq h];exact hk _ _ r
def zmX{β:Type}{ks:List LK}{K:List UInt8→List V→Option β}{x:List V}(h:kC (.s :: ks) x)(hk:∀a r,kC ks r→∃y,K a r=some y):∃y,tk gP x K=some y:=by
 cases h with | cons h r=>obtain⟨a,h⟩:=h;rw[zaq h];exact hk _ _ r
def dB{β:Type}{t:TN}{ks:List LK}{K:List (El t)→List V→Option β}{x:List V}(h:kC (.l t :: ks) x)(hk:∀a r,kC ks r→∃y,K a r=some y):∃y,tk (WA t) x K=some y:=by
 cases h with | cons h r=>obtain⟨a,h⟩:=h;rw[zaq h];exact hk _ _ r
def zu9{x:List V}(h:kC (lk .Addr) x):∃y,zdG x=some y:=KA h λ_ _ h=>KA h λ_ _ h=>SD _ h
def zxe{x:List V}(h:kC (lk .Op) x):∃y,zen x=some y:=KA h λ_ _ h=>KA h λ_ _ h=>KA h λ_ _ h=>dB h λ_ _ h=>SD _ h
def ztQ{x:List V}(h:kC (lk .Event) x):∃y,zdn x=some y:=KA h λ_ _ h=>KA h λ_ _ h=>KA h λ_ _ h=>KA h λ_ _ h=>dB h λ_ _ h=>dB h λ_ _ h=>SD _ h
def zwg{x:List V}(h:kC (lk .Jar) x):∃y,zeb x=some y:=dB h λ_ _ h=>SD _ h
def zvs{x:List V}(h:kC (lk .Dice) x):∃y,zdM x=some y:=dB h λ_ _ h=>KA h λ_ _ h=>SD _ h
def zvW{x:List V}(h:kC (lk .Win) x):∃y,zdZ x=some y:=KA h λ_ _ h=>dB h λ_ _ h=>SD _ h
def zw5{x:List V}(h:kC (lk .Ep) x):∃y,zek x=some y:=KA h λ_ _ h=>dB h λ_ _ h=>KA h λ_ _ h=>KA h λ_ _ h=>dB h λ_ _ h=>SD _ h
def zvg{x:List V}(h:kC (lk .Chan) x):∃y,zdR x=some y:=KA h λ_ _ h=>dB h λ_ _ h=>KA h λ_ _ h=>dB h λ_ _ h=>KA h λ_ _ h=>KA h λ_ _ h=>dB h λ_ _ h=>KA h λ_ _ h=>dB h λ_ _ h=>KA h λ_ _ h=>KA h λ_ _ h=>dB h λ_ _ h=>UM h λ_ _ h=>KA h λ_ _ h=>dB h λ_ _ h=>SD _ h
def zuA{x:List V}(h:kC (lk .Cand) x):∃y,zdz x=some y:=KA h λ_ _ h=>KA h λ_ _ h=>dB h λ_ _ h=>KA h λ_ _ h=>SD _ h
def ztT{x:List V}(h:kC (lk .Paths) x):∃y,zcZ x=some y:=KA h λ_ _ h=>KA h λ_ _ h=>dB h λ_ _ h=>SD _ h
def zvz{x:List V}(h:kC (lk .Sess) x):∃y,zdT x=some y:=KA h λ_ _ h=>dB h λ_ _ h=>dB h λ_ _ h=>KA h λ_ _ h=>dB h λ_ _ h=>KA h λ_ _ h=>dB h λ_ _ h=>KA h λ_ _ h=>KA h λ_ _ h=>dB h λ_ _ h=>KA h λ_ _ h=>dB h λ_ _ h=>KA h λ_ _ h=>KA h λ_ _ h=>dB h λ_ _ h=>UM h λ_ _ h=>KA h λ_ _ h=>dB h λ_ _ h=>KA h λ_ _ h=>KA h λ_ _ h=>dB h λ_ _ h=>KA h λ_ _ h=>KA h λ_ _ h=>UM h λ_ _ h=>SD _ h
def zvC{x:List V}(h:kC (lk .Tab) x):∃y,zd5 x=some y:=KA h λ_ _ h=>dB h λ_ _ h=>SD _ h
def zs9{x:List V}(h:kC (lk .Credit) x):∃y,zcK x=some y:=KA h λ_ _ h=>KA h λ_ _ h=>KA h λ_ _ h=>KA h λ_ _ h=>SD _ h
def zsI{x:List V}(h:kC (lk .Server) x):∃y,zcG x=some y:=dB h λ_ _ h=>dB h λ_ _ h=>dB h λ_ _ h=>KA h λ_ _ h=>KA h λ_ _ h=>dB h λ_ _ h=>dB h λ_ _ h=>SD _ h
def ztC{x:List V}(h:kC (lk .Frame) x):∃y,zdd x=some y:=KA h λ_ _ h=>KA h λ_ _ h=>dB h λ_ _ h=>dB h λ_ _ h=>KA h λ_ _ h=>dB h λ_ _ h=>dB h λ_ _ h=>KA h λ_ _ h=>KA h λ_ _ h=>dB h λ_ _ h=>dB h λ_ _ h=>SD _ h
def zt0{x:List V}(h:kC (lk .Timer) x):∃y,zdg x=some y:=UM h λ_ _ h=>KA h λ_ _ h=>KA h λ_ _ h=>KA h λ_ _ h=>SD _ h
def zsX{x:List V}(h:kC (lk .Client) x):∃y,zcF x=some y:=KA h λ_ _ h=>dB h λ_ _ h=>KA h λ_ _ h=>KA h λ_ _ h=>KA h λ_ _ h=>dB h λ_ _ h=>KA h λ_ _ h=>KA h λ_ _ h=>dB h λ_ _ h=>dB h λ_ _ h=>KA h λ_ _ h=>dB h λ_ _ h=>dB h λ_ _ h=>KA h λ_ _ h=>KA h λ_ _ h=>dB h λ_ _ h=>dB h λ_ _ h=>KA h λ_ _ h=>dB h λ_ _ h=>KA h λ_ _ h=>dB h λ_ _ h=>KA h λ_ _ h=>KA h λ_ _ h=>dB h λ_ _ h=>KA h λ_ _ h=>dB h λ_ _ h=>KA h λ_ _ h=>KA h λ_ _ h=>dB h λ_ _ h=>UM h λ_ _ h=>KA h λ_ _ h=>dB h λ_ _ h=>UM h λ_ _ h=>KA h λ_ _ h=>KA h λ_ _ h=>KA h λ_ _ h=>UM h λ_ _ h=>KA h λ_ _ h=>KA h λ_ _ h=>KA h λ_ _ h=>KA h λ_ _ h=>SD _ h
def zu7{x:List V}(h:kC (lk .Wire) x):∃y,zdO x=some y:=KA h λ_ _ h=>KA h λ_ _ h=>KA h λ_ _ h=>KA h λ_ _ h=>dB h λ_ _ h=>SD _ h
def zu0{x:List V}(h:kC (lk .Note) x):∃y,zdv x=some y:=KA h λ_ _ h=>KA h λ_ _ h=>KA h λ_ _ h=>dB h λ_ _ h=>dB h λ_ _ h=>KA h λ_ _ h=>KA h λ_ _ h=>dB h λ_ _ h=>dB h λ_ _ h=>KA h λ_ _ h=>KA h λ_ _ h=>KA h λ_ _ h=>SD _ h
def ztj{x:List V}(h:kC (lk .World) x):∃y,zc1 x=some y:=KA h λ_ _ h=>dB h λ_ _ h=>dB h λ_ _ h=>dB h λ_ _ h=>dB h λ_ _ h=>KA h λ_ _ h=>KA h λ_ _ h=>dB h λ_ _ h=>dB h λ_ _ h=>dB h λ_ _ h=>KA h λ_ _ h=>dB h λ_ _ h=>dB h λ_ _ h=>dB h λ_ _ h=>SD _ h
def zwy{x:List V}(h:kC (lk .Cur) x):∃y,zed x=some y:=dB h λ_ _ h=>KA h λ_ _ h=>KA h λ_ _ h=>SD _ h
def zwG{x:List V}(h:kC (lk .Out) x):∃y,zd7 x=some y:=KA h λ_ _ h=>KA h λ_ _ h=>KA h λ_ _ h=>KA h λ_ _ h=>dB h λ_ _ h=>dB h λ_ _ h=>KA h λ_ _ h=>dB h λ_ _ h=>dB h λ_ _ h=>KA h λ_ _ h=>KA h λ_ _ h=>dB h λ_ _ h=>dB h λ_ _ h=>SD _ h
def zvx{x:List V}(h:kC (lk .Form) x):∃y,zdE x=some y:=KA h λ_ _ h=>zmX h λ_ _ h=>SD _ h
def zvh{x:List V}(h:kC (lk .Hash) x):∃y,zdV x=some y:=dB h λ_ _ h=>dB h λ_ _ h=>KA h λ_ _ h=>SD _ h
def zkS(t:TN)(x:List V)(h:kC (lk t) x):∃y,oF t x=some y:=by
 cases t with
 | byte=>
  cases h with
  | cons h r=>
   obtain⟨a,h⟩:=h;cases r;refine⟨a,?_⟩;simp only[oF];rw[zaq h];rfl
 | int=>exact KA h λ_ _ h=>SD _ h
 | bool=>exact UM h λ_ _ h=>SD _ h
 | str=>exact zmX h λ_ _ h=>SD _ h
 | bs=>exact dB h λ_ _ h=>SD _ h
 | Addr=>exact zu9 h
 | Op=>exact zxe h
 | Event=>exact ztQ h
 | Jar=>exact zwg h
 | Dice=>exact zvs h
 | Win=>exact zvW h
 | Ep=>exact zw5 h
 | Chan=>exact zvg h
 | Cand=>exact zuA h
 | Paths=>exact ztT h
 | Sess=>exact zvz h
 | Tab=>exact zvC h
 | Credit=>exact zs9 h
 | Server=>exact zsI h
 | Frame=>exact ztC h
 | Timer=>exact zt0 h
 | Client=>exact zsX h
 | Wire=>exact zu7 h
 | Note=>exact zu0 h
 | World=>exact ztj h
 | Cur=>exact zwy h
 | Out=>exact zwG h
 | Form=>exact zvx h
 | Hash=>exact zvh h
end Go.D
namespace Go.D
variable [jA]
open Go.RowKit Go.ChangeShapes
section
variable {H:Type} {encH:TypeId×Value→H} {P:Program} {W:World}
def sJ:Nat→Option RI:=λ_=>none
def SG:Nat→Prop:=λ_=>False
def pI(P:Program)(tn:TypeId→Option TN):Nat→TypeId→Option (List LK)
 | 0,_=>none
 | d+1,t=>match P.underlying t with
  | some (.int .i64)=>some [.i]
  | some (.int .u8)=>some [.by]
  | some .bool=>some [.b]
  | some .string=>some [.s]
  | some (.slice e)=>(tn e).map λt=>[.l t]
  | some (.struct fs)=>(kindsF (pI P tn d) P 0 fs.toList).bind λks=>bif Nat.beq (P.cellsOf t) ks.length then some ks else none
  | _=>none
where
 kindsF (f:TypeId→Option (List LK)) (P:Program):Nat→List Field→Option (List LK)
  | _,[]=>some []
  | k,x :: xs=>bif Nat.beq x.offset k then
    match f x.type with
    | some ks=>bif Nat.beq (P.cellsOf x.type) ks.length then(kindsF f P (k+ks.length) xs).map λr=>ks++r else none
    | none=>none
   else none
structure IM(P:Program)(tn:TypeId→Option TN)(D:Nat):Prop where
 ok:∀e t,tn e=some t→pI P tn D e=some (lk t)∧P.cellsOf e=sz t
def vH(W:World)(cs:List Value)(vs:List V):Prop:=cs.length=vs.length∧∀j (hj:j<vs.length),VR W sJ SG (cs.getD j undef) vs[j]
def vH.one{c:Value}{v:V}(h:VR W sJ SG c v):vH W [c] [v]:=⟨rfl,λj hj=>by
 have:j=0:=by simp at hj;omega
 subst this;exact h⟩
def vH.app{a b:List Value}{x y:List V}(h:vH W a x)(k:vH W b y):vH W (a++b) (x++y):=by
 refine⟨by simp[h.1,k.1],λj hj=>?_⟩
 by_cases iX:j<x.length
 ·rw[List.getElem_append_left iX,zcE _ _ _ _ (by rw[h.1];exact iX)];exact h.2 j iX
 ·rw[List.getElem_append_right (by omega),zcH _ _ _ _ (by rw[h.1];omega),h.1];exact k.2 _ (by simp at hj;omega)
omit [jA]in
def zww{k:IntKind}{n:Int}(h:(Lit.int k n).wf=true):zE k n:=by
 simp only[Lit.wf,Bool.and_eq_true,decide_eq_true_eq]at h;exact h
omit [jA]in
def zf9{α β:Type}{f:α→Option β}:∀{l:List α} {r:List β},l.mapM f=some r→r.length=l.length∧∀i (hi:i<l.length) (hr:i<r.length),f l[i]=some r[i]
 | [],r,h=>by simp at h;subst h;exact⟨rfl,λi hi=>by simp at hi⟩
 | x :: l,r,h=>by
  rw[List.mapM_cons]at h;cases hx:f x with
  | none=>rw[hx]at h;simp at h
  | some y=>
   rw[hx]at h;cases hl:l.mapM f with
   | none=>rw[hl]at h;simp at h
   | some ys=>
    rw[hl]at h;simp at h;subst h;obtain⟨h1,h2⟩:=zf9 hl;refine⟨by simp[h1],λi hi hr=>?_⟩;cases i with
    | zero=>exact hx
    | succ i=>exact h2 i (by simpa using hi) (by simpa using hr)
omit [jA]in
def zjO{α:Type}{p:Nat→α→Prop}:∀(n:Nat),(∀i,i<n→∃x,p i x)→∃l:List α,l.length=n∧∀i (hi:i<l.length),p i l[i]
 | 0,_=>⟨[],rfl,λi hi=>by simp at hi⟩
 | n+1,h=>by
  obtain⟨l,h1,h2⟩:=zjO n (λi hi=>h i (by omega));obtain⟨x,hx⟩:=h n (by omega);refine⟨l++[x],by simp[h1],λi hi=>?_⟩
  grind
omit [jA]in
def zfY{a:Addr}{n:Nat}{cs:List Value}(h:W.cells? 0 a n=some cs):cs.length=n∧∀i (_:i<n),W.cell? (a.add i)=some (cs.getD i undef):=by
 simp only[World.cells?,Nat.zero_le,if_true]at h;obtain⟨h1,h2⟩:=zf9 h
 grind
variable (hB:W.heap.size≤jA.base)in
include hB in
theorem zdB{tn:TypeId→Option TN}{D:Nat}(hK:IM P tn D){sp:Nat→Bool}{oY:Bool}:∀(fuel:Nat) (T:TypeId) (cs:List Value) (x:DataW H×List MemPlace) (d:Nat) (ks:List LK),
  DataW.trod encH P W 0 sp oY fuel T cs=some x→pI P tn d T=some ks→∃vs,vH W cs vs∧kC ks vs
 | 0,T,cs,x,d,ks,h,hk=>by simp[DataW.trod]at h
 | fuel+1,T,cs,x,0,ks,h,hk=>by simp[pI]at hk
 | fuel+1,T,cs,x,d+1,ks,h,hk=>by
  have slice:∀e,P.underlying T=some (.slice e)→(tn e).map (λt=>[LK.l t])=some ks→∃vs,vH W cs vs∧kC ks vs:=λe hu hk=>by
   obtain⟨t,ht,hk⟩:=Option.map_eq_some_iff.1 hk;subst hk;obtain⟨kk,YV⟩:=hK.ok e t ht;cases cs with
   | nil=>simp[DataW.trod,hu]at h
   | cons v r=>
   cases r with
   | cons v2 r2=>cases v<;>simp[DataW.trod,hu]at h
   | nil=>
   have hv:∃ao len cap,v= .slice ao len cap:=by cases v<;>first | exact⟨_,_,_,rfl⟩ | simp[DataW.trod,hu]at h
   obtain⟨ao,len,cap,rfl⟩:=hv;cases ao with
   | none=>
    have hz:len=0∧cap=0:=by
     cases len<;>cases cap<;>simp[DataW.trod,hu]at h
     exact⟨rfl,rfl⟩
    obtain⟨rfl,rfl⟩:=hz;exact⟨[.nil],vH.one .nil, .cons ⟨[],rfl⟩ .nil⟩
   | some a=>
    simp only[DataW.trod,hu]at h;split at h
    case isFalse=>cases h
    rename_i T4;obtain⟨_,KV,I0⟩:=T4;obtain⟨elems,fZ,_⟩:=Option.bind_eq_some_iff.1 h;rw[YV]at fZ;obtain⟨m1,m2⟩:=zf9 fZ;simp at m1
    have one:∀i,i<len→∃y:El t,∃u:List Value,W.cells? 0 (a.add (i *sz t)) (sz t)=some u∧∀j (_:j<sz t),VR W sJ SG (u.getD j undef) ((enc t y).getD j .undef):=λi hi=>by
     have h1:=m2 i (by simpa using hi) (by omega);simp only[List.getElem_range]at h1;obtain⟨u,h2,h3⟩:=Option.bind_eq_some_iff.1 h1;obtain⟨vs,h4,h5⟩:=zdB hK fuel e u _ D (lk t) h3 kk;obtain⟨y,h6⟩:=zkS t vs h5;have h7:=MF t h6;refine⟨y,u,h2,λj hj=>?_⟩;have VW:j<(enc t y).length:=by rw[qD];exact hj
     have iX:j<vs.length:=by rw[h7.len];exact VW
     rw[List.getD_eq_getElem?_getD (l:=enc t y),List.getElem?_eq_getElem VW];exact VR.sub (h7.get j iX VW) (h4.2 j iX)
    obtain⟨l,o3,K0⟩:=zjO (p:=λi y=>∃u:List Value,W.cells? 0 (a.add (i *sz t)) (sz t)=some u∧∀j (_:j<sz t),VR W sJ SG (u.getD j undef) ((enc t y).getD j .undef)) len one;refine⟨[.sl t l],vH.one ?_, .cons ⟨l,by simp[WA,TN.cast]⟩ .nil⟩;cases l with
    | nil=>
     simp at o3;subst o3;exact .slE t _ cap I0
    | cons y0 l0=>
    -- there is a cell:the address is a plain one
    obtain⟨u0,E0,_⟩:=K0 0 (by simp);have Q3:=(zfY E0).2 0 (MO t)
    have R3:a.spot=none:=by
     simp only[World.cell?]at Q3;split at Q3
     ·simp only[Addr.add,Nat.zero_mul,if_true]at Q3;cases hs:a.spot with
      | none=>rfl
      | some _=>rw[hs]at Q3;simp at Q3
     ·cases Q3
    obtain⟨b,off,spot⟩:=a;simp only at R3;subst R3;subst o3
    refine .slC t _ b off cap (λi j=>(W.cell? (at_ b (off+i *sz t+j))).getD undef) (λh=>h) KV I0 (λ_=> .inl (Nat.lt_of_lt_of_le (DV (show W.cell? (at_ b (off+0 *sz t+0))=_ by
     have h:=Q3;rw[show(⟨b,off,none⟩:Addr)=at_ b off from rfl,tG,tG]at h;exact h)) hB)) (λi hi j hj=>?_) (λi hi j hj=>?_)
    ·obtain⟨u,h1,_⟩:=K0 i hi;have:=(zfY h1).2 j hj
     have e:((⟨b,off,none⟩:Addr).add (i *sz t)).add j=at_ b (off+i *sz t+j):=by
      show((at_ b off).add (i *sz t)).add j=_
      rw[tG,tG]
     rw[e]at this;rw[this];rfl
    ·obtain⟨u,h1,h2⟩:=K0 i hi;have:=(zfY h1).2 j hj
     have e:((⟨b,off,none⟩:Addr).add (i *sz t)).add j=at_ b (off+i *sz t+j):=by
      show((at_ b off).add (i *sz t)).add j=_
      rw[tG,tG]
     rw[e]at this;rw[this];exact h2 j hj
  simp only[pI]at hk;cases hu:P.underlying T with
  | none=>rw[hu]at hk;cases hk
  | some td=>
   rw[hu]at hk;cases td with
   | int k=>
    cases cs with
    | nil=>simp[DataW.trod,hu]at h
    | cons v r=>
    cases r with
    | cons v2 r2=>cases v<;>simp[DataW.trod,hu]at h
    | nil=>
    cases v with
    | int k' n=>
     simp only[DataW.trod,hu]at h;split at h
     case isFalse=>cases h
     rename_i T4;obtain⟨rfl,hw⟩:=T4;have hf:=zww hw;refine⟨[.int k' n],vH.one (.int _ _ hf),?_⟩;cases k'<;>simp at hk<;>subst hk
     ·exact .cons ⟨n,rfl⟩ .nil
     ·exact .cons ⟨_,rfl⟩ .nil
    | _=>simp[DataW.trod,hu]at h
   | bool=>
    cases cs with
    | nil=>simp[DataW.trod,hu]at h
    | cons v r=>
    cases r with
    | cons v2 r2=>cases v<;>simp[DataW.trod,hu]at h
    | nil=>
    cases v with
    | bool b=>
     simp at hk;subst hk;exact⟨[.bool b],vH.one (.bool _), .cons ⟨b,rfl⟩ .nil⟩
    | _=>simp[DataW.trod,hu]at h
   | string=>
    cases cs with
    | nil=>simp[DataW.trod,hu]at h
    | cons v r=>
    cases r with
    | cons v2 r2=>cases v<;>simp[DataW.trod,hu]at h
    | nil=>
    cases v with
    | string s=>
     simp only[DataW.trod,hu]at h;split at h
     case isFalse=>cases h
     rename_i hs;simp at hk;subst hk;refine⟨[.str s.data.toList],vH.one ?_, .cons ⟨_,rfl⟩ .nil⟩
     have E5:s.data.toList.length≤maxLen:=by
      rw[Array.length_toList];exact hs
     exact VR.str (w:=W) (ρ:=sJ) (bad:=SG) s.data.toList E5
    | _=>simp[DataW.trod,hu]at h
   | slice e=>exact slice e hu hk
   | struct fs=>
    unfold DataW.trod at h;rw[hu]at h;simp only at h;split at h
    case isFalse=>cases h
    rename_i KV;obtain⟨xs,F5,_⟩:=Option.map_eq_some_iff.1 h;clear h slice
    -- the fields
    have go:∀(l:List Field) (k:Nat) (ks:List LK) (xs:List (DataW H×List MemPlace)),pI.kindsF (pI P tn d) P k l=some ks→
      l.mapM (λf=>DataW.trod encH P W 0 sp oY fuel f.type ((cs.drop f.offset).take (P.cellsOf f.type)))=some xs→
      ∃vs,kC ks vs∧k+vs.length≤max k cs.length∧vH W ((cs.drop k).take vs.length) vs:=by
     intro l;induction l with
     | nil=>
      intro k ks xs hk _;simp[pI.kindsF]at hk;subst hk;exact⟨[], .nil,by simp;omega,by simp,λj hj=>by simp at hj⟩
     | cons f l ih=>
      intro k ks xs hk hx;simp only[pI.kindsF]at hk;cases hb:Nat.beq f.offset k
      case false=>simp[hb]at hk
      have zY:=Nat.eq_of_beq_eq_true hb;simp only[hb,cond_true]at hk;split at hk
      case h_2=>cases hk
      rename_i k0 JZ;cases E2:Nat.beq (P.cellsOf f.type) k0.length
      case false=>simp[E2]at hk
      have R1:=Nat.eq_of_beq_eq_true E2;simp only[E2,cond_true]at hk;obtain⟨r,hr,rfl⟩:=Option.map_eq_some_iff.1 hk;rw[List.mapM_cons]at hx;cases h0:DataW.trod encH P W 0 sp oY fuel f.type ((cs.drop f.offset).take (P.cellsOf f.type))with
      | none=>rw[h0]at hx;simp at hx
      | some y=>
       rw[h0]at hx;cases h1:l.mapM (λf=>DataW.trod encH P W 0 sp oY fuel f.type ((cs.drop f.offset).take (P.cellsOf f.type)))with
       | none=>rw[h1]at hx;simp at hx
       | some ys=>
        obtain⟨v0,g1,g2⟩:=zdB hK fuel f.type _ y d k0 h0 JZ;have yX:v0.length=k0.length:=g2.len.symm;rw[←zY]at hr⊢;obtain⟨vs,e1,e2,e3⟩:=ih (f.offset+k0.length) r ys hr h1;have Y1:=g1.1;rw[R1]at Y1 g1;simp only[List.length_take,List.length_drop]at Y1;refine⟨v0++vs,g2.app e1,by simp;omega,?_⟩
        have es:(cs.drop f.offset).take (v0++vs).length=(cs.drop f.offset).take k0.length++(cs.drop (f.offset+k0.length)).take vs.length:=by
         rw[List.length_append,yX,List.take_add,List.drop_drop]
        rw[es];exact g1.app e3
    obtain⟨ks',SZ,IV⟩:=Option.bind_eq_some_iff.1 hk;cases hb:Nat.beq (P.cellsOf T) ks'.length
    case false=>simp[hb]at IV
    have R1:=Nat.eq_of_beq_eq_true hb;simp only[hb,cond_true,Option.some.injEq]at IV;subst IV;obtain⟨vs,e1,e2,e3⟩:=go fs.toList 0 ks' xs SZ F5;have hvl:vs.length=cs.length:=by rw[←e1.len,KV,R1]
    refine⟨vs,?_,e1⟩;rw[List.drop_zero,List.take_of_length_le (by omega)]at e3;exact e3
   | _=>simp at hk
def zaF(P:Program)(tn:TypeId→Option TN)(D:Nat)(T:TypeId):Ty→Bool
 | .v t=>(match P.underlying T with
   | some (.struct _)=>t.isAgg
   | some (.int _) | some .bool | some .string=>!t.isAgg
   | _=>false)&&decide (pI P tn D T=some (lk t))
 | .sl t=>(match P.underlying T with
   | some (.slice _)=>true
   | _=>false)&&decide (pI P tn D T=some [.l t])
 | _=>false
variable (hB:W.heap.size≤jA.base)in
include hB in
theorem zwV{tn:TypeId→Option TN}{D:Nat}(hK:IM P tn D){sp:Nat→Bool}{oY:Bool}{T:TypeId}{ty:Ty}(KZ:zaF P tn D T ty=true){v:Value}{d:DataW H}{ps:List MemPlace}
  (h:DataW.Trod encH P W 0 sp oY T v d ps) {r:Reach} {b:Nat} (hw:Value.okWide P W r b T v):∃x:ty.T,VR W sJ SG v (YC ty x)∧oE ty (YC ty x)=some x:=by
 obtain⟨fuel,h⟩:=h
 -- a value of one cell
 have J0:(∀fs,P.underlying T≠some (.struct fs))→(∀n e,P.underlying T≠some (.array n e))→v.cells.toList=[v]:=λh1 h2=>by
  unfold Value.okWide at hw;split at hw
  ·rename_i fs hu;exact absurd hu (h1 _)
  ·rename_i hu;exact absurd hu (h2 _ _)
  ·cases v with
   | agg cs=>
    exfalso;unfold Cell.okWide at hw;split at hw<;>simp_all[Cell.ok]
   | _=>rfl
 cases ty with
 | v t=>
  simp only[zaF,Bool.and_eq_true,decide_eq_true_eq]at KZ;obtain⟨vs,h1,h2⟩:=zdB hB hK fuel T _ _ D _ h KZ.2;obtain⟨x,hx⟩:=zkS t vs h2;have hs:=MF t hx
  have hd:oF t (enc t x)=some x:=by
   cases t<;>first | rfl | (simp[oF,enc,tk,vT,cC];done)
  refine⟨x,?_⟩;have ZV:∀j (hj:j<(enc t x).length),VR W sJ SG (v.cells.toList.getD j undef) (enc t x)[j]:=λj hj=>VR.sub (hs.get j (by rw[hs.len];exact hj) hj) (h1.2 j (by rw[hs.len];exact hj));cases AW:t.isAgg
  ·obtain⟨c,hc⟩:=zlT t AW x
   have hv:v.cells.toList=[v]:=by
    refine J0 (λfs hu=>?_) (λn e hu=>?_)
    ·rw[hu]at KZ;simp[AW]at KZ
    ·rw[hu]at KZ;simp at KZ
   have he:YC (.v t) x=c:=by simp[YC,uK,AW,hc]
   rw[he];have h0:=ZV 0 (by rw[hc];simp);simp only[hv,hc,List.getElem_cons_zero]at h0;refine⟨h0,?_⟩;rw[hc]at hd;cases c<;>first | (simp only[oE,AW,cond_false];exact hd) | skip
   exfalso;have:=zk0 t x;rw[hc]at this;simp[V.leaf]at this
  ·have hu:∃fs,P.underlying T=some (.struct fs):=by
    revert KZ
    cases P.underlying T with
    | none=>simp
    | some td=>cases td<;>simp[AW]
   obtain⟨fs,hu⟩:=hu;unfold Value.okWide at hw;rw[hu]at hw;obtain⟨cs,rfl,YV,_⟩:=hw;have he:YC (.v t) x= .agg (enc t x):=by simp[YC,uK,AW]
   rw[he];refine⟨.agg _ _ ?_ λj hj=>?_,by simp only[oE,AW,cond_true];exact hd⟩
   ·have:=h1.1;simp only[Value.cells,Array.length_toList]at this;rw[this,hs.len]
   ·have:=ZV j hj;simp only[Value.cells]at this;rw[Array.getD_eq_getD_getElem?];rw[List.getD_eq_getElem?_getD]at this;simpa using this
 | sl t=>
  simp only[zaF,Bool.and_eq_true,decide_eq_true_eq]at KZ;obtain⟨vs,h1,h2⟩:=zdB hB hK fuel T _ _ D _ h KZ.2;obtain⟨c,r,rfl,⟨l,hl⟩,hr⟩:=h2.take;cases hr
  have hv:v.cells.toList=[v]:=by
   refine J0 (λfs hu=>?_) (λn e hu=>?_)
   ·rw[hu]at KZ;simp at KZ
   ·rw[hu]at KZ;simp at KZ
  refine⟨l,?_,by simp[oE,YC,WA,TN.cast]⟩;have h0:=h1.2 0 (by simp);simp only[hv]at h0;exact VR.sub (YA hl) h0
 | _=>simp[zaF]at KZ
def YM(P:Program)(tn:TypeId→Option TN)(D:Nat):List TypeId→List Ty→Bool
 | [],[]=>true
 | T :: Ts,t :: ts=>zaF P tn D T t&&YM P tn D Ts ts
 | _,_=>false
variable (hB:W.heap.size≤jA.base)in
include hB in
theorem zlU{tn:TypeId→Option TN}{D:Nat}(hK:IM P tn D){sp:Nat→Bool}{oY:Bool}{r:Reach}{b:Nat}:∀(Ts:List TypeId) (ats:List Ty) (vs:List Value) (ds:List (DataW H)) (ps:List MemPlace),
  YM P tn D Ts ats=true→DataW.TrodAll encH P W 0 sp oY Ts vs ds ps→(∀(j:Nat) t v,Ts[j]?=some t→vs[j]?=some v→Value.okWide P W r b t v)→
  vs.length=ats.length∧∃x:fB ats,yD ats (iB ats x)=some x∧(iB ats x).length=ats.length∧∀j (hj:j<(iB ats x).length),VR W sJ SG (vs.getD j undef) (iB ats x)[j]
 | [],[],vs,ds,ps,_,h,_=>by
  cases vs<;>cases ds<;>simp[DataW.TrodAll]at h
  exact⟨rfl,(),rfl,rfl,λj hj=>by simp[iB]at hj⟩
 | [],_ :: _,vs,ds,ps,ht,_,_=>by simp[YM]at ht
 | _ :: _,[],vs,ds,ps,ht,_,_=>by simp[YM]at ht
 | T :: Ts,t :: ts,vs,ds,ps,ht,h,hw=>by
  simp only[YM,Bool.and_eq_true]at ht;obtain⟨v,vs',d,ds',p,q,rfl,rfl,rfl,h0,h1⟩:=ChangeShapes.trodAll_cons h;obtain⟨x0,k1,k2⟩:=zwV hB hK ht.1 h0 (hw 0 T v rfl rfl);obtain⟨e1,y,e2,e3,e4⟩:=zlU hK Ts ts vs' ds' q ht.2 h1 (λj t v h1 h2=>hw (j+1) t v h1 h2);refine⟨by simp[e1],?_⟩;cases ts with
  | nil=>
   refine⟨x0,by simpa[yD,iB]using k2,rfl,λj hj=>?_⟩;have:j=0:=by simp[iB]at hj;omega
   subst this;exact k1
  | cons d r=>
   refine⟨(x0,y),?_,by simp[iB]at e3⊢;exact e3,λj hj=>?_⟩
   ·simp only[yD,iB];rw[k2];simp only[Option.bind_some];rw[e2];rfl
   ·cases j with
    | zero=>exact k1
    | succ j=>exact e4 j (by simpa[iB]using hj)
def fE(n:Nat):List sB:=List.replicate n .plain
omit [jA]in
def zkm:∀(n k:Nat) (as:List V),as.length=n→VB (fE n) k as=as∧EA (fE n) k as=λ_=>none
 | 0,k,[],_=>⟨rfl,rfl⟩
 | 0,k,_ :: _,h=>by simp at h
 | n+1,k,[],h=>by simp at h
 | n+1,k,a :: as,h=>by
  obtain⟨h1,h2⟩:=zkm n (k+1) as (by simpa using h);refine⟨?_,?_⟩
  ·show a :: VB (fE n) (k+1) as=_;rw[h1]
  ·show EA (fE n) (k+1) as=_;exact h2
def ztZ(hB:jA.base=W.heap.size){tn:TypeId→Option TN}{D:Nat}(hK:IM P tn D){f:Nat}{ats:List Ty}{F:fB ats→Option Bool}{n:Nat}
  {g:Gl} (hg:g.p W) (hc:yB P f ⟨fE n,fB ats,fB [.v .bool],yD ats,F,wE [.v .bool],[(false,1)],[],false⟩ g) (hn:ats.length=n) (hF:∀x,F x=some true) {Ts:List TypeId} (ht:YM P tn D Ts ats=true)
  {sp:Nat→Bool} {oY:Bool} {r:Reach} {b:Nat} {args:Array Value} {ds:List (DataW H)} {ps:List MemPlace} (h:DataW.TrodAll encH P W 0 sp oY Ts args.toList ds ps)
  (hw:∀(j:Nat) t v,Ts[j]?=some t→args[j]?=some v→Value.okWide P W r b t v) (L4:(callFunc f args).run P W= .ok (.enter f args) W):
  Calls P f args W λe W'=>e= .returned (.bool true)∧Below W.heap.size W W':=by
 obtain⟨h1,x,h2,h3,h4⟩:=zlU (Nat.le_of_eq hB.symm) hK Ts ats args.toList ds ps ht h (λj t v h5 h6=>hw j t v h5 (by simpa using h6));have KV:(iB ats x).length=n:=by rw[h3,hn]
 obtain⟨e1,e2⟩:=zkm n 0 (iB ats x) KV;have hp:(fE n).length=n:=by simp[fE]
 have mW:∀b,uA SG sJ (EA (fE n) 0 (iB ats x)) b→SG b:=by
  rintro b (h | ⟨q,row,ri,h,_⟩)
  ·exact h
  ·rw[e2]at h;cases h
 have hemp:∀h:Nat→Option vA,h=(λ_=>none)→rB W SG SG sJ h W:=λh he=>by
  subst he;exact⟨Wx.refl _,λ_ _ _=>rfl,λb hb=>hb.elim,λr row hr=>(by cases hr),λq q' row row' qi qi' hq=>(by cases hq)⟩
 have G:=hc W args (iB ats x) SG SG sJ x true 0 [] (by simp at h1;rw[hp];omega) (by rw[e1,hp,KV])
  (hemp (EA (fE n) 0 (iB ats x)) e2)
  (fun j hj=>by
   have VW:j<(iB ats x).length:=by rw[←e1];exact hj
   have h5:=h4 j VW;have h6:(VB (fE n) 0 (iB ats x))[j]=(iB ats x)[j]:=by simp only[e1]
   rw[h6];rw[Array.getD_eq_getD_getElem?];rw[List.getD_eq_getElem?_getD]at h5;rw[Array.getElem?_toList]at h5;exact h5.mono (λ_ _ h=>h) (λ_ _ _=>rfl) λb hb=> .inl (mW b hb))
  (λ_ _=>rfl) (by simp) (λb hb=>by simp at hb) h2 (hF x) (by simp[wE,zec,enc]) ⟨hg,λ_ _ h=>h,Nat.le_of_eq hB,λ_ _ h=>h⟩
 rcases G with⟨_,G⟩ | ⟨v,w',G,_⟩
 ·refine Calls.mono' G λe w' ⟨v,he,ρ',g1,g2,_⟩=>?_;subst he;refine⟨?_,g1.wx.os,g1.wx.tape,g1.wx.output,g1.wx.size,λk hk=>g1.old k hk λh=>h⟩;have g3:VR w' ρ' (uA SG ρ' (sE ⟨fE n,fB ats,fB [.v .bool],yD ats,F,wE [.v .bool],[(false,1)],[],false⟩ (iB ats x) [] 0 (wE [.v .bool] true))) v (.bool true):=g2;cases g3;rfl
 ·rw[L4]at G;cases G
omit [jA]in
def zrF{W W':World}(hb:Below W.heap.size W W'){b off:Nat}(h:b<W.heap.size):W'.frozen? ⟨b,off,none⟩=W.frozen? ⟨b,off,none⟩:=by
 simp only[World.frozen?,hb.block b h]
omit [jA]in
def zjf(hl:laidOutB P=true){W':World}(hb:Below W.heap.size W W'){sp':Nat→Bool}:∀(ts:List TypeId) (vs:List Value) (ds:List (DataW H)) (ps:List MemPlace),
  (∀t∈ts,P.readableRec t=true∧t<P.types.size)→DataW.TrodAll encH P W 0 (λ_=>true) true ts vs ds ps→(∀x∈ps,x.block<W.heap.size)→(∀x∈ps,sp' x.block=true)→DataW.TrodAll encH P W' 0 sp' true ts vs ds ps
 | [],vs,ds,ps,hr,h,MV,hs=>by
  cases vs<;>cases ds<;>simp[DataW.TrodAll]at h⊢
  exact h
 | t :: ts,vs,ds,ps,hr,h,MV,hs=>by
  obtain⟨v,vs',d,ds',p,q,rfl,rfl,rfl,h0,h1⟩:=ChangeShapes.trodAll_cons h
  refine⟨p,q,WideElems.Trod_stays hl (hr t (by simp)).1 (hr t (by simp)).2 h0 (λx hx=>hb.same (MV x (by simp[hx]))) (λx hx=>hs x (by simp[hx])),
   zjf hl hb ts vs' ds' q (λt ht=>hr t (List.mem_cons_of_mem _ ht)) h1 (λx hx=>MV x (by simp[hx])) (λx hx=>hs x (by simp[hx])),rfl⟩
omit [jA]in
def zu6(hl:laidOutB P=true){f:Func}{s:ChangeSpec}{apart fresh rX again:Bool}{W':World}{args:Array Value}{ds gs:List (DataW H)}{before:List MemPlace}
  (Y6:∀t∈f.params.toList,P.readableRec t=true∧t<P.types.size) (WX:s.vars=[]) (hW:DataW.Whole encH P f.params.toList s.vars apart W args.toList ds gs before) (hb:Below W.heap.size W W')
  {T:TypeId} (hT:f.resultTypes= #[T]) (wY:P.underlying T=some .bool) (RY:s.fn H (ds++gs)={results:=[.lit (.bool true)],args:=ds}):
  s.post encH P f apart fresh rX again W args (.bool true) W':=by
 obtain⟨p,q,h1,h2,rfl,h3,h4⟩:=id hW;rw[WX]at h2;have hq:gs=[]∧q=[]:=by cases gs<;>simp[DataW.TrodVars]at h2;exact⟨rfl,h2⟩
 obtain⟨rfl,rfl⟩:=hq;have MV:∀x∈p,x.block<W.heap.size:=λx hx=>hW.lt x (by simp[hx])
 have DW:∀sp:Nat→Bool,(∀x∈p,sp x.block=true)→DataW.TrodAll encH P W' 0 sp true f.params.toList args.toList (s.fn H (ds++[])).args p:=λsp hs=>by
  rw[RY];exact zjf hl hb _ _ _ _ Y6 h1 MV hs
 have DX:∀(b:Nat) (sp:Nat→Bool) (hd:Bool),DataW.TrodAll encH P W' b sp hd f.resultTypes.toList ((Value.bool true).resultList f.resultTypes.size) (s.fn H (ds++[])).results []:=λb sp hd=>by
  rw[RY,hT];refine⟨[],[],RowKit.shut_bool wY _,rfl,rfl⟩
 have GX:∀sp:Nat→Bool,DataW.TrodVars encH P W' sp s.vars (s.fn H (ds++[])).vars []:=λsp=>by
  rw[RY,WX];rfl
 have UZ:∀x∈p,(λb=>decide (b<W.heap.size)) x.block=true:=λx hx=>by simpa using MV x hx
 refine⟨ds,[],p++[],[],p,[],hW,DX _ _ _,DW _ UZ,GX _,?_,λ_=>⟨?_,_,_,([]++p)++[],⟨[]++p,[],trodAll_append (DW _ (λ_ _=>rfl)) (DX _ _ _),GX _,rfl,?_,?_⟩,?_⟩⟩
 ·refine⟨hb.os,hb.output,λi hi=>?_⟩;rw[hb.block i hi];exact(World.keptBut_refl W (λx=>x∈p++[]∧(x∈[]∨x∈p∨x∈[]))).2.2 i hi
 ·exact ok_one hT rfl (okWide_bool_mk wY _)
 ·intro c off hp;have T9:MemPlace.cell c off∈p++[]:=by simpa using hp
  have:=MV (.cell c off) (by simpa using T9);rw[zrF (b:=c) (off:=off) hb this];exact h3 c off T9
 ·intro ha;have:=h4 ha;simpa using this
 ·intro x hx _;simpa using hx
omit [jA]in
def zvp {f : Nat} {fn : Func} {body : Code} (hf : P.funcs[f]? = some fn) (hb : fn.body = some body) (KW : (fn.name == "runtime.NumGoroutine") = false) (args : Array Value) :
  (callFunc f args).run P W= .ok (.enter f args) W:=by
 have VX : ¬ fn.name = "runtime.NumGoroutine" := by simpa using KW
 simp[callFunc,program,hf,hb,VX,Sem.run]
omit [jA]in
def zvd{g:Gl}(hg:g.p W){tn:TypeId→Option TN}{D:Nat}(hK:IM P tn D){f:Nat}{fn:Func}{body:Code}{ats:List Ty}{F:fB ats→Option Bool}{n:Nat}
  {tns:TypeId→Option TN} (hc:∀m:Nat,@yB ⟨tns,m⟩ P f ⟨fE n,fB ats,fB [.v .bool],yD ats,F,wE [.v .bool],[(false,1)],[],false⟩ g) (hn:ats.length=n) (hF:∀x,F x=some true)
  (hf : P.funcs[f]? = some fn) (hb : fn.body = some body) (KW : (fn.name == "runtime.NumGoroutine") = false) (ht : YM P tn D fn.params.toList ats = true)
  (hl:laidOutB P=true) (Y6:(fn.params.toList.all λt=>P.readableRec t&&Nat.blt t P.types.size)=true) {T:TypeId} (hT:fn.resultTypes= #[T]) (wY:P.underlying T=some .bool)
  {s:ChangeSpec} (WX:s.vars=[]) {apart fresh rX again:Bool} {args:Array Value} {ds gs:List (DataW H)} {before:List MemPlace} {r:Reach} {b:Nat}
  (hW:DataW.Whole encH P fn.params.toList s.vars apart W args.toList ds gs before) (RY:gs=[]→s.fn H (ds++gs)={results:=[.lit (.bool true)],args:=ds})
  (mZ:∀(j:Nat) t v,fn.params[j]?=some t→args[j]?=some v→Value.okWide P W r b t v):
  Calls P f args W λe W'=>∃v,e= .returned v∧s.post encH P fn apart fresh rX again W args v W':=by
 obtain⟨p,q,h1,h2,h3⟩:=id hW
 have hgs:gs=[]:=by
  rw[WX]at h2;cases gs
  ·rfl
  ·simp[DataW.TrodVars]at h2
 letI:jA:=⟨tns,W.heap.size⟩
 refine Calls.mono' (ztZ rfl hK hg (hc W.heap.size) hn hF ht h1 (λj t v h5 h6=>mZ j t v (by simpa using h5) h6) (zvp hf hb KW args)) λe W' ⟨he,hb⟩=>⟨_,he,zu6 hl (λt ht=>?_) WX hW hb hT wY (RY hgs)⟩;have:=List.all_eq_true.1 Y6 t ht;simpa using this
omit [jA]in
def zv7{tn:TypeId→Option TN}{D:Nat}(hK:IM P tn D){f:Nat}{fn:Func}{body:Code}{ats:List Ty}{F:fB ats→Option Bool}{n:Nat}
  {tns:TypeId→Option TN} (hc:∀m:Nat,@yB ⟨tns,m⟩ P f ⟨fE n,fB ats,fB [.v .bool],yD ats,F,wE [.v .bool],[(false,1)],[],false⟩ FL) (hn:ats.length=n) (hF:∀x,F x=some true)
  (hf : P.funcs[f]? = some fn) (hb : fn.body = some body) (KW : (fn.name == "runtime.NumGoroutine") = false) (ht : YM P tn D fn.params.toList ats = true)
  (hl:laidOutB P=true) (Y6:(fn.params.toList.all λt=>P.readableRec t&&Nat.blt t P.types.size)=true) {T:TypeId} (hT:fn.resultTypes= #[T]) (wY:P.underlying T=some .bool)
  {s:ChangeSpec} (WX:s.vars=[]) {apart fresh rX again:Bool} {args:Array Value} {ds gs:List (DataW H)} {before:List MemPlace} {r:Reach} {b:Nat}
  (hW:DataW.Whole encH P fn.params.toList s.vars apart W args.toList ds gs before) (RY:gs=[]→s.fn H (ds++gs)={results:=[.lit (.bool true)],args:=ds})
  (mZ:∀(j:Nat) t v,fn.params[j]?=some t→args[j]?=some v→Value.okWide P W r b t v):
  Calls P f args W λe W'=>∃v,e= .returned v∧s.post encH P fn apart fresh rX again W args v W':=
 zvd (g:=FL) trivial hK hc hn hF hf hb KW ht hl Y6 hT wY WX hW RY mZ
end
end Go.D

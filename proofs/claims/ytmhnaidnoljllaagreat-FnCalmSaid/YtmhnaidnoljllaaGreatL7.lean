/-
 A body's end: what the function gives.
-/
import Derived.Test.YtmhnaidnoljllaaGreatL6
import Derived.Test.YtmhnaidnoljllaaGreatL5
import Derived.Carry
import Derived.WideKeyArgs
import Derived.ChangeSame
set_option linter.all false
namespace Go.D
variable [jA]
omit [jA]in
def OB.app{a b c d:List V}(h:OB a b)(k:OB c d):OB (a++c) (b++d):=by
 induction h with
 | nil=>exact k
 | cons h1 _ ih=>exact .cons h1 ih
omit [jA]in
def zhI(t:Ty)(vs:List V)(x:t.T×List V)(h:vH t vs=some x):∃us,vs=us++x.2∧OB us (zcZ t x.1):=by
 cases t with
 | v t=>
  simp only[vH]at h;obtain⟨a,h1,h2⟩:=Option.bind_eq_some_iff.1 h;cases h2;exact⟨_,(List.take_append_drop _ _).symm,xF t h1⟩
 | cells t=>
  simp only[vH]at h;obtain⟨a,h1,h2⟩:=Option.bind_eq_some_iff.1 h;cases h2;exact⟨_,(List.take_append_drop _ _).symm,xF t h1⟩
 | sl t=>
  cases vs with
  | nil=>simp[vH]at h
  | cons v vs=>
   simp only[vH]at h;obtain⟨a,h1,h2⟩:=Option.bind_eq_some_iff.1 h;cases h2;exact⟨[v],rfl, .cons (UA h1) .nil⟩
 | raw=>
  cases vs with
  | nil=>simp[vH]at h
  | cons v vs=>simp only[vH,Option.some.injEq]at h;subst h;exact⟨[v],rfl, .cons (.refl _) .nil⟩
 | pt=>simp[vH]at h
 | c1=>simp[vH]at h
 | p1=>simp[vH]at h
 | c2=>simp[vH]at h
omit [jA]in
def zeu:∀(ts:List Ty) (vs:List V) (x:aB ts),VI ts vs=some x→OB vs (iE ts x)
 | [],[],x,h=> .nil
 | [],_ :: _,x,h=>by simp[VI]at h
 | [t],vs,x,h=>by
  simp only[VI]at h;obtain⟨y,h1,h2⟩:=Option.bind_eq_some_iff.1 h;obtain⟨us,h3,h4⟩:=zhI t vs y h1;split at h2
  ·rename_i h5;cases h2;rw[h5,List.append_nil]at h3;subst h3;exact h4
  ·cases h2
 | t :: d :: r,vs,x,h=>by
  simp only[VI]at h;obtain⟨y,h1,h2⟩:=Option.bind_eq_some_iff.1 h;obtain⟨z,h3,h4⟩:=Option.bind_eq_some_iff.1 h2;cases h4;obtain⟨us,h5,h6⟩:=zhI t vs y h1;rw[h5];exact h6.app (zeu (d :: r) _ z h3)
section
variable {C:Cx} {w0:World} {outer own D:Nat→Prop} {R:Type} {st st1 st2:St} {ρ ρ1 ρ2:Nat→Option RI} {a a1 a2:Act} {w w1 w2:World} {j:JI}
omit [jA]in
def zi3(an:An):∀c:Code,kI an (λ_=>True) c:=by
 have jd:∀o,JD (λ_=>True) o:=λo=>by cases o<;>simp[JD]
 intro c;induction c with
 | region id ops d=>exact⟨λ_ _ _ _=>trivial,jd _⟩
 | seq x y hx hy=>exact⟨hx,hy⟩
 | cond c x y hx hy=>cases c<;>first | exact⟨hx,hy,jd _⟩ | exact⟨hx,hy⟩
 | block id x hx=>exact⟨hx,jd _⟩
 | loop x hx=>
  refine⟨hx,?_⟩;split
  ·exact jd _
  ·trivial
 | scope x hx=>exact hx
 | _=>trivial
omit [jA]in
def zaX(ow:List Nat)(B:Nat)(e:V)(es:List V)(p q:Nat)(h:q≠p):XA ow B (λ_=>none) p (e :: es) (B+q)=XA ow B (λ_=>none) (p+1) es (B+q):=by
 cases e<;>simp only[XA]
 cases hb:ow.any (Nat.beq p)
 ·rfl
 ·simp only[cond_true];rw[BA _ _ _ _ (by omega)]
omit [jA]in
def zeW(ow:List Nat)(B:Nat):∀(cs es:List V) (p q:Nat) (row:sA),OB cs es→XA ow B (λ_=>none) p es (B+q)=some row→
  XA ow B (λ_=>none) p cs (B+q)=some row∨(XA ow B (λ_=>none) p cs (B+q)=none∧∃t,row=⟨.arr t [], .own⟩)
 | [],_,p,q,row,hs,h=>by cases hs;simp[XA]at h
 | c :: cs,_,p,q,row,hs,h=>by
  cases hs with
  | cons lY nX=>
  rename_i e es
  by_cases hq:q=p
  ·subst hq;cases lY with
   | refl=>
    have hn:∀l:List V,XA ow B (λ_=>none) (q+1) l (B+q)=none:=λl=>ND _ _ _ _ _ (by omega);left;cases c<;>simp only[XA]at h⊢ <;>try (rw[hn]at h;cases h)
    cases hb:ow.any (Nat.beq q)
    ·simp only[hb,cond_false]at h;rw[hn]at h;cases h
    ·simp only[hb,cond_true,MA]at h⊢;exact h
   | byte n=>simp only[XA]at h;rw[ND _ _ _ _ _ (by omega)]at h;cases h
   | nil t=>
    right;simp only[XA]at h⊢;refine⟨ND _ _ _ _ _ (by omega),?_⟩;cases hb:ow.any (Nat.beq q)
    ·simp only[hb,cond_false]at h;rw[ND _ _ _ _ _ (by omega)]at h;cases h
    ·simp only[hb,cond_true,MA]at h;cases h;exact⟨t,rfl⟩
  ·rw[zaX _ _ _ _ _ _ hq]at h⊢;exact zeW ow B cs es (p+1) q row nX h
def zeO(ow:List Nat)(B:Nat){bad bad2:Nat→Prop}{ρ2:Nat→Option RI}(hk:∀u d,VR w ρ bad u d→VR w ρ2 bad2 u d):∀(cs es:List V) (p:Nat) (u:Nat→Value),OB cs es→
  (∀q t,p≤q→XA ow B (λ_=>none) p cs (B+q)=none→XA ow B (λ_=>none) p es (B+q)=some ⟨.arr t [], .own⟩→ρ2 (B+q)=some ⟨0,0,0,true⟩)→
  (∀j (hj:j<(NA ow B p cs).length),VR w ρ bad (u j) (NA ow B p cs)[j])→∀j (hj:j<(NA ow B p es).length),VR w ρ2 bad2 (u j) (NA ow B p es)[j]
 | [],_,p,u,hs,hn,hv,j,hj=>by cases hs;simp[NA]at hj
 | c :: cs,_,p,u,hs,hn,hv,j,hj=>by
  cases hs with
  | cons lY nX=>
  rename_i e es;have hd:∀(c:V) (cs:List V),∃c',NA ow B p (c :: cs)=c' :: NA ow B (p+1) cs:=λc cs=>by cases c<;>exact⟨_,rfl⟩
  obtain⟨c',HY⟩:=hd c cs;obtain⟨e',eX⟩:=hd e es
  have A2:∀j (hj:j<(c' :: NA ow B (p+1) cs).length),VR w ρ bad (u j) (c' :: NA ow B (p+1) cs)[j]:=λj hj=>by
   have:=hv j (by rw[HY];exact hj);simpa only[HY]using this
  have ih:=zeO ow B hk cs es (p+1) (λj=>u (j+1)) nX (λq t h1 h2 h3=>hn q t (by omega) (by rw[zaX _ _ _ _ _ _ (by omega)];exact h2) (by rw[zaX _ _ _ _ _ _ (by omega)];exact h3))
   (λj hj=>by have:=A2 (j+1) (by simp;omega);simpa using this)
  have dX:=A2 0 (by simp);simp only[List.getElem_cons_zero]at dX
  have goal0:VR w ρ2 bad2 (u 0) e':=by
   cases lY with
   | refl=>
    have:e'=c':=by
     have h1:=congrArg List.head? HY;have h2:=congrArg List.head? eX;cases c<;>simp[NA]at h1 h2<;>rw[←h1, ←h2]
    rw[this];exact hk _ _ dX
   | byte n=>
    have h1:=congrArg List.head? HY;have h2:=congrArg List.head? eX;simp only[NA,List.head?_cons,Option.some.injEq]at h1 h2;subst h1;subst h2;exact hk _ _ (VR.sub (.byte n) dX)
   | nil t=>
    have h1:=congrArg List.head? HY;have h2:=congrArg List.head? eX;simp only[NA,List.head?_cons,Option.some.injEq]at h1 h2;subst h1;have JZ:u 0= .slice none 0 0:=by generalize u 0=x at dX;cases dX;rfl
    cases hb:ow.any (Nat.beq p)
    ·simp only[hb,cond_false]at h2;subst h2;rw[JZ];exact .slE _ _ _ (Nat.zero_le _)
    ·simp only[hb,cond_true]at h2;subst h2;rw[JZ];refine .owN _ ⟨0,0,0,true⟩ none (hn p t (Nat.le_refl _) ?_ ?_) rfl rfl
     ·simp only[XA];exact ND _ _ _ _ _ (by omega)
     ·simp only[XA,hb,cond_true,MA]
  cases j with
  | zero=>simp only[eX,List.getElem_cons_zero];exact goal0
  | succ j=>simp only[eX,List.getElem_cons_succ];exact ih j (by rw[eX]at hj;simpa using hj)
omit [jA]in
def zip{t:Ty}{ats:List Ty}{as:List V}{x:aB (t :: ats)}(hd:mD (t :: ats) as=some x):
  ∃v vs y,as=v :: vs∧∃(x0:t.T),VD t v=some x0∧mD ats vs=some y∧bB (t :: ats) x=HC t x0 :: bB ats y:=by
 cases ats with
 | nil=>
  cases as with
  | nil=>simp[mD]at hd
  | cons v vs=>
   cases vs with
   | nil=>exact⟨v,[],(),rfl,x,by simpa[mD]using hd,rfl,rfl⟩
   | cons=>simp[mD]at hd
 | cons d r=>
  cases as with
  | nil=>simp[mD]at hd
  | cons v vs=>
   simp only[mD]at hd;obtain⟨x0,h1,h2⟩:=Option.bind_eq_some_iff.1 hd;obtain⟨y,h3,h4⟩:=Option.bind_eq_some_iff.1 h2;cases h4;exact⟨v,vs,y,rfl,x0,h1,h3,rfl⟩
omit [jA]in
def zG:∀(ks:List jB) (k:Nat) (as:List V) (q:Nat) (row:sA),EA ks k as q=some row→128 *k≤q
  | [],k,as,q,row,h=>by cases as<;>simp[EA]at h
  | .plain :: ks,k,[],q,row,h=>by simp[EA]at h
  | .plain :: ks,k,a :: as,q,row,h=>by
   have:=zG ks (k+1) as q row (by simpa only[EA]using h);omega
  | .mv ow :: ks,k,[],q,row,h=>by simp[EA]at h
  | .mv ow :: ks,k,a :: as,q,row,h=>by
   cases a<;>simp only[EA]at h<;>try (cases h;done)
   rw[mC]at h;split at h
   ·rename_i x hx;obtain⟨_,_,_,h1,_⟩:=yE _ _ _ _ _ _ hx;omega
   ·have:=zG ks (k+1) as q row h;omega
  | .ptr ow :: ks,k,[],q,row,h=>by simp[EA]at h
  | .ptr ow :: ks,k,a :: as,q,row,h=>by
   cases a<;>simp only[EA]at h<;>try (cases h;done)
   by_cases hq:q=128 *k+127
   ·omega
   ·rw[BA _ _ _ _ hq,mC]at h;split at h
    ·rename_i x hx;obtain⟨_,_,_,h1,_⟩:=yE _ _ _ _ _ _ hx;omega
    ·have:=zG ks (k+1) as q row h;omega
def zjX{bad bad2:Nat→Prop}{ρ2:Nat→Option RI}(zX:∀u d,VR w ρ bad u d→VR w ρ2 bad2 u d):∀(ks:List jB) (ats:List Ty) (as:List V) (x:aB ats) (k:Nat) (u:Nat→Value),tC ks ats=true→mD ats as=some x→
  (∀q t,EA ks k as q=none→EA ks k (bB ats x) q=some ⟨.arr t [], .own⟩→ρ2 q=some ⟨0,0,0,true⟩)→
  (∀j (hj:j<(FB ks k as).length),VR w ρ bad (u j) (FB ks k as)[j])→
  (FB ks k (bB ats x)).length=(FB ks k as).length∧∀j (hj:j<(FB ks k (bB ats x)).length),VR w ρ2 bad2 (u j) (FB ks k (bB ats x))[j]:=by
 intro ks;induction ks with
 | nil=>
  intro ats as x k u hk hd hn hv;cases ats with
  | nil=>cases as with
   | nil=>exact⟨rfl,λj hj=>by simp[FB]at hj⟩
   | cons=>simp[mD]at hd
  | cons=>simp[tC]at hk
 | cons q ks ih=>
  intro ats as x k u hk hd hn hv;cases ats with
  | nil=>cases q<;>simp[tC]at hk
  | cons t ats=>
   obtain⟨v,vs,y,rfl,x0,h1,h3,h4⟩:=zip hd;rw[h4]at hn⊢;cases q with
   | plain=>
    simp only[tC]at hk;obtain⟨e1,e2⟩:=ih ats vs y (k+1) (λj=>u (j+1)) hk h3 (λq t a b=>hn q t a b) (λj hj=>hv (j+1) (by simp[FB];omega));refine⟨by simp[FB,e1],λj hj=>?_⟩;cases j with
    | zero=>exact zX _ _ (zjJ t v x0 h1 (hv 0 (by simp[FB])))
    | succ j=>exact e2 j (by simpa[FB]using hj)
   | ptr ow=>
    cases t with
    | cells t=>
     simp only[tC,Bool.and_eq_true]at hk;have NV:=Nat.le_of_ble_eq_true hk.1;simp only[VD]at h1;split at h1
     case h_2=>cases h1
     rename_i cs;have jW:(enc t x0).length=sz t:=cD t x0;have J2:cs.length=sz t:=by rw[(xF t h1).len,jW]
     obtain⟨e1,e2⟩:=ih ats vs y (k+1) (λj=>u (j+1)) hk.2 h3 (λq t' a b=>by
      have tX:=zG ks (k+1) _ q _ b;refine hn q t' ?_ ?_
      ·simp only[EA];rw[BA _ _ _ _ (by omega),mC,ND _ _ _ _ _ (by omega)];exact a
      ·simp only[EA,HC];rw[BA _ _ _ _ (by omega),mC,ND _ _ _ _ _ (by omega)];exact b) (λj hj=>hv (j+1) (by simp[FB];omega))
     refine⟨by simp[FB,e1],λj hj=>?_⟩;cases j with
     | zero=>exact zX _ _ (hv 0 (by simp[FB]))
     | succ j=>exact e2 j (by simpa[FB]using hj)
    | _=>simp[tC]at hk
   | mv ow=>
    cases t with
    | v t=>
     simp only[tC,Bool.and_eq_true]at hk;obtain⟨⟨kW,NV⟩,hk⟩:=hk;have NV:=Nat.le_of_ble_eq_true NV;simp only[VD]at h1;split at h1
     case h_2=>simp[kW]at h1
     rename_i cs;simp only[kW,cond_true]at h1;have lW:=xF t h1;have jW:(enc t x0).length=sz t:=cD t x0;have J2:cs.length=sz t:=by rw[lW.len,jW]
     have Z5:HC (.v t) x0= .agg (enc t x0):=by simp only[HC,pK,kW,cond_true]
     rw[Z5]at hn⊢
     obtain⟨e1,e2⟩:=ih ats vs y (k+1) (λj=>u (j+1)) hk h3 (λq t' a b=>by
      have tX:=zG ks (k+1) _ q _ b;refine hn q t' ?_ ?_
      ·simp only[EA];rw[mC,ND _ _ _ _ _ (by omega)];exact a
      ·simp only[EA];rw[mC,ND _ _ _ _ _ (by omega)];exact b) (λj hj=>hv (j+1) (by simp[FB];omega))
     refine⟨by simp[FB,e1],λj hj=>?_⟩;cases j with
     | zero=>
      have dX:=hv 0 (by simp[FB]);simp only[FB,List.getElem_cons_zero]at dX⊢;generalize u 0=u0 at dX;cases dX with
      | agg _ vsA hs oX=>
      rw[qF]at hs;refine .agg _ vsA (by rw[qF,hs,jW,J2]) ?_;refine zeO ow (128 *k) zX cs (enc t x0) 0 (λj=>vsA.getD j undef) lW (λp t' _ h5 h6=>?_) oX;obtain⟨_,_,_,e3,e4⟩:=yE _ _ _ _ _ _ h6;refine hn _ t' ?_ ?_
      ·simp only[EA];rw[mC,h5];show EA ks (k+1) vs (128 *k+p)=none
       cases hr:EA ks (k+1) vs (128 *k+p)with
       | none=>rfl
       | some z=>have:=zG ks (k+1) vs _ z hr;omega
      ·simp only[EA];rw[mC,h6]
     | succ j=>exact e2 j (by simpa[FB]using hj)
    | _=>simp[tC]at hk
omit [jA]in
def ztn:∀(ks:List jB) (ats:List Ty) (as:List V) (x:aB ats) (k:Nat),tC ks ats=true→mD ats as=some x→
  (∀q row,EA ks k as q=some row→q<128 *(k+ks.length))∧
  ∀q row',EA ks k (bB ats x) q=some row'→q<128 *(k+ks.length)∧(EA ks k as q=some row'∨(EA ks k as q=none∧∃t,row'=⟨.arr t [], .own⟩)∨
   ∃ow B cs es,EA ks k as q=some ⟨.box (NA ow B 0 cs), .own⟩∧row'=⟨.box (NA ow B 0 es), .own⟩∧OB cs es∧
    ∀p t,XA ow B (λ_=>none) 0 cs (B+p)=none→XA ow B (λ_=>none) 0 es (B+p)=some ⟨.arr t [], .own⟩→EA ks k as (B+p)=none∧EA ks k (bB ats x) (B+p)=some ⟨.arr t [], .own⟩):=by
 intro ks;induction ks with
 | nil=>
  intro ats as x k hk hd;refine⟨λq row h=>by cases as<;>simp[EA]at h,λq row' h=>?_⟩;cases ats with
  | nil=>simp[EA]at h
  | cons=>simp[tC]at hk
 | cons g ks ih=>
  intro ats as x k hk hd;cases ats with
  | nil=>cases g<;>simp[tC]at hk
  | cons t ats=>
   obtain⟨v,vs,y,rfl,x0,h1,h3,h4⟩:=zip hd;rw[h4];cases g with
   | plain=>
    simp only[tC]at hk;obtain⟨i1,i2⟩:=ih ats vs y (k+1) hk h3;refine⟨λq row h=>?_,λq row' h=>?_⟩
    ·simp only[EA]at h;have:=i1 q row h;simp only[List.length_cons];omega
    ·simp only[EA]at h⊢;obtain⟨j1,j2⟩:=i2 q row' h;exact⟨by simp only[List.length_cons];omega,j2⟩
   | ptr ow=>
    cases t with
    | cells t=>
     simp only[tC,Bool.and_eq_true]at hk;obtain⟨NV,hk⟩:=hk;have NV:=Nat.le_of_ble_eq_true NV;simp only[VD]at h1;split at h1
     case h_2=>cases h1
     rename_i cs;obtain⟨i1,i2⟩:=ih ats vs y (k+1) hk h3;have lW:=xF t h1;have jW:(enc t x0).length=sz t:=cD t x0;have J2:cs.length=sz t:=by rw[lW.len,jW]
     refine⟨λq row h=>?_,λq row' h=>?_⟩
     ·simp only[List.length_cons];simp only[EA]at h
      by_cases hq:q=128 *k+127
      ·omega
      ·rw[BA _ _ _ _ hq,mC]at h;split at h
       ·rename_i z hz;obtain⟨_,_,_,e1,e2⟩:=yE _ _ _ _ _ _ hz;omega
       ·have:=i1 q row h;omega
     ·simp only[List.length_cons];simp only[HC,EA]at h
      by_cases hq:q=128 *k+127
      ·subst hq;rw[MA]at h;cases h;refine⟨by omega, .inr (.inr ⟨ow,128 *k,cs,enc t x0,by simp only[EA];exact MA _ _ _,rfl,lW,λp t' e1 e2=>?_⟩)⟩;obtain⟨_,_,_,e3,e4⟩:=yE _ _ _ _ _ _ e2;have pY:128 *k+p≠128 *k+127:=by omega
       simp only[EA,HC];rw[BA _ _ _ _ pY,BA _ _ _ _ pY,mC,mC ow (128 *k) (EA ks (k+1) (bB ats y)),e1,e2];refine⟨?_,rfl⟩;cases hr:EA ks (k+1) vs (128 *k+p)with
       | none=>rfl
       | some z=>have:=zG ks (k+1) vs _ z hr;omega
      ·rw[BA _ _ _ _ hq,mC]at h;split at h
       ·rename_i z hz;cases h;obtain⟨_,_,_,e1,e2⟩:=yE _ _ _ _ _ _ hz;refine⟨by omega,?_⟩;have JY:=hz;rw[show q=128 *k+(q - 128 *k) by omega]at JY
        rcases zeW ow (128 *k) cs (enc t x0) 0 _ _ lW JY with h5 | ⟨h5,h6⟩<;>rw[show 128 *k+(q - 128 *k)=q by omega]at h5
        ·left;simp only[EA];rw[BA _ _ _ _ hq,mC,h5]
        ·right;left;refine⟨?_,h6⟩;simp only[EA];rw[BA _ _ _ _ hq,mC,h5];show EA ks (k+1) vs q=none
         cases hr:EA ks (k+1) vs q with
         | none=>rfl
         | some z=>have:=zG ks (k+1) vs _ z hr;omega
       ·rename_i hz;obtain⟨j1,j2⟩:=i2 q row' h;have tX:=zG ks (k+1) _ q row' h
        have lift:∀q',128 *(k+1)≤q'→EA (.ptr ow :: ks) k (.agg cs :: vs) q'=EA ks (k+1) vs q'∧EA (.ptr ow :: ks) k (.agg (enc t x0) :: bB ats y) q'=EA ks (k+1) (bB ats y) q':=λq' LX=>by
         simp only[EA];rw[BA _ _ _ _ (by omega),BA _ _ _ _ (by omega),mC,mC ow (128 *k) (EA ks (k+1) (bB ats y)),ND _ _ _ _ _ (by omega),ND _ _ _ _ _ (by omega)];exact⟨rfl,rfl⟩
        obtain⟨l1,l2⟩:=lift q (by omega);refine⟨by omega,?_⟩;rw[l1]
        rcases j2 with j2 | j2 | ⟨ow',B,cs',es',j2,j3,j4,j5⟩
        ·exact .inl j2
        ·exact .inr (.inl j2)
        ·refine .inr (.inr ⟨ow',B,cs',es',j2,j3,j4,λp t' e1 e2=>?_⟩);obtain⟨j6,j7⟩:=j5 p t' e1 e2;have:=zG ks (k+1) _ _ _ j7;obtain⟨l3,l4⟩:=lift (B+p) (by omega);show EA (.ptr ow :: ks) k (.agg cs :: vs) (B+p)=none∧EA (.ptr ow :: ks) k (.agg (enc t x0) :: bB ats y) (B+p)=_
         rw[l3,l4];exact⟨j6,j7⟩
    | _=>simp[tC]at hk
   | mv ow=>
    cases t with
    | v t=>
     simp only[tC,Bool.and_eq_true]at hk;obtain⟨⟨kW,NV⟩,hk⟩:=hk;have NV:=Nat.le_of_ble_eq_true NV;simp only[VD]at h1;split at h1
     case h_2=>simp[kW]at h1
     rename_i cs;simp only[kW,cond_true]at h1;obtain⟨i1,i2⟩:=ih ats vs y (k+1) hk h3;have lW:=xF t h1;have jW:(enc t x0).length=sz t:=cD t x0;have J2:cs.length=sz t:=by rw[lW.len,jW]
     have Z5:HC (.v t) x0= .agg (enc t x0):=by simp only[HC,pK,kW,cond_true]
     rw[Z5];refine⟨λq row h=>?_,λq row' h=>?_⟩
     ·simp only[List.length_cons];simp only[EA]at h;rw[mC]at h;split at h
      ·rename_i z hz;obtain⟨_,_,_,e1,e2⟩:=yE _ _ _ _ _ _ hz;omega
      ·have:=i1 q row h;omega
     ·simp only[List.length_cons];simp only[EA]at h;rw[mC]at h;split at h
      ·rename_i z hz;cases h;obtain⟨_,_,_,e1,e2⟩:=yE _ _ _ _ _ _ hz;refine⟨by omega,?_⟩;have JY:=hz;rw[show q=128 *k+(q - 128 *k) by omega]at JY
       rcases zeW ow (128 *k) cs (enc t x0) 0 _ _ lW JY with h5 | ⟨h5,h6⟩<;>rw[show 128 *k+(q - 128 *k)=q by omega]at h5
       ·left;simp only[EA];rw[mC,h5]
       ·right;left;refine⟨?_,h6⟩;simp only[EA];rw[mC,h5];show EA ks (k+1) vs q=none
        cases hr:EA ks (k+1) vs q with
        | none=>rfl
        | some z=>have:=zG ks (k+1) vs _ z hr;omega
      ·rename_i hz;obtain⟨j1,j2⟩:=i2 q row' h;have tX:=zG ks (k+1) _ q row' h
       have lift:∀q',128 *(k+1)≤q'→EA (.mv ow :: ks) k (.agg cs :: vs) q'=EA ks (k+1) vs q'∧EA (.mv ow :: ks) k (.agg (enc t x0) :: bB ats y) q'=EA ks (k+1) (bB ats y) q':=λq' LX=>by
        simp only[EA];rw[mC,mC ow (128 *k) (EA ks (k+1) (bB ats y)),ND _ _ _ _ _ (by omega),ND _ _ _ _ _ (by omega)];exact⟨rfl,rfl⟩
       obtain⟨l1,l2⟩:=lift q (by omega);refine⟨by omega,?_⟩;rw[l1]
       rcases j2 with j2 | j2 | ⟨ow',B,cs',es',j2,j3,j4,j5⟩
       ·exact .inl j2
       ·exact .inr (.inl j2)
       ·refine .inr (.inr ⟨ow',B,cs',es',j2,j3,j4,λp t' e1 e2=>?_⟩);obtain⟨j6,j7⟩:=j5 p t' e1 e2;have:=zG ks (k+1) _ _ _ j7;obtain⟨l3,l4⟩:=lift (B+p) (by omega);rw[l3,l4];exact⟨j6,j7⟩
    | _=>simp[tC]at hk
def zjD{ks:List jB}{ats:List Ty}{as:List V}{x:aB ats}(UX:tC ks ats=true)(hd:mD ats as=some x)(hh:iB w0 outer own ρ (EA ks 0 as) w)(xW:∀q,EA ks 0 as q=none→ρ q=none):
  ∃ρ2,iB w0 outer own ρ2 (EA ks 0 (bB ats x)) w∧(∀u d,VR w ρ (rA outer ρ (EA ks 0 as)) u d→VR w ρ2 (rA outer ρ2 (EA ks 0 (bB ats x))) u d)∧
   (∀q ri,ρ q=some ri→ρ2 q=some ri)∧(∀q,128 *ks.length≤q→ρ2 q=none)∧∀q row,EA ks 0 as q=none→EA ks 0 (bB ats x) q=some row→ρ2 q=some ⟨0,0,0,true⟩:=by
 have hEE:∀q row,EA ks 0 as q=none→EA ks 0 (bB ats x) q=some row→ρ q=none:=λq _ h _=>xW q h;obtain⟨r1,r2⟩:=ztn ks ats as x 0 UX hd;generalize hE:EA ks 0 as=h at *;generalize hE2:EA ks 0 (bB ats x)=h2 at *
 let ρ2:Nat→Option RI:=λq=>match ρ q with
  | some ri=>some ri
  | none=>if(h2 q).isSome=true then some ⟨0,0,0,true⟩else none
 have e1:∀q ri,ρ q=some ri→ρ2 q=some ri:=λq ri hq=>by simp only[ρ2,hq]
 have e2:∀q row,ρ q=none→h2 q=some row→ρ2 q=some ⟨0,0,0,true⟩:=λq row hq hr=>by simp only[ρ2,hq,hr];rfl
 have e3:∀q,ρ q=none→h2 q=none→ρ2 q=none:=λq hq hr=>by simp only[ρ2,hq,hr];rfl
 have aW:∀b,rA outer ρ2 h2 b→rA outer ρ h b:=by
  rintro b (hb | ⟨q,row,ri,f1,f2,f3,f4,f5⟩)
  ·exact .inl hb
  ·rcases(r2 q row f1).2 with g | ⟨g,_⟩ | ⟨ow,B,cs,es,g,_⟩
   ·obtain⟨ri',k1,_⟩:=hh.rows q _ g;rw[e1 _ _ k1]at f3;cases f3;exact .inr ⟨q,row,_,g,f2,k1,f4,f5⟩
   ·rw[e2 q row (xW q g) f1]at f3;cases f3;cases f4
   ·obtain⟨ri',k1,_⟩:=hh.rows q _ g;rw[e1 _ _ k1]at f3;cases f3;exact .inr ⟨q,_,_,g,rfl,k1,f4,f5⟩
 have hk:∀u d,VR w ρ (rA outer ρ h) u d→VR w ρ2 (rA outer ρ2 h2) u d:=λu d hu=>hu.mono e1 (λ_ _ _=>rfl) λb hb=> .inl (aW b hb)
 have xZ:∀q row' ri,h2 q=some row'→ρ2 q=some ri→ri.nl=false→∃row,h q=some row∧ρ q=some ri:=λq row' ri f1 f3 f4=>by
  rcases(r2 q row' f1).2 with g | ⟨g,_⟩ | ⟨ow,B,cs,es,g,_⟩
  ·obtain⟨ri',k1,_⟩:=hh.rows q _ g;rw[e1 _ _ k1]at f3;cases f3;exact⟨_,g,k1⟩
  ·rw[e2 q row' (xW q g) f1]at f3;cases f3;cases f4
  ·obtain⟨ri',k1,_⟩:=hh.rows q _ g;rw[e1 _ _ k1]at f3;cases f3;exact⟨_,g,k1⟩
 refine⟨ρ2,⟨hh.wx,hh.old,hh.outLt,λr row' hr=>?_,λq q' row row' qi qi' h1 h2 h3 h4 h5 h6 h7=>?_⟩,hk,e1,λq hq=>?_,λq row h1 h2=>e2 q row (xW q h1) h2⟩
 ·rcases(r2 r row' hr).2 with g | ⟨g,t,rfl⟩ | ⟨ow,B,cs,es,g,rfl,g2,g3⟩
  ·obtain⟨ri,k1,k2,k3⟩:=hh.rows r _ g;exact⟨ri,e1 _ _ k1,k2.keep (λ_=>rfl) hk,k3⟩
  ·exact⟨⟨0,0,0,true⟩,e2 r _ (xW r g) hr,⟨rfl, .inl ⟨rfl,rfl⟩⟩,λhn=>by cases hn⟩
  ·obtain⟨ri,k1,k2,k3⟩:=hh.rows r _ g;refine⟨ri,e1 _ _ k1,⟨k2.1,λj hj=>?_⟩,k3⟩;have hl:(NA ow B 0 es).length=(NA ow B 0 cs).length:=by rw[qF,qF,g2.len]
   obtain⟨f1,u,f2,f3⟩:=k2.2 j (by rw[←hl];exact hj);refine⟨f1,u,f2,?_⟩
   have:=zeO (w:=w) (ρ:=ρ) ow B hk cs es 0 (λj=>(w.cell? (at_ ri.b j)).getD undef) g2 (λq t _ h5 h6=>by
    obtain⟨g4,g5⟩:=g3 q t h5 h6;exact e2 _ _ (xW _ g4) g5) (λj hj=>by
    obtain⟨_,u,f2,f3⟩:=k2.2 j hj;rw[f2];exact f3) j hj
   rw[f2]at this;exact this
 ·obtain⟨_,g1,g2⟩:=xZ _ _ _ h1 h3 h5;obtain⟨_,g3,g4⟩:=xZ _ _ _ h2 h4 h6;exact hh.inj q q' _ _ qi qi' g1 g3 g2 g4 h5 h6 h7
 ·refine e3 q (xW q ?_) ?_
  ·cases O1:h q with
   | none=>rfl
   | some row=>have:=r1 q row O1;omega
  ·cases O1:h2 q with
   | none=>rfl
   | some row=>have:=(r2 q row O1).1;omega
end
end Go.D
namespace Go.D
variable [jA]
section
variable {C:Cx} {w0:World} {outer own D:Nat→Prop} {R:Type} {st st1 st2:St} {ρ ρ1 ρ2:Nat→Option RI} {a a1 a2:Act} {w w1 w2:World} {j:JI}
omit [jA]in
def zbq{α:Type}(l m:List α)(i:Nat)(d:α)(h:i<l.length):(l++m).getD i d=l.getD i d:=by
 rw[List.getD_eq_getElem?_getD,List.getD_eq_getElem?_getD,List.getElem?_append_left h]
omit [jA]in
def zbt{α:Type}(l m:List α)(i:Nat)(d:α)(h:l.length≤i):(l++m).getD i d=m.getD (i - l.length) d:=by
 rw[List.getD_eq_getElem?_getD,List.getD_eq_getElem?_getD,List.getElem?_append_right h]
inductive eJ:List (Bool×Nat)→List Value→List Value→Prop
 | nil:eJ [] [] []
 | agg {n:Nat} {sh:List (Bool×Nat)} {rv cells:List Value} (vs:Array Value) (h:vs.size=n) (hr:eJ sh rv cells):eJ ((true,n) :: sh) (.agg vs :: rv) (vs.toList++cells)
 | one {sh:List (Bool×Nat)} {rv cells:List Value} (v:Value) (hr:eJ sh rv cells):eJ ((false,1) :: sh) (v :: rv) (v :: cells)
omit [jA]in
def eJ.len{sh:List (Bool×Nat)}{rv cells:List Value}(h:eJ sh rv cells):UK sh=cells.length∧rv.length=sh.length:=by
 induction h with
 | nil=>exact⟨rfl,rfl⟩
 | agg vs h hr ih=>simp only[UK,List.map_cons,List.sum_cons,List.length_append,Array.length_toList,List.length_cons]at ih⊢;omega
 | one v hr ih=>simp only[UK,List.map_cons,List.sum_cons,List.length_cons]at ih⊢;omega
def zr6{bad:Nat→Prop}{sh:List (Bool×Nat)}{rv cells:List Value}(h:eJ sh rv cells):∀X:List V,cells.length≤X.length→(∀j (hj:j<X.length),j<cells.length→VR w ρ bad (cells.getD j undef) X[j])→
  (EE sh X).length=rv.length∧∀i (hi:i<(EE sh X).length),VR w ρ bad (rv.getD i undef) (EE sh X)[i]:=by
 induction h with
 | nil=>intro X _ _;exact⟨rfl,λi hi=>by simp[EE]at hi⟩
 | agg vs NV hr ih=>
  rename_i n sh rv cells;intro X hX hv;simp only[List.length_append,Array.length_toList]at hX
  obtain⟨h1,h2⟩:=ih (X.drop n) (by simp;omega) (λj hj JW=>by
   have:=hv (n+j) (by simp at hj;omega) (by simp;omega);rw[List.getElem_drop];rw[zbt _ _ _ _ (by simp;omega)]at this;simpa[NV]using this)
  refine⟨by simp[EE,h1],λi hi=>?_⟩;cases i with
  | zero=>
   show VR w ρ bad (.agg vs) (.agg (X.take n))
   refine .agg _ _ (by simp;omega) λj hj=>?_;have X8:j<n:=by simp at hj;omega
   have:=hv j (by simp at hj;omega) (by simp;omega);rw[zbq _ _ _ _ (by simp;omega)]at this;rw[List.getElem_take];rw[Array.getD_eq_getD_getElem?];rw[List.getD_eq_getElem?_getD]at this;simpa using this
  | succ i=>exact h2 i (by simpa[EE]using hi)
 | one v hr ih=>
  rename_i sh rv cells;intro X hX hv;cases X with
  | nil=>simp at hX
  | cons x X=>
   simp only[List.length_cons]at hX;obtain⟨h1,h2⟩:=ih X (by omega) (λj hj JW=>hv (j+1) (by simp;omega) (by simp;omega));refine⟨by simp[EE,h1],λi hi=>?_⟩;cases i with
   | zero=>exact hv 0 (by simp) (by simp)
   | succ i=>exact h2 i (by simpa[EE]using hi)
omit [jA]in
def zsk{sh:List (Bool×Nat)}{X:List V}{v:V}(h:EE sh X=[v]):pI sh X=v:=by simp[pI,h]
omit [jA]in
def zrQ{sh:List (Bool×Nat)}{X:List V}(h:∀v,EE sh X≠[v]):pI sh X= .tup (EE sh X):=by
 unfold pI;split
 ·rename_i v hv;exact absurd hv (h v)
 ·rfl
def ztE{bad:Nat→Prop}{sh:List (Bool×Nat)}{rv cells:List Value}(h:eJ sh rv cells){X:List V}(hX:cells.length≤X.length)(hv:∀j (hj:j<X.length),j<cells.length→VR w ρ bad (cells.getD j undef) X[j]):
  VR w ρ bad (if h:rv.toArray.size=1 then rv.toArray[0]else .tuple rv.toArray) (pI sh X):=by
 obtain⟨h1,h2⟩:=zr6 h X hX hv
 by_cases hY:∃v,EE sh X=[v]
 ·obtain⟨v,hY⟩:=hY;rw[zsk hY];rw[hY]at h1;have hl:rv.toArray.size=1:=by simpa using h1.symm
  rw[dif_pos hl];have h3:=h2 0 (by rw[hY];simp);simp only[hY,List.getElem_cons_zero]at h3;rw[List.getD_eq_getElem?_getD,List.getElem?_eq_getElem (by simp at hl;omega)]at h3;simpa using h3
 ·have hl:¬rv.toArray.size=1:=λhl=>by
   have RZ:(EE sh X).length=1:=by rw[h1];simpa using hl
   exact hY (List.length_eq_one_iff.1 RZ)
  rw[dif_neg hl,zrQ λv hv=>hY ⟨v,hv⟩];refine .tup _ _ (by simp[h1]) λi hi=>?_;have:=h2 i hi;rw[Array.getD_eq_getD_getElem?];rw[List.getD_eq_getElem?_getD]at this;simpa using this
omit [jA]in
def zfd{α β:Type}{P:Program}{w:World}(f:α→Sem β):∀(l:List α) (r:List β),l.length=r.length→(∀i (hi:i<l.length) (hr:i<r.length),(f l[i]).run P w= .ok r[i] w)→(l.mapM f).run P w= .ok r w
 | [],[],_,_=>by simp
 | [],_ :: _,h,_=>by simp at h
 | _ :: _,[],h,_=>by simp at h
 | x :: l,y :: r,h,hf=>by
  have h0:=hf 0 (by simp) (by simp);simp only[List.getElem_cons_zero]at h0;have h1:=zfd f l r (by simpa using h) (λi hi hr=>hf (i+1) (by simp;omega) (by simp;omega));simp[List.mapM_cons,h0,h1,Result.andThen]
def jL(tmps:Array Value):ResultVar→Sem Value
 | .tmp t=>pure (tmps.getD t undef)
 | .cell x t=>do loadVar t (←asAddr (tmps.getD x undef))
def zcQ(hr:VA C w0 outer own ρ st a w):∀(rs:List ResultVar) (sh:List (Bool×Nat)) (vs:List V),qH C.P st rs sh=some vs→
  ∃rv cells,eJ sh rv cells∧rs.length=rv.length∧cells.length=vs.length∧(∀j (hj:j<vs.length),VR w ρ (rA outer ρ st.h) (cells.getD j undef) vs[j])∧
   ∀i (hi:i<rs.length) (h2:i<rv.length),(jL a.tmps rs[i]).run C.P w= .ok rv[i] w
 | [],[],vs,h=>by
  simp only[qH,Option.some.injEq]at h;subst h;exact⟨[],[], .nil,rfl,rfl,λj hj=>by simp at hj,λi hi=>by simp at hi⟩
 | [],_ :: _,vs,h=>by simp[qH]at h
 | .tmp t :: _,[],vs,h=>by simp[qH]at h
 | .cell .. :: _,[],vs,h=>by simp[qH]at h
 | .tmp t :: rs,(ag,n) :: sh,vs,h=>by
  simp only[qH]at h;have hv:=hr.slots t;split at h
  ·rename_i cs us hs b6;cases hb:(ag&&Nat.beq n cs.length)
   case false=>simp[hb]at h
   simp only[hb,cond_true,Option.some.injEq]at h;subst h;simp only[Bool.and_eq_true]at hb;obtain⟨rfl,hn⟩:=hb;have hn:=Nat.eq_of_beq_eq_true hn;obtain⟨rv,cells,h1,h2,h3,h4,h5⟩:=zcQ hr rs sh us b6;rw[hs]at hv;generalize hA:a.tmps.getD t undef=A at hv;cases hv with
   | agg _ vs NV oX=>
   refine⟨.agg vs :: rv,vs.toList++cells, .agg vs (by omega) h1,by simp[h2],by simp[h3,NV],λj hj=>?_,λi hi hi2=>?_⟩
   ·by_cases PW:j<cs.length
    ·rw[List.getElem_append_left PW,zbq _ _ _ _ (by simp;omega)];have:=oX j PW;rw[Array.getD_eq_getD_getElem?]at this;rw[List.getD_eq_getElem?_getD];simpa using this
    ·have JW:j - cs.length<us.length:=by simp at hj;omega
     rw[List.getElem_append_right (by omega),zbt _ _ _ _ (by simp;omega)];have:=h4 _ JW;simpa[NV]using this
   ·cases i with
    | zero=>simp only[List.getElem_cons_zero,jL,hA];rfl
    | succ i=>exact h5 i (by simpa using hi) (by simpa using hi2)
  ·rename_i us b6 KW;cases hb:(!ag&&Nat.beq n 1&&(st.s t).leaf)
   case false=>simp[hb]at h
   simp only[hb,cond_true,Option.some.injEq]at h;subst h;simp only[Bool.and_eq_true,Bool.not_eq_true']at hb;obtain⟨⟨rfl,hn⟩,hlf⟩:=hb;have hn:=Nat.eq_of_beq_eq_true hn;subst hn;obtain⟨rv,cells,h1,h2,h3,h4,h5⟩:=zcQ hr rs sh us b6;refine⟨a.tmps.getD t undef :: rv,a.tmps.getD t undef :: cells, .one _ h1,by simp[h2],by simp[h3],λj hj=>?_,λi hi hi2=>?_⟩
   ·cases j with
    | zero=>exact hv
    | succ j=>exact h4 j (by simpa using hj)
   ·cases i with
    | zero=>rfl
    | succ i=>exact h5 i (by simpa using hi) (by simpa using hi2)
  ·cases h
 | .cell x t :: rs,(ag,n) :: sh,vs,h=>by
  simp only[qH]at h;have hv:=hr.slots x;split at h
  case h_2=>cases h
  rename_i b us ag' n' hs b6 kW NV;split at h
  case h_2=>cases h
  rename_i cs m HV;cases hb:((ag==ag')&&Nat.beq n n'&&Nat.beq n cs.length&&(ag||Nat.beq n 1))
  case false=>simp[hb]at h
  simp only[hb,cond_true,Option.some.injEq]at h;subst h;simp only[Bool.and_eq_true,beq_iff_eq]at hb;obtain⟨⟨⟨rfl,h1⟩,h2⟩,h3⟩:=hb;have h1:=Nat.eq_of_beq_eq_true h1;have h2:=Nat.eq_of_beq_eq_true h2;subst h1;obtain⟨rv,cells,k1,k2,k3,k4,k5⟩:=zcQ hr rs sh us b6;rw[hs]at hv;obtain⟨ri,hρ,PV,_⟩:=hr.heap.rows _ _ HV;obtain⟨e1,e2⟩:=ze3 hρ PV hv
  have MV:eG ag n cs 0 some=some (if ag then .agg cs else cs.getD 0 .undef):=by
   unfold eG;cases ag with
   | true=>
    have:Nat.ble (0+n) cs.length=true:=Nat.ble_eq_true_of_le (by omega);simp only[MC,this,if_true,List.drop_zero];rw[List.take_of_length_le (by omega)]
   | false=>
    simp only[Bool.false_or]at h3;have:=Nat.eq_of_beq_eq_true h3
    match cs,h2 with
    | [c],_=>rfl
    | [],h2=>simp at h2;omega
    | _ :: _ :: _,h2=>simp at h2;omega
  obtain⟨d,v,g1,g2,g3⟩:=zku (K:=some) kW NV e2 MV;have g1:d=if ag then V.agg cs else cs.getD 0 .undef:=Option.some.inj g1
  subst g1
  have GV:(jL a.tmps (.cell x t)).run C.P w= .ok v w:=by
   simp only[jL,e1,asAddr,Sem.run_bind,Sem.run_pure,Result.andThen_ok];exact g3
  cases ag with
  | true=>
   simp only[if_true]at g2;cases g2 with
   | agg _ vs d6 oX=>
   refine⟨.agg vs :: rv,vs.toList++cells, .agg vs (by omega) k1,by simp[k2],by simp[k3,d6],λj hj=>?_,λi hi hi2=>?_⟩
   ·by_cases PW:j<cs.length
    ·rw[List.getElem_append_left PW,zbq _ _ _ _ (by simp;omega)];have:=oX j PW;rw[Array.getD_eq_getD_getElem?]at this;rw[List.getD_eq_getElem?_getD];simpa using this
    ·have JW:j - cs.length<us.length:=by simp at hj;omega
     rw[List.getElem_append_right (by omega),zbt _ _ _ _ (by simp;omega)];have:=k4 _ JW;simpa[d6]using this
   ·cases i with
    | zero=>exact GV
    | succ i=>exact k5 i (by simpa using hi) (by simpa using hi2)
  | false=>
   simp only[Bool.false_or]at h3;have h3:=Nat.eq_of_beq_eq_true h3;subst h3
   match cs,h2 with
   | [c],_=>
    simp only[Bool.false_eq_true,if_false]at g2;refine⟨v :: rv,v :: cells, .one v k1,by simp[k2],by simp[k3],λj hj=>?_,λi hi hi2=>?_⟩
    ·cases j with
     | zero=>exact g2
     | succ j=>exact k4 j (by simpa using hj)
    ·cases i with
     | zero=>exact GV
     | succ i=>exact k5 i (by simpa using hi) (by simpa using hi2)
   | [],h2=>simp at h2
   | _ :: _ :: _,h2=>simp at h2
def zqy(hr:VA C w0 outer own ρ st a w){fn:Func}{sh:List (Bool×Nat)}{vs:List V}(h:qH C.P st fn.results.toList sh=some vs):
  ∃rv cells,eJ sh rv cells∧cells.length=vs.length∧(∀j (hj:j<vs.length),VR w ρ (rA outer ρ st.h) (cells.getD j undef) vs[j])∧
   (results fn a.tmps).run C.P w= .ok (if h:rv.toArray.size=1 then rv.toArray[0]else .tuple rv.toArray) w:=by
 obtain⟨rv,cells,h1,h2,h3,h4,h5⟩:=zcQ hr _ _ _ h;refine⟨rv,cells,h1,h3,h4,?_⟩;have:=zfd (P:=C.P) (w:=w) (jL a.tmps) fn.results.toList rv h2 h5;show((do let vs ←fn.results.mapM (jL a.tmps);pure (if h:vs.size=1 then vs[0]else .tuple vs)):Sem Value).run C.P w=_
 rw[Array.mapM_eq_mapM_toList];simp only[Sem.run_bind,Sem.run_map,this,Result.andThen_ok,Sem.run_pure]
end
end Go.D
namespace Go.D
variable [jA]
inductive Bd:V→Prop where
 | undef:Bd .undef
 | bool (b:Bool):Bd (.bool b)
 | int (k:IntKind) (n:Int) (h:oE k n):Bd (.int k n)
 | str (s:List UInt8) (h:s.length≤maxLen):Bd (.str s)
 | nil:Bd .nil
 | sl (t:TN) (l:List (El t)) (h:l.length≤maxLen) (hv:∀i (h:i<l.length) j,j<sz t→Bd ((enc t l[i]).getD j .undef)):Bd (.sl t l)
 | ow (r:Nat):Bd (.ow r)
 | ov (r:Nat) (t:TN) (off len:Nat):Bd (.ov r t off len)
 | bp (r off:Nat):Bd (.bp r off)
 | ep (r:Nat) (t:TN) (i off:Nat):Bd (.ep r t i off)
 | fp (cs:List V) (off:Nat) (h:∀j (h:j<cs.length),Bd cs[j]):Bd (.fp cs off)
 | fn (f:Nat) (cs:List V) (h:∀j (h:j<cs.length),Bd cs[j]):Bd (.fn f cs)
 | agg (cs:List V) (h:∀j (h:j<cs.length),Bd cs[j]):Bd (.agg cs)
 | tup (cs:List V) (h:∀j (h:j<cs.length),Bd cs[j]):Bd (.tup cs)
 | nili:Bd .nili
 | ifc (b:Bool):Bd (.ifc b)
section
variable {w:World} {ρ:Nat→Option RI} {bad:Nat→Prop} {v:Value} {d:V}
def VR.bd(h:VR w ρ bad v d):Bd d:=by
 induction h with
 | undef=>exact .undef
 | bool=>exact .bool _
 | int _ _ h=>exact .int _ _ h
 | str _ h=>exact .str _ h
 | nil=>exact .nil
 | slE=>exact .sl _ _ (Nat.zero_le _) (λi h=>by simp at h)
 | slC t l b off cap u hb hl hc he hu hv ih=>exact .sl _ _ (Nat.le_trans hl hc) ih
 | ow=>exact .ow _
 | owN=>exact .ow _
 | ov=>exact .ov _ _ _ _
 | bp=>exact .bp _ _
 | ep=>exact .ep _ _ _ _
 | fp cs off b o u h0 hb hu hv ih=>exact .fp _ _ ih
 | fn f cs caps hs hv ih=>exact .fn _ _ ih
 | agg cs vs hs hv ih=>exact .agg _ ih
 | tup cs vs hs hv ih=>exact .tup _ ih
 | nili=>exact .nili
 | ifc=>exact .ifc _
 | ifn=>exact .ifc _
def tI(t:TN)(x:El t):Prop:=∀j,j<sz t→Bd ((enc t x).getD j .undef)
def bdl(t:TN)(l:List (El t)):Prop:=l.length≤maxLen∧∀x∈l,tI t x
omit [jA]in
def Bd.list{t:TN}{l:List (El t)}(h:Bd (.sl t l)):bdl t l:=by
 cases h with
 | sl _ _ h hv=>
  refine⟨h,λx hx j hj=>?_⟩;obtain⟨i,hi,rfl⟩:=List.mem_iff_getElem.1 hx;exact hv i hi j hj
omit [jA]in
def Bd.len{s:List UInt8}(h:Bd (.str s)):s.length≤maxLen:=by cases h;assumption
omit [jA]in
def Bd.fits{k:IntKind}{n:Int}(h:Bd (.int k n)):oE k n:=by cases h;assumption
omit [jA]in
def zj8(t:TN)(h:t.isAgg=false)(x:El t):∃c,enc t x=[c]:=by cases t<;>first | exact⟨_,rfl⟩ | simp[TN.isAgg]at h
def zgn:(t:Ty)→t.T→Prop
 | .v t,x=>tI t x
 | .sl t,l=>bdl t l
 | .raw,v=>Bd v
 | .cells t,x=>tI t x
 | .pt t,x=>tI t x
 | .c1 _ t,x=>tI t x
 | .p1 _ t,x=>tI t x
 | .c2 _ _ t,x=>tI t x.1∧tI t x.2
omit [jA]in
def iV{t:TN}{x:El t}(h:Bd (.fp (enc t x) 0)):tI t x:=λj hj=>by
 have JW:j<(enc t x).length:=by rw[cD];exact hj
 rw[List.getD_eq_getElem?_getD,List.getElem?_eq_getElem JW];cases h with
 | fp _ _ h=>exact h j JW
omit [jA]in
def zcP{g:Nat}{c:V}{r:List V}(h:Bd (.fn g (c :: r))):Bd c:=by
 cases h with
 | fn _ _ h=>exact h 0 (by simp)
omit [jA]in
def zu4{g:Nat}{c d:V}(h:Bd (.fn g [c,d])):Bd d:=by
 cases h with
 | fn _ _ h=>exact h 1 (by simp)
omit [jA]in
def zkJ{c:V}(h:Bd (.fp [c] 0)):Bd c:=by
 cases h with
 | fp _ _ h=>exact h 0 (by simp)
def xA:(ts:List Ty)→aB ts→Prop
 | [],_=>True
 | [t],x=>zgn t x
 | t :: d :: r,x=>zgn t x.1∧xA (d :: r) x.2
omit [jA]in
def zkc{t:Ty}{x:t.T}(h:Bd (HC t x)):zgn t x:=by
 cases t with
 | v t=>
  intro j hj;simp only[HC,pK]at h;have JW:j<(enc t x).length:=by rw[cD];exact hj
  cases kW:t.isAgg
  ·simp only[kW,cond_false]at h;have NV:sz t=1:=by cases t<;>first | rfl | simp[TN.isAgg]at kW
   obtain⟨c,hc⟩:=zj8 t kW x;simp only[hc]at h⊢;have:j=0:=by omega
   subst this;exact h
  ·simp only[kW,cond_true]at h;rw[List.getD_eq_getElem?_getD,List.getElem?_eq_getElem JW];cases h with
   | agg _ h=>exact h j JW
 | sl t=>exact Bd.list h
 | raw=>exact h
 | cells t=>
  intro j hj;have JW:j<(enc t x).length:=by rw[cD];exact hj
  rw[List.getD_eq_getElem?_getD,List.getElem?_eq_getElem JW];cases h with
  | agg _ h=>exact h j JW
 | pt t=>exact iV h
 | c1 g t=>exact iV (zcP h)
 | p1 g t=>exact iV (zcP (zkJ h))
 | c2 g h' t=>exact⟨iV (zcP (zkJ (zcP h))),iV (zu4 h)⟩
omit [jA]in
def zeY:∀(ts:List Ty) (x:aB ts),(∀v∈bB ts x,Bd v)→xA ts x
 | [],x,h=>trivial
 | [t],x,h=>zkc (h _ (by simp[bB]))
 | t :: d :: r,x,h=>⟨zkc (h _ (by simp[bB])),zeY (d :: r) x.2 λv hv=>h v (by simp[bB,hv])⟩
omit [jA]in
def zrk{t:Ty}{ats:List Ty}(x:aB (t :: ats)):∃(x0:t.T) (y:aB ats),bB (t :: ats) x=HC t x0 :: bB ats y:=by
 cases ats with
 | nil=>exact⟨x,(),rfl⟩
 | cons d r=>exact⟨x.1,x.2,rfl⟩
def zkI{outer own:Nat→Prop}{w0:World}{h:Nat→Option sA}(hh:iB w0 outer own ρ h w){r:Nat}{t:TN}{l:List (El t)}{m:bH}(hr:h r=some ⟨.arr t l,m⟩):Bd (.sl t l):=by
 obtain⟨ri,_,⟨hn,ho⟩,_⟩:=hh.rows r _ hr
 rcases ho with⟨_,rfl⟩ | ⟨_,_,h1,h2,_,h3⟩
 ·exact .sl _ _ (Nat.zero_le _) λi h=>by simp at h
 ·refine .sl _ _ (by omega) λi hi j hj=>?_;obtain⟨u,_,h4⟩:=h3 i hi j hj;exact h4.bd
omit [jA]in
def zfy(ow:List Nat)(B:Nat):∀(es:List V) (p:Nat),(∀j (hj:j<(NA ow B p es).length),Bd (NA ow B p es)[j])→(∀q t l,XA ow B (λ_=>none) p es q=some ⟨.arr t l, .own⟩→Bd (.sl t l))→∀j (hj:j<es.length),Bd es[j]
 | [],p,hv,hr,j,hj=>by simp at hj
 | e :: es,p,hv,hr,j,hj=>by
  have hd:∃e',NA ow B p (e :: es)=e' :: NA ow B (p+1) es:=by cases e<;>exact⟨_,rfl⟩
  obtain⟨e',eX⟩:=hd
  have A2:∀j (hj:j<(e' :: NA ow B (p+1) es).length),Bd (e' :: NA ow B (p+1) es)[j]:=λj hj=>by
   have:=hv j (by rw[eX];exact hj);simpa only[eX]using this
  cases j with
  | succ j=>
   refine zfy ow B es (p+1) (λj hj=>by have:=A2 (j+1) (by simp;omega);simpa using this) (λq t l hq=>?_) j (by simpa using hj);obtain⟨_,_,_,h1,_⟩:=yE _ _ _ _ _ _ hq;refine hr q t l ?_;have:=zaX ow B e es p (q - B) (by omega);rw[show B+(q - B)=q by omega]at this;rw[this];exact hq
  | zero=>
   have h0:=A2 0 (by simp);simp only[List.getElem_cons_zero]at h0⊢;have h1:=congrArg List.head? eX;cases e<;>simp only[NA,List.head?_cons,Option.some.injEq]at h1<;>try (subst h1;exact h0)
   rename_i t l;cases hb:ow.any (Nat.beq p)
   ·simp only[hb,cond_false]at h1;subst h1;exact h0
   ·exact hr (B+p) t l (by simp only[XA,hb,cond_true,MA])
def zkW{outer own:Nat→Prop}{w0:World}{h:Nat→Option sA}(hh:iB w0 outer own ρ h w):∀(ks:List jB) (ats:List Ty) (x:aB ats) (k:Nat) (u:Nat→Value),tC ks ats=true→
  (∀q row,EA ks k (bB ats x) q=some row→h q=some row)→
  (∀j (hj:j<(FB ks k (bB ats x)).length),VR w ρ (rA outer ρ h) (u j) (FB ks k (bB ats x))[j])→∀v∈bB ats x,Bd v:=by
 intro ks;induction ks with
 | nil=>
  intro ats x k u hk hE hS v hv;cases ats with
  | nil=>simp[bB]at hv
  | cons=>simp[tC]at hk
 | cons g ks ih=>
  intro ats x k u hk hE hS v hv;cases ats with
  | nil=>cases g<;>simp[tC]at hk
  | cons t ats=>
   obtain⟨x0,y,he⟩:=zrk x;rw[he]at hE hS hv;cases g with
   | plain=>
    simp only[tC]at hk
    rcases List.mem_cons.1 hv with rfl | hv
    ·exact(hS 0 (by simp[FB])).bd
    ·exact ih ats y (k+1) (λj=>u (j+1)) hk (λq row hq=>hE q row (by simpa only[EA]using hq)) (λj hj=>hS (j+1) (by simp[FB];omega)) v hv
   | mv ow=>
    cases t with
    | v t=>
     simp only[tC,Bool.and_eq_true]at hk;obtain⟨⟨kW,NV⟩,hk⟩:=hk;have NV:=Nat.le_of_ble_eq_true NV;have Z5:HC (.v t) x0= .agg (enc t x0):=by simp only[HC,pK,kW,cond_true]
     rw[Z5]at hE hS hv;have jW:(enc t x0).length=sz t:=cD t x0
     rcases List.mem_cons.1 hv with rfl | hv
     ·have h0:=hS 0 (by simp[FB]);simp only[FB,List.getElem_cons_zero]at h0;generalize u 0=u0 at h0;cases h0 with
      | agg _ vsA hs oX=>
      refine .agg _ (zfy ow (128 *k) _ 0 (λj hj=>(oX j hj).bd) λq t' l hq=>?_);obtain⟨_,_,_,e1,e2⟩:=yE _ _ _ _ _ _ hq;refine zkI hh (hE q ⟨.arr t' l, .own⟩ ?_);simp only[EA];rw[mC,hq]
     ·refine ih ats y (k+1) (λj=>u (j+1)) hk (λq row hq=>hE q row ?_) (λj hj=>hS (j+1) (by simp[FB];omega)) v hv;have tX:=zG ks (k+1) _ q row hq;simp only[EA];rw[mC,ND _ _ _ _ _ (by omega)];exact hq
    | _=>simp[tC]at hk
   | ptr ow=>
    cases t with
    | cells t=>
     simp only[tC,Bool.and_eq_true]at hk;obtain⟨NV,hk⟩:=hk;have NV:=Nat.le_of_ble_eq_true NV;simp only[HC]at hE hS hv;have jW:(enc t x0).length=sz t:=cD t x0;have HV:=hE (128 *k+127) _ (by simp only[EA];exact MA _ _ _)
     rcases List.mem_cons.1 hv with rfl | hv
     ·obtain⟨ri,_,PV,_⟩:=hh.rows _ _ HV;refine .agg _ (zfy ow (128 *k) _ 0 (λj hj=>?_) λq t' l hq=>?_)
      ·obtain⟨_,x,_,h2⟩:=PV.2 j hj;exact h2.bd
      ·obtain⟨_,_,_,e1,e2⟩:=yE _ _ _ _ _ _ hq;refine zkI hh (hE q ⟨.arr t' l, .own⟩ ?_);simp only[EA];rw[BA _ _ _ _ (by omega),mC,hq]
     ·refine ih ats y (k+1) (λj=>u (j+1)) hk (λq row hq=>hE q row ?_) (λj hj=>hS (j+1) (by simp[FB];omega)) v hv;have tX:=zG ks (k+1) _ q row hq;simp only[EA];rw[BA _ _ _ _ (by omega),mC,ND _ _ _ _ _ (by omega)];exact hq
    | _=>simp[tC]at hk
end
end Go.D
namespace Go.D
variable [jA]
section
variable {C:Cx} {w0:World} {outer own D:Nat→Prop} {R:Type} {st st1 st2:St} {ρ ρ1 ρ2:Nat→Option RI} {a a1 a2:Act} {w w1 w2:World} {j:JI}
omit [jA]in
def zrh{t:Ty}{ats:List Ty}{as:List V}{x:aB (t :: ats)}(hd:mD (t :: ats) as=some x):
  ∃v vs y,as=v :: vs∧∃(x0:t.T),VD t v=some x0∧mD ats vs=some y∧bB (t :: ats) x=HC t x0 :: bB ats y:=by
 cases ats with
 | nil=>
  cases as with
  | nil=>simp[mD]at hd
  | cons v vs=>
   cases vs with
   | nil=>exact⟨v,[],(),rfl,x,by simpa[mD]using hd,rfl,rfl⟩
   | cons=>simp[mD]at hd
 | cons d r=>
  cases as with
  | nil=>simp[mD]at hd
  | cons v vs=>
   simp only[mD]at hd;obtain⟨x0,h1,h2⟩:=Option.bind_eq_some_iff.1 hd;obtain⟨y,h3,h4⟩:=Option.bind_eq_some_iff.1 h2;cases h4;exact⟨v,vs,y,rfl,x0,h1,h3,rfl⟩
omit [jA]in
def zo6:∀(ks:List jB) (ats:List Ty) (as:List V) (x:aB ats) (k:Nat),tC ks ats=true→mD ats as=some x→
  (∀bs vs h,LB ks (bB ats x) bs vs h=LB ks as bs vs h)∧∀bs q b,kB ks k bs q=some b→∃row,EA ks k as q=some row:=by
 intro ks;induction ks with
 | nil=>
  intro ats as x k hk hd;cases ats with
  | nil=>cases as with
   | nil=>exact⟨λ_ _ _=>rfl,λbs q b h=>by simp[kB]at h⟩
   | cons=>simp[mD]at hd
  | cons=>simp[tC]at hk
 | cons g ks ih=>
  intro ats as x k hk hd;cases ats with
  | nil=>cases g<;>simp[tC]at hk
  | cons t ats=>
   obtain⟨v,vs,y,rfl,x0,h1,h3,h4⟩:=zrh hd;rw[h4];cases g with
   | plain=>
    simp only[tC]at hk;obtain⟨e1,e2⟩:=ih ats vs y (k+1) hk h3;exact⟨λbs ws h=>e1 bs ws h,λbs q b h=>by simp only[kB]at h;exact e2 bs q b h⟩
   | mv ow=>
    cases t with
    | v t=>
     simp only[tC,Bool.and_eq_true]at hk;obtain⟨⟨kW,NV⟩,hk⟩:=hk;have NV:=Nat.le_of_ble_eq_true NV;obtain⟨e1,e2⟩:=ih ats vs y (k+1) hk h3;simp only[VD]at h1;split at h1
     case h_2=>simp[kW]at h1
     rename_i cs;simp only[kW,cond_true]at h1;have jW:(enc t x0).length=sz t:=cD t x0;have J2:cs.length=sz t:=by rw[(xF t h1).len,jW]
     refine⟨λbs ws h=>e1 bs ws h,λbs q b h=>?_⟩;simp only[kB]at h;have tX:=(sF _ _ _ _ _ h).1;simp only[EA];rw[mC,ND _ _ _ _ _ (by omega)];exact e2 bs q b h
    | _=>simp[tC]at hk
   | ptr ow=>
    cases t with
    | cells t=>
     simp only[tC,Bool.and_eq_true]at hk;obtain⟨NV,hk⟩:=hk;have NV:=Nat.le_of_ble_eq_true NV;obtain⟨e1,e2⟩:=ih ats vs y (k+1) hk h3;simp only[VD]at h1;split at h1
     ·rename_i cs;have hl:=(xF t h1).len;refine⟨λbs ws h=>?_,λbs q b h=>?_⟩
      ·cases bs with
       | nil=>rfl
       | cons b bs=>simp only[HC,LB, ←hl,e1]
      ·cases bs with
       | nil=>simp[kB]at h
       | cons c bs=>
        simp only[kB]at h;simp only[EA]
        by_cases hq:q=128 *k+127
        ·subst hq;exact⟨_,MA _ _ _⟩
        ·rw[if_neg hq]at h;have tX:=(sF _ _ _ _ _ h).1;have jW:(enc t x0).length=sz t:=cD t x0;rw[BA _ _ _ _ hq,mC,ND _ _ _ _ _ (by omega)];exact e2 bs q b h
     ·cases h1
    | _=>simp[tC]at hk
def zr3(hh:iB w0 outer own ρ st.h w):∀(ks:List jB) (as:List V) (k:Nat) (us:List V),dG st ks as k=some us→
  ∃uc:Nat→Value,(∀j (hj:j<us.length),VR w ρ (rA outer ρ st.h) (uc j) us[j])∧
   ∀(bs:List Nat) (vs:List V) (h0:Nat→Option sA) (r:Nat) (row:sA),LB ks as bs vs h0 r=some row→h0 r=some row∨
    ∃q off n cs ri,kB ks k bs q=some r∧row=⟨.box ((vs.drop off).take n), .own⟩∧off+n≤us.length∧st.h q=some ⟨.box cs, .own⟩∧ρ q=some ri∧ri.nl=false∧
     ∀i,i<n→w.frozen? (at_ ri.b i)=false∧w.cell? (at_ ri.b i)=some (uc (off+i)):=by
 intro ks;induction ks with
 | nil=>
  intro as k us h;cases as with
  | nil=>
   simp only[dG,Option.some.injEq]at h;subst h;exact⟨λ_=>undef,λj hj=>by simp at hj,λbs vs h0 r row hr=> .inl (by simpa[LB]using hr)⟩
  | cons=>simp[dG]at h
 | cons g ks ih=>
  intro as k us h;cases g with
  | plain=>
   cases as with
   | nil=>simp[dG]at h
   | cons v as=>
    simp only[dG]at h;obtain⟨uc,h1,h2⟩:=ih as (k+1) us h;exact⟨uc,h1,λbs vs h0 r row hr=>by simp only[LB]at hr;simp only[kB];exact h2 bs vs h0 r row hr⟩
  | mv ow=>
   cases as with
   | nil=>simp[dG]at h
   | cons v as=>
    simp only[dG]at h;obtain⟨uc,h1,h2⟩:=ih as (k+1) us h;exact⟨uc,h1,λbs vs h0 r row hr=>by simp only[LB]at hr;simp only[kB];exact h2 bs vs h0 r row hr⟩
  | ptr ow=>
   cases as with
   | nil=>simp[dG]at h
   | cons v as=>
    cases v with
    | agg cs0=>
     simp only[dG]at h;split at h
     case h_2=>cases h
     rename_i cs us' HV m6;cases hb:Nat.beq cs.length cs0.length
     case false=>simp[hb]at h
     simp only[hb,cond_true,Option.some.injEq]at h;subst h;have hl:=Nat.eq_of_beq_eq_true hb;obtain⟨uc,h1,h2⟩:=ih as (k+1) us' m6;obtain⟨ri,hρ,PV,_⟩:=hh.rows _ _ HV;refine⟨λj=>if j<cs.length then(w.cell? (at_ ri.b j)).getD undef else uc (j - cs.length),λj hj=>?_,λbs vs h0 r row hr=>?_⟩
     ·dsimp only
      by_cases PW:j<cs.length
      ·rw[if_pos PW,List.getElem_append_left PW];obtain⟨_,u,f1,f2⟩:=PV.2 j PW;rw[f1];exact f2
      ·rw[if_neg PW,List.getElem_append_right (by omega)];exact h1 _ _
     ·cases bs with
      | nil=>exact .inl (by simpa[LB]using hr)
      | cons b bs=>
       simp only[LB]at hr
       by_cases hrb:r=b
       ·subst hrb;rw[MA]at hr;cases hr;refine .inr ⟨128 *k+127,0,cs0.length,cs,ri,by simp[kB],by simp,by simp;omega,HV,hρ,PV.1,λi hi=>?_⟩;obtain⟨f0,u,f1,f2⟩:=PV.2 i (by omega);refine⟨f0,?_⟩;dsimp only;rw[if_pos (by omega)];simp[f1]
       ·rw[BA _ _ _ _ hrb]at hr
        rcases h2 bs _ h0 r row hr with h3 | ⟨q,off,n,cs',ri',e1,e2,e3,e4,e5,e6,e7⟩
        ·exact .inl h3
        ·refine .inr ⟨q,cs0.length+off,n,cs',ri',?_,by rw[e2,List.drop_drop],by simp;omega,e4,e5,e6,λi hi=>?_⟩
         ·have:=(sF _ _ _ _ _ e1).1;simp only[kB];rw[if_neg (by omega)];exact e1
         ·obtain⟨g1,g2⟩:=e7 i hi;refine⟨g1,?_⟩;dsimp only;rw[g2,if_neg (by omega)];congr 2;omega
    | _=>simp[dG]at h
omit [jA]in
def zpT{h:Nat→Option sA}{v:V}{x:V×List Nat}(hf:xG h v=some x):∀r∈x.2,∃t l m,h r=some ⟨.arr t l,m⟩:=by
 unfold xG at hf;split at hf
 ·rename_i r;split at hf
  ·rename_i t l m hr;cases hm:m.isLock<;>simp[hm]at hf
   subst hf;intro q hq;simp at hq;subst hq;exact⟨_,_,_,hr⟩
  ·cases hf
 ·rename_i r t off len;split at hf
  ·rename_i t' l m hr;cases hm:m.isLock
   ·simp only[hm,cond_false]at hf;split at hf
    ·simp at hf;subst hf;intro q hq;simp at hq;subst hq;exact⟨_,_,_,hr⟩
    ·cases hf
   ·simp[hm]at hf
  ·cases hf
 ·cases hb:lG 8 v<;>simp[hb]at hf
  subst hf;simp
omit [jA]in
def sT(ow:List Nat):∀(cs:List V) (p:Nat) (h:Nat→Option sA) (x:List V×(Nat→Option sA)) (q:Nat) (c:List V),MD ow p cs h=some x→h q=some ⟨.box c, .own⟩→x.2 q=some ⟨.box c, .own⟩
 | [],p,h,x,q,c,ht,hq=>by simp[MD]at ht;subst ht;exact hq
 | v :: cs,p,h,x,q,c,ht,hq=>by
  simp only[MD]at ht;cases hb:ow.any (Nat.beq p)
  ·simp only[hb,cond_false]at ht;split at ht
   case h_2=>cases ht
   rename_i c' ids aZ;split at ht
   case h_2=>cases ht
   rename_i hr;cases ht;have hx:=sT ow cs _ _ _ q c hr;refine hx ?_;rw[pF,if_neg]
   ·exact hq
   ·intro hm;obtain⟨t,l,m,h3⟩:=zpT aZ q hm;rw[hq]at h3;cases h3
  ·simp only[hb,cond_true]at ht;split at ht
   ·split at ht
    case h_2=>cases ht
    rename_i HV;split at ht
    case h_2=>cases ht
    rename_i hr;cases ht;have hx:=sT ow cs _ _ _ q c hr;refine hx ?_;rw[BA _ _ _ _ (by rintro rfl;rw[HV]at hq;cases hq)];exact hq
   ·split at ht
    case h_2=>cases ht
    rename_i hr;cases ht;have hx:=sT ow cs _ _ _ q c hr;exact hx hq
   ·split at ht
    case h_2=>cases ht
    rename_i HV;split at ht
    case h_2=>cases ht
    rename_i hr;cases ht;have hx:=sT ow cs _ _ _ q c hr;refine hx ?_;rw[BA _ _ _ _ (by rintro rfl;rw[HV]at hq;cases hq)];exact hq
   ·cases ht
open Classical in
theorem zuK{fn:Func}{ks:List jB}{as:List V}{bs ow:List Nat}{base:Nat}{shape:List (Bool×Nat)}{rts:List Ty}{vs us rs:List V}{h2:Nat→Option sA}{r:aB rts}
  (hr:VA C w0 outer own ρ st a w) (hf:∀q,st.nx≤q→ρ q=none) (jX:qH C.P st fn.results.toList shape=some vs) (m6:dG st ks as 0=some us)
  (zW:MD ow 0 (vs++us) st.h=some (rs,h2)) (hun:VI rts rs=some r) (KV:(iE rts r).length≤128) (m4:bs.Nodup) (F8:∀b∈bs,Out base 128 b):
  ∃v,(results fn a.tmps).run C.P w= .ok v w∧∃ρf,iB w0 outer own ρf (WE ks as bs ow base shape (iE rts r)) w∧
   VR w ρf (rA outer ρf (WE ks as bs ow base shape (iE rts r))) v (pI shape (NA ow base 0 (iE rts r)))∧
   (∀q b,kB ks 0 bs q=some b→ρf b=ρ q)∧(∀r,ρf r≠none→(base≤r∧r<base+128)∨r∈bs):=by
 obtain⟨rv,cells,k1,k2,k3,k4⟩:=zqy hr jX;obtain⟨uc,u1,u2⟩:=zr3 hr.heap ks as 0 us m6;have lW:=zeu rts rs r hun;have n6:=tP ow _ _ _ _ zW;simp only at n6;generalize hR0:iE rts r=R0 at *;have hRl:R0.length=vs.length+us.length:=by rw[←lW.len,n6,List.length_append]
 have D9:UK shape=vs.length:=by rw[k1.len.1,k2]
 let M:=st.nx;let u:Nat→Value:=λj=>if j<vs.length then cells.getD j undef else uc (j - vs.length)
 have T9:∀q,st.nx≤q→st.h q=none:=λq hq=>by
  cases hg:st.h q with
  | none=>rfl
  | some row=>obtain⟨ri,h3,_⟩:=hr.heap.rows _ _ hg;rw[hf q hq]at h3;cases h3
 obtain⟨ρ2,g2,T,hTl⟩:=nU ow M 128 (vs++us) 0 st.h h2 rs R0 ρ st.h u zW lW (by rw[List.length_append];omega) hr.heap (λj hj=>by
   simp only[u]
   by_cases PW:j<vs.length
   ·rw[if_pos PW,List.getElem_append_left PW];exact k3 j PW
   ·rw[if_neg PW,List.getElem_append_right (by omega)];exact u1 _ (by simp at hj;omega)) (λ_ _ h=>h) (λq _=>T9 _ (by simp only[M];omega)) (λq _ _=>hf _ (by simp only[M];omega))
 let ρf:Nat→Option RI:=λr=>if base≤r∧r<base+128 then ρ2 (M+(r - base))else if h:∃q,kB ks 0 bs q=some r then ρ (Classical.choose h)else none
 let φ:Nat→Nat:=λr=>if base≤r∧r<base+128 then M+(r - base)else if h:∃q,kB ks 0 bs q=some r then Classical.choose h else 0
 have sY:∀q,q<128→ρf (base+q)=ρ2 (M+q)∧φ (base+q)=M+q:=λq hq=>by
  have h1:base≤base+q∧base+q<base+128:=by omega
  simp only[ρf,φ,if_pos h1];have:base+q - base=q:=by omega
  simp[this]
 have KZ:∀q b,kB ks 0 bs q=some b→ρf b=ρ q∧φ b=q:=λq b hq=>by
  have h1:¬(base≤b∧b<base+128):=F8 b (sF _ _ _ _ _ hq).2.2;have h2:∃q,kB ks 0 bs q=some b:=⟨q,hq⟩;have h3:Classical.choose h2=q:=pU ks 0 bs _ _ b m4 (Classical.choose_spec h2) hq;simp only[ρf,φ,if_neg h1,dif_pos h2,h3];exact⟨trivial,trivial⟩
 -- the rows
 have HV:∀q row,WE ks as bs ow base shape R0 q=some row→
   (∃p t l,p<128∧q=base+p∧row=⟨.arr t l, .own⟩∧g2 (M+p)=some row)∨
   ∃p off n cs ri,kB ks 0 bs p=some q∧row=⟨.box ((((NA ow base 0 R0).drop (UK shape)).drop off).take n), .own⟩∧off+n≤us.length∧g2 p=some ⟨.box cs, .own⟩∧ρ p=some ri∧ri.nl=false∧p<M∧
    ∀i,i<n→w.frozen? (at_ ri.b i)=false∧w.cell? (at_ ri.b i)=some (uc (off+i)):=λq row hq=>by
  rcases u2 bs _ _ q row hq with h1 | ⟨p,off,n,cs,ri,e1,e2,e3,e4,e5,e6,e7⟩
  ·obtain⟨t,l,h3,h4,h5⟩:=yE _ _ _ _ _ _ h1;refine .inl ⟨q - base,t,l,by omega,by omega,h3,?_⟩;rw[T.new (q - base) (by omega) (by omega), ←XT ow base M R0 0 (q - base),show base+(q - base)=q by omega];exact h1
  ·refine .inr ⟨p,off,n,cs,ri,e1,e2,e3,T.lies _ _ (sT ow _ _ _ _ p cs zW e4),e5,e6,?_,e7⟩
   rcases Nat.lt_or_ge p st.nx with h | h
   ·exact h
   ·rw[hf p h]at e5;cases e5
 have aW:∀b,rA outer ρf (WE ks as bs ow base shape R0) b→rA outer ρ2 g2 b:=by
  rintro b (hb | ⟨q,row,ri,f1,f2,f3,f4,f5⟩)
  ·exact .inl hb
  ·rcases HV q row f1 with⟨p,t,l,h1,rfl,h3,h4⟩ | ⟨p,off,n,cs,ri',e1,e2,e3,e4,e5,e6,e7,e8⟩
   ·rw[(sY p h1).1]at f3;exact .inr ⟨_,row,ri,h4,f2,f3,f4,f5⟩
   ·rw[(KZ p q e1).1]at f3;exact .inr ⟨p,_,ri,e4,rfl,T.ext _ _ f3,f4,f5⟩
 have hX:∀j (hj:j<(NA ow base 0 R0).length),VR w ρf (rA outer ρf (WE ks as bs ow base shape R0)) (u j) (NA ow base 0 R0)[j]:=
  bU (w:=w) (ρ:=ρ2) (ρ2:=ρf) (bad:=rA outer ρ2 g2) (bad2:=rA outer ρf (WE ks as bs ow base shape R0)) ow M base R0 0 u (λq _ hq _ _=>(sY q (by omega)).1) (λj hj=>(T.closed j hj).1) aW T.vals
 refine⟨_,k4,ρf,?_,?_,λq b hq=>(KZ q b hq).1,λq hq=>?_⟩
 ·refine T.heap.sub φ T.heap.wx T.heap.old T.heap.outLt (λq row hq=>?_) (λq q' row row' h1 h2 h3=>?_)
  ·rcases HV q row hq with⟨p,t,l,h1,rfl,rfl,h4⟩ | ⟨p,off,n,cs,ri,e1,e2,e3,e4,e5,e6,e7,e8⟩
   ·obtain⟨ri,f1,f2,f3⟩:=T.heap.rows _ _ h4;exact⟨_,ri,by rw[(sY p h1).2];exact h4,by rw[(sY p h1).1];exact f1,by rw[(sY p h1).2];exact f1,zau f2 aW ρf,λhn=>(f3 hn).1⟩
   ·obtain⟨ri',f1,f2,f3⟩:=T.heap.rows _ _ e4;rw[T.ext _ _ e5]at f1;cases f1;refine⟨_,ri,by rw[(KZ p q e1).2];exact e4,by rw[(KZ p q e1).1];exact e5,by rw[(KZ p q e1).2];exact T.ext _ _ e5,?_,λhn=>⟨(f3 hn).1.1,λ_=>(f3 hn).1.2 rfl⟩⟩;rw[e2];refine⟨e6,λi hi=>?_⟩
    have tW:i<n∧vs.length+off+i<(NA ow base 0 R0).length:=by
     simp only[List.length_take,List.length_drop]at hi;omega
    obtain⟨g3,g4⟩:=e8 i tW.1;refine⟨g3,_,g4,?_⟩;have h5:=hX (vs.length+(off+i)) (by omega);simp only[u]at h5;rw[if_neg (by omega),show vs.length+(off+i) - vs.length=off+i by omega]at h5;simp only[List.getElem_take,List.getElem_drop,D9];exact h5
  ·rcases HV q row h1 with⟨p,t,l,f1,rfl,f3,f4⟩ | ⟨p,off,n,cs,ri,e1,e2,e3,e4,e5,e6,e7,e8⟩<;>
   rcases HV q' row' h2 with⟨p',t',l',f1',rfl,f3',f4'⟩ | ⟨p',off',n',cs',ri',e1',e2',e3',e4',e5',e6',e7',e8'⟩
   ·rw[(sY p f1).2,(sY p' f1').2]at h3;omega
   ·rw[(sY p f1).2,(KZ p' q' e1').2]at h3;omega
   ·rw[(KZ p q e1).2,(sY p' f1').2]at h3;omega
   ·rw[(KZ p q e1).2,(KZ p' q' e1').2]at h3;subst h3;rw[e1]at e1';exact Option.some.inj e1'
 ·refine ztE k1 (by rw[qF];omega) λj hj JW=>?_;have h5:=hX j hj;simp only[u]at h5;rw[if_pos (by omega)]at h5;exact h5
 ·by_cases h1:base≤q∧q<base+128
  ·exact .inl h1
  ·by_cases h2:∃p,kB ks 0 bs p=some q
   ·obtain⟨p,h2⟩:=h2;exact .inr (sF _ _ _ _ _ h2).2.2
   ·simp only[ρf,if_neg h1,dif_neg h2]at hq;exact absurd rfl hq
def zsx (hC : IF C) (hΦ : XF C) {f : Nat} {fn : Func} {body : Code} (hf : C.P.funcs[f]? = some fn) (hb : fn.body = some body) (yW : (fn.name == "runtime.NumGoroutine") = false)
  (hnt:C.nt=fn.ntmps) (an:An) (ks:List jB) (ow:List Nat) (shape:List (Bool×Nat)) (ats rts:List Ty) (F:aB ats→Option (aB rts))
  (UX:tC ks ats=true) (M4:Nat.ble ks.length fn.ntmps=true)
  (G8:∀x r,xA ats x→F x=some r→fV C fn body an ks ow shape rts (bB ats x)=some r):
  pB C.P f ⟨ks,aB ats,aB rts,mD ats,F,iE rts,shape,ow,false⟩ C.g:=by
 intro w args as outer ownw ρ x r base bs NV GY hh wX xW m4 F8 eZ hF o6 hgl;simp only at NV GY hh wX xW eZ hF o6;have M4:=Nat.le_of_ble_eq_true M4;refine .inl ⟨?_,calls_of_wp hf hb ?_⟩
 ·have CX : ¬ fn.name = "runtime.NumGoroutine" := by simpa using yW
  simp[callFunc,program,hf,hb,CX,Sem.run]
 obtain⟨pb1,pb2⟩:=zo6 ks ats as x 0 UX eZ;obtain⟨ρ2,H1,H2,H3,H4,H5⟩:=zjD UX eZ hh xW;obtain⟨e1,e2⟩:=zjX (w:=w) (ρ:=ρ) H2 ks ats as x 0 (λj=>args.getD j undef) UX eZ (λq t h1 h2=>H5 q _ h1 h2) wX;have V8:∀base rs,WE ks (bB ats x) bs ow base shape rs=WE ks as bs ow base shape rs:=λbase rs=>by simp only[WE,pb1]
 have PY:VA C w outer ownw ρ2 {s:=λi=>match(FB ks 0 (bB ats x)).drop i with | v :: _=>v | []=> .undef,h:=EA ks 0 (bB ats x),nx:=128 *ks.length}
   {tmps:=args++Array.replicate (fn.ntmps - args.size) undef,defers:=[]} w:=by
  refine⟨H1,λi=>?_,by simp;omega,rfl,hgl⟩;show VR w ρ2 _ _ (match(FB ks 0 (bB ats x)).drop i with | v :: _=>v | []=> .undef)
  by_cases hi:i<(FB ks 0 (bB ats x)).length
  ·rw[List.drop_eq_getElem_cons hi];have h3:=e2 i hi;have hia:i<args.size:=by omega
   rw[Array.getD_eq_getD_getElem?]at h3⊢;rw[Array.getElem?_append_left hia];exact h3
  ·rw[List.drop_eq_nil_of_le (by omega)];exact .undef _
 refine zj6 hC hΦ an body (λ_=>True) (zi3 an body) _ _ w ρ2 _ r _ PY (λq hq=>H4 q hq) (G8 x r (zeY ats x (zkW H1 ks ats x 0 (λj=>args.getD j undef) UX (λ_ _ h=>h) λj hj=>e2 j hj)) hF) λe st' a' w' ρ' hg hk=>?_
 have key:(match qH C.P st' fn.results.toList shape,dG st' ks (bB ats x) 0 with
   | some vs,some us=>match MD ow 0 (vs++us) st'.h with
    | some (rs,_)=>VI rts rs
    | none=>none
   | _,_=>none)=some r→a'.defers=[]∧∃v,(results fn a'.tmps).run C.P w'= .ok v w'∧∃v',Ending.returned v= .returned v'∧∃ρf,iB w outer ownw ρf (WE ks as bs ow base shape (iE rts r)) w'∧
   VR w' ρf (rA outer ρf (WE ks as bs ow base shape (iE rts r))) v' (pI shape (NA ow base 0 (iE rts r)))∧
   (∀q b,kB ks 0 bs q=some b→ρf b=ρ q)∧(∀r,ρf r≠none→(base≤r∧r<base+128)∨r∈bs):=by
  intro hk;split at hk
  case h_2=>cases hk
  rename_i vs us jX m6;split at hk
  case h_2=>cases hk
  rename_i rs h2 zW;obtain⟨v,h3,ρf,h4,h5,h6,h7⟩:=zuK (bs:=bs) (base:=base) hg.rel hg.fresh jX m6 zW hk o6 m4 F8;rw[V8]at h4 h5;refine⟨hg.rel.defers,v,h3,v,rfl,ρf,h4,h5,λq b hq=>?_,h7⟩;rw[h6 q b hq];obtain⟨row,HV⟩:=pb2 bs q b hq;obtain⟨ri,h8,_⟩:=hh.rows _ _ HV;rw[hg.ext _ _ (H3 _ _ h8),h8]
 cases e with
 | exit id=>cases hk
 | normal=>exact key hk
 | ret=>exact key hk
noncomputable def zc2(C:Cx)(fn:Func)(body:Code)(an:An)(ks:List jB)(ts:List Ty)(as:List V):Option (aB ts):=
 HE C an body {s:=λi=>match(FB ks 0 as).drop i with | v :: _=>v | []=> .undef,h:=EA ks 0 as,nx:=128 *ks.length} λe st=>
  match e with
  | .exit _=>none
  | _=>match fn.results.toList with
   | [.tmp t]=>match st.s t with
    | .bp b 0=>match st.h b with
     | some ⟨.box cs, .own⟩=>bif cs.all (lG 8)then VI ts cs else none
     | _=>none
    | _=>none
   | _=>none
def zt8{fn:Func}{ks:List jB}{as:List V}{bs:List Nat}{base t b:Nat}{rts:List Ty}{cs:List V}{r:aB rts}
  (hr:VA C w0 outer own ρ st a w) (jX:fn.results.toList=[.tmp t]) (hs:st.s t= .bp b 0) (HV:st.h b=some ⟨.box cs, .own⟩) (KW:cs.all (lG 8)=true) (hun:VI rts cs=some r):
  ∃v,(results fn a.tmps).run C.P w= .ok v w∧∃ρf,iB w0 outer own ρf (AA (λ_=>none) base (some ⟨.box (iE rts r), .own⟩)) w∧
   VR w ρf (rA outer ρf (AA (λ_=>none) base (some ⟨.box (iE rts r), .own⟩))) v (.bp base 0)∧(∀q,ρf q≠none→q=base):=by
 have hv:=hr.slots t;rw[hs]at hv;obtain⟨ri,hρ,PV,z3⟩:=hr.heap.rows _ _ HV;have lW:=zeu rts cs r hun;generalize iE rts r=es at lW;generalize hA:a.tmps.getD t undef=A at hv;cases hv with
 | bp _ _ ri' h1 h2=>
 rw[hρ]at h1;cases h1;let ρf:Nat→Option RI:=λq=>if q=base then some ri else none
 have aW:∀c,rA outer ρf (AA (λ_=>none) base (some ⟨.box es, .own⟩)) c→rA outer ρ st.h c:=by
  rintro c (hb | ⟨q,row,ri',f1,f2,f3,f4,f5⟩)
  ·exact .inl hb
  ·by_cases hq:q=base
   ·subst hq;simp only[ρf,if_true,Option.some.injEq]at f3;subst f3;exact .inr ⟨b,_,ri,HV,rfl,hρ,f4,f5⟩
   ·rw[BA _ _ _ _ hq]at f1;cases f1
 refine⟨.pointer (some (at_ ri.b 0)),?_,ρf,?_, .bp _ _ ri (by simp[ρf]) h2,λq hq=>?_⟩
 ·have:=zfd (P:=C.P) (w:=w) (jL a.tmps) fn.results.toList [.pointer (some (at_ ri.b 0))] (by rw[jX];rfl) (λi hi hi2=>by
   simp only[jX]at hi⊢;have:i=0:=by simp at hi;omega
   subst this;simp only[List.getElem_cons_zero,jL,hA];rfl)
  show((do let vs ←fn.results.mapM (jL a.tmps);pure (if h:vs.size=1 then vs[0]else .tuple vs)):Sem Value).run C.P w=_
  rw[Array.mapM_eq_mapM_toList];simp only[Sem.run_bind,Sem.run_map,this,Result.andThen_ok,Sem.run_pure];rfl
 ·refine hr.heap.sub (λ_=>b) hr.heap.wx hr.heap.old hr.heap.outLt (λq row hq=>?_) (λq q' row row' g1 g2 _=>?_)
  ·by_cases O2:q=base
   ·subst O2;rw[MA]at hq;cases hq;refine⟨_,ri,HV,by simp[ρf],hρ,⟨h2,λj hj=>?_⟩,λhn=>⟨(z3 hn).1.1,λ_=>(z3 hn).1.2 rfl⟩⟩;have JW:j<cs.length:=by rw[lW.len];exact hj
    obtain⟨e1,u,e2,e3⟩:=PV.2 j JW;refine⟨e1,u,e2,VR.sub (lW.get j JW hj) ?_⟩;have hn:=(zbm 8 _ (List.all_eq_true.1 KW _ (List.getElem_mem JW))).1;exact(e3.noRef hn ρf).mono (λ_ _ h=>h) (λ_ _ _=>rfl) λc hc=> .inl (aW c hc)
   ·rw[BA _ _ _ _ O2]at hq;cases hq
  ·have k1:q=base:=by
    rcases Nat.decEq q base with h | h
    ·rw[BA _ _ _ _ h]at g1;cases g1
    ·exact h
   have k2:q'=base:=by
    rcases Nat.decEq q' base with h | h
    ·rw[BA _ _ _ _ h]at g2;cases g2
    ·exact h
   rw[k1,k2]
 ·by_cases h:q=base
  ·exact h
  ·simp only[ρf,if_neg h]at hq;exact absurd rfl hq
omit [jA]in
def zh4:∀(n k:Nat) (bs:List Nat) (q:Nat),kB (List.replicate n .plain) k bs q=none
 | 0,k,bs,q=>by simp[kB]
 | n+1,k,bs,q=>by simp only[List.replicate_succ,kB];exact zh4 n (k+1) bs q
def zs8 (hC : IF C) (hΦ : XF C) {f : Nat} {fn : Func} {body : Code} (hf : C.P.funcs[f]? = some fn) (hb : fn.body = some body) (yW : (fn.name == "runtime.NumGoroutine") = false)
  (hnt:C.nt=fn.ntmps) (an:An) (n:Nat) (shape:List (Bool×Nat)) (ats rts:List Ty) (F:aB ats→Option (aB rts))
  (UX:tC (List.replicate n .plain) ats=true) (M4:Nat.ble n fn.ntmps=true)
  (G8:∀x r,xA ats x→F x=some r→zc2 C fn body an (List.replicate n jB.plain) rts (bB ats x)=some r):
  pB C.P f ⟨List.replicate n .plain,aB ats,aB rts,mD ats,F,iE rts,shape,[],true⟩ C.g:=by
 generalize s6:List.replicate n jB.plain=ks at UX G8⊢;have hkn:ks.length=n:=by rw[←s6];simp
 intro w args as outer ownw ρ x r base bs NV GY hh wX xW m4 F8 eZ hF o6 hgl;simp only at NV GY hh wX xW eZ hF o6;have M4:=Nat.le_of_ble_eq_true M4;refine .inl ⟨?_,calls_of_wp hf hb ?_⟩
 ·have CX : ¬ fn.name = "runtime.NumGoroutine" := by simpa using yW
  simp[callFunc,program,hf,hb,CX,Sem.run]
 obtain⟨ρ2,H1,H2,H3,H4,H5⟩:=zjD UX eZ hh xW;obtain⟨e1,e2⟩:=zjX (w:=w) (ρ:=ρ) H2 ks ats as x 0 (λj=>args.getD j undef) UX eZ (λq t h1 h2=>H5 q _ h1 h2) wX
 have PY:VA C w outer ownw ρ2 {s:=λi=>match(FB ks 0 (bB ats x)).drop i with | v :: _=>v | []=> .undef,h:=EA ks 0 (bB ats x),nx:=128 *ks.length}
   {tmps:=args++Array.replicate (fn.ntmps - args.size) undef,defers:=[]} w:=by
  refine⟨H1,λi=>?_,by simp;omega,rfl,hgl⟩;show VR w ρ2 _ _ (match(FB ks 0 (bB ats x)).drop i with | v :: _=>v | []=> .undef)
  by_cases hi:i<(FB ks 0 (bB ats x)).length
  ·rw[List.drop_eq_getElem_cons hi];have h3:=e2 i hi;have hia:i<args.size:=by omega
   rw[Array.getD_eq_getD_getElem?]at h3⊢;rw[Array.getElem?_append_left hia];exact h3
  ·rw[List.drop_eq_nil_of_le (by omega)];exact .undef _
 refine zj6 hC hΦ an body (λ_=>True) (zi3 an body) _ _ w ρ2 _ r _ PY (λq hq=>H4 q hq) (G8 x r (zeY ats x (zkW H1 ks ats x 0 (λj=>args.getD j undef) UX (λ_ _ h=>h) λj hj=>e2 j hj)) hF) λe st' a' w' ρ' hg hk=>?_
 have key:(match fn.results.toList with
   | [.tmp t]=>match st'.s t with
    | .bp b 0=>match st'.h b with
     | some ⟨.box cs, .own⟩=>bif cs.all (lG 8)then VI rts cs else none
     | _=>none
    | _=>none
   | _=>none)=some r→a'.defers=[]∧∃v,(results fn a'.tmps).run C.P w'= .ok v w'∧∃v',Ending.returned v= .returned v'∧∃ρf,iB w outer ownw ρf (AA (λ_=>none) base (some ⟨.box (iE rts r), .own⟩)) w'∧
   VR w' ρf (rA outer ρf (AA (λ_=>none) base (some ⟨.box (iE rts r), .own⟩))) v' (.bp base 0)∧
   (∀q b,kB ks 0 bs q=some b→ρf b=ρ q)∧(∀r,ρf r≠none→(base≤r∧r<base+128)∨r∈bs):=by
  intro hk;split at hk
  case h_2=>cases hk
  rename_i t jX;split at hk
  case h_2=>cases hk
  rename_i b hs;split at hk
  case h_2=>cases hk
  rename_i cs HV;cases KW:cs.all (lG 8)
  case false=>simp[KW]at hk
  simp only[KW,cond_true]at hk;obtain⟨v,h3,ρf,h4,h5,h6⟩:=zt8 (ks:=ks) (as:=as) (bs:=bs) (base:=base) hg.rel jX hs HV KW hk;refine⟨hg.rel.defers,v,h3,v,rfl,ρf,h4,h5,λq b hq=>?_,λq hq=>?_⟩
  ·rw[←s6,zh4]at hq;cases hq
  ·rw[h6 q hq];exact .inl ⟨Nat.le_refl _,by omega⟩
 cases e with
 | exit id=>cases hk
 | normal=>exact key hk
 | ret=>exact key hk
end
end Go.D
namespace Go.D
inductive LK where
 | i | by | b | s
 | l (t:TN)
 deriving DecidableEq
def lk:TN→List LK
 | .byte=>[.by] | .int=>[.i] | .bool=>[.b] | .str=>[.s] | .bs=>[.l .byte]
 | .Addr=>[.i, .i]
 | .Op=>[.i, .i, .i, .l .byte]
 | .Event=>[.i, .i, .i, .i, .l .byte, .l .Op]
 | .Jar=>[.l .byte]
 | .Dice=>[.l .byte, .i]
 | .Win=>[.i, .l .int]
 | .Ep=>[.i, .l .byte, .i, .i, .l .int]
 | .Chan=>[.i, .l .byte, .i, .l .byte, .i, .i, .l .int, .i, .l .byte, .i, .i, .l .int, .b, .i, .l .byte]
 | .Cand=>[.i, .i, .l .byte, .i]
 | .Paths=>[.i, .i, .l .Cand]
 | .Sess=>[.i, .l .byte, .l .byte, .i, .l .byte, .i, .l .byte, .i, .i, .l .int, .i, .l .byte, .i, .i, .l .int, .b, .i, .l .byte, .i, .i, .l .Cand, .i, .i, .b]
 | .Tab=>[.i, .l .Sess]
 | .Credit=>[.i, .i, .i, .i]
 | .Server=>[.l .bs, .l .byte, .l .byte, .i, .i, .l .Sess, .l .Credit]
 | .Frame=>[.i, .i, .l .byte, .l .byte, .i, .l .byte, .l .byte, .i, .i, .l .byte, .l .byte]
 | .Timer=>[.b, .i, .i, .i]
 | .Client=>[.i, .l .byte, .i, .i, .i, .l .byte, .i, .i, .l .byte, .l .byte, .i, .l .byte, .l .byte, .i, .i, .l .byte, .l .byte, .i, .l .byte, .i, .l .byte, .i, .i, .l .int, .i, .l .byte, .i, .i, .l .int, .b, .i, .l .byte, .b, .i, .i, .i, .b, .i, .i, .i, .i]
 | .Wire=>[.i, .i, .i, .i, .l .byte]
 | .Note=>[.i, .i, .i, .l .byte, .l .byte, .i, .i, .l .byte, .l .byte, .i, .i, .i]
 | .World=>[.i, .l .Client, .l .bs, .l .byte, .l .byte, .i, .i, .l .Sess, .l .Credit, .l .byte, .i, .l .Wire, .l .bs, .l .Note]
 | .Cur=>[.l .byte, .i, .i]
 | .Out=>[.i, .i, .i, .i, .l .byte, .l .byte, .i, .l .byte, .l .byte, .i, .i, .l .byte, .l .byte]
 | .Form=>[.i, .s]
 | .Hash=>[.l .int, .l .byte, .i]
def Mat:LK→V→Prop
 | .i,v=>∃n,HA v=some n
 | .by,v=>∃n,TS v=some n
 | .b,v=>∃n,NH v=some n
 | .s,v=>∃n,UO v=some n
 | .l t,v=>∃n,TA t v=some n
inductive UB:List LK→List V→Prop
 | nil:UB [] []
 | cons {k:LK} {v:V} {ks:List LK} {vs:List V} (h:Mat k v) (r:UB ks vs):UB (k :: ks) (v :: vs)
def UB.app{a b:List LK}{x y:List V}(h:UB a x)(k:UB b y):UB (a++b) (x++y):=by
 induction h with
 | nil=>exact k
 | cons h _ ih=>exact .cons h ih
def UB.len{a:List LK}{x:List V}(h:UB a x):a.length=x.length:=by
 induction h with
 | nil=>rfl
 | cons h _ ih=>simp[ih]
def UB.take{k:LK}{ks:List LK}{x:List V}(h:UB (k :: ks) x):∃v r,x=v :: r∧Mat k v∧UB ks r:=by
 cases h with | cons h r=>exact⟨_,_,rfl,h,r⟩
def TU{α β:Type}{p:V→Option α}{v:V}{a:α}(h:p v=some a)(cs:List V)(k:α→List V→Option β):tk p (v :: cs) k=k a cs:=by simp[tk,h]
def DD{β:Type}(r:β){x:List V}(h:UB [] x):∃y,RB x r=some y:=by cases h;exact⟨r,rfl⟩
def JA{β:Type}{ks:List LK}{K:Int→List V→Option β}{x:List V}(h:UB (.i :: ks) x)(hk:∀a r,UB ks r→∃y,K a r=some y):∃y,tk HA x K=some y:=by
 cases h with | cons h r=>obtain⟨a,h⟩:=h;rw[TU h];exact hk _ _ r
def DM{β:Type}{ks:List LK}{K:Bool→List V→Option β}{x:List V}(h:UB (.b :: ks) x)(hk:∀a r,UB ks r→∃y,K a r=some y):∃y,tk NH x K=some y:=by
 cases h with | cons h r=>obtain⟨a,h⟩:=h;rw[TU h];exact hk _ _ r
def zlj{β:Type}{ks:List LK}{K:List UInt8→List V→Option β}{x:List V}(h:UB (.s :: ks) x)(hk:∀a r,UB ks r→∃y,K a r=some y):∃y,tk UO x K=some y:=by
 cases h with | cons h r=>obtain⟨a,h⟩:=h;rw[TU h];exact hk _ _ r
def YA{β:Type}{t:TN}{ks:List LK}{K:List (El t)→List V→Option β}{x:List V}(h:UB (.l t :: ks) x)(hk:∀a r,UB ks r→∃y,K a r=some y):∃y,tk (TA t) x K=some y:=by
 cases h with | cons h r=>obtain⟨a,h⟩:=h;rw[TU h];exact hk _ _ r
def zsM{x:List V}(h:UB (lk .Addr) x):∃y,zct x=some y:=JA h λ_ _ h=>JA h λ_ _ h=>DD _ h
def zu1{x:List V}(h:UB (lk .Op) x):∃y,zda x=some y:=JA h λ_ _ h=>JA h λ_ _ h=>JA h λ_ _ h=>YA h λ_ _ h=>DD _ h
def zrr{x:List V}(h:UB (lk .Event) x):∃y,zb9 x=some y:=JA h λ_ _ h=>JA h λ_ _ h=>JA h λ_ _ h=>JA h λ_ _ h=>YA h λ_ _ h=>YA h λ_ _ h=>DD _ h
def ztX{x:List V}(h:UB (lk .Jar) x):∃y,zcY x=some y:=YA h λ_ _ h=>DD _ h
def zs7{x:List V}(h:UB (lk .Dice) x):∃y,zcy x=some y:=YA h λ_ _ h=>JA h λ_ _ h=>DD _ h
def ztD{x:List V}(h:UB (lk .Win) x):∃y,zcM x=some y:=JA h λ_ _ h=>YA h λ_ _ h=>DD _ h
def zuS{x:List V}(h:UB (lk .Ep) x):∃y,zc7 x=some y:=JA h λ_ _ h=>YA h λ_ _ h=>JA h λ_ _ h=>JA h λ_ _ h=>YA h λ_ _ h=>DD _ h
def zsT{x:List V}(h:UB (lk .Chan) x):∃y,zcF x=some y:=JA h λ_ _ h=>YA h λ_ _ h=>JA h λ_ _ h=>YA h λ_ _ h=>JA h λ_ _ h=>JA h λ_ _ h=>YA h λ_ _ h=>JA h λ_ _ h=>YA h λ_ _ h=>JA h λ_ _ h=>JA h λ_ _ h=>YA h λ_ _ h=>DM h λ_ _ h=>JA h λ_ _ h=>YA h λ_ _ h=>DD _ h
def zsd{x:List V}(h:UB (lk .Cand) x):∃y,zcm x=some y:=JA h λ_ _ h=>JA h λ_ _ h=>YA h λ_ _ h=>JA h λ_ _ h=>DD _ h
def zru{x:List V}(h:UB (lk .Paths) x):∃y,zbJ x=some y:=JA h λ_ _ h=>JA h λ_ _ h=>YA h λ_ _ h=>DD _ h
def zte{x:List V}(h:UB (lk .Sess) x):∃y,zcH x=some y:=JA h λ_ _ h=>YA h λ_ _ h=>YA h λ_ _ h=>JA h λ_ _ h=>YA h λ_ _ h=>JA h λ_ _ h=>YA h λ_ _ h=>JA h λ_ _ h=>JA h λ_ _ h=>YA h λ_ _ h=>JA h λ_ _ h=>YA h λ_ _ h=>JA h λ_ _ h=>JA h λ_ _ h=>YA h λ_ _ h=>DM h λ_ _ h=>JA h λ_ _ h=>YA h λ_ _ h=>JA h λ_ _ h=>JA h λ_ _ h=>YA h λ_ _ h=>JA h λ_ _ h=>JA h λ_ _ h=>DM h λ_ _ h=>DD _ h
def zti{x:List V}(h:UB (lk .Tab) x):∃y,zcS x=some y:=JA h λ_ _ h=>YA h λ_ _ h=>DD _ h
def zqI{x:List V}(h:UB (lk .Credit) x):∃y,zbw x=some y:=JA h λ_ _ h=>JA h λ_ _ h=>JA h λ_ _ h=>JA h λ_ _ h=>DD _ h
def zqf{x:List V}(h:UB (lk .Server) x):∃y,zbs x=some y:=YA h λ_ _ h=>YA h λ_ _ h=>YA h λ_ _ h=>JA h λ_ _ h=>JA h λ_ _ h=>YA h λ_ _ h=>YA h λ_ _ h=>DD _ h
def zrc{x:List V}(h:UB (lk .Frame) x):∃y,zbY x=some y:=JA h λ_ _ h=>JA h λ_ _ h=>YA h λ_ _ h=>YA h λ_ _ h=>JA h λ_ _ h=>YA h λ_ _ h=>YA h λ_ _ h=>JA h λ_ _ h=>JA h λ_ _ h=>YA h λ_ _ h=>YA h λ_ _ h=>DD _ h
def zrC{x:List V}(h:UB (lk .Timer) x):∃y,zb2 x=some y:=DM h λ_ _ h=>JA h λ_ _ h=>JA h λ_ _ h=>JA h λ_ _ h=>DD _ h
def zqu{x:List V}(h:UB (lk .Client) x):∃y,zbr x=some y:=JA h λ_ _ h=>YA h λ_ _ h=>JA h λ_ _ h=>JA h λ_ _ h=>JA h λ_ _ h=>YA h λ_ _ h=>JA h λ_ _ h=>JA h λ_ _ h=>YA h λ_ _ h=>YA h λ_ _ h=>JA h λ_ _ h=>YA h λ_ _ h=>YA h λ_ _ h=>JA h λ_ _ h=>JA h λ_ _ h=>YA h λ_ _ h=>YA h λ_ _ h=>JA h λ_ _ h=>YA h λ_ _ h=>JA h λ_ _ h=>YA h λ_ _ h=>JA h λ_ _ h=>JA h λ_ _ h=>YA h λ_ _ h=>JA h λ_ _ h=>YA h λ_ _ h=>JA h λ_ _ h=>JA h λ_ _ h=>YA h λ_ _ h=>DM h λ_ _ h=>JA h λ_ _ h=>YA h λ_ _ h=>DM h λ_ _ h=>JA h λ_ _ h=>JA h λ_ _ h=>JA h λ_ _ h=>DM h λ_ _ h=>JA h λ_ _ h=>JA h λ_ _ h=>JA h λ_ _ h=>JA h λ_ _ h=>DD _ h
def zsK{x:List V}(h:UB (lk .Wire) x):∃y,zcB x=some y:=JA h λ_ _ h=>JA h λ_ _ h=>JA h λ_ _ h=>JA h λ_ _ h=>YA h λ_ _ h=>DD _ h
def zsD{x:List V}(h:UB (lk .Note) x):∃y,zci x=some y:=JA h λ_ _ h=>JA h λ_ _ h=>JA h λ_ _ h=>YA h λ_ _ h=>YA h λ_ _ h=>JA h λ_ _ h=>JA h λ_ _ h=>YA h λ_ _ h=>YA h λ_ _ h=>JA h λ_ _ h=>JA h λ_ _ h=>JA h λ_ _ h=>DD _ h
def zqT{x:List V}(h:UB (lk .World) x):∃y,zbM x=some y:=JA h λ_ _ h=>YA h λ_ _ h=>YA h λ_ _ h=>YA h λ_ _ h=>YA h λ_ _ h=>JA h λ_ _ h=>JA h λ_ _ h=>YA h λ_ _ h=>YA h λ_ _ h=>YA h λ_ _ h=>JA h λ_ _ h=>YA h λ_ _ h=>YA h λ_ _ h=>YA h λ_ _ h=>DD _ h
def zug{x:List V}(h:UB (lk .Cur) x):∃y,zc0 x=some y:=YA h λ_ _ h=>JA h λ_ _ h=>JA h λ_ _ h=>DD _ h
def zuq{x:List V}(h:UB (lk .Out) x):∃y,zcU x=some y:=JA h λ_ _ h=>JA h λ_ _ h=>JA h λ_ _ h=>JA h λ_ _ h=>YA h λ_ _ h=>YA h λ_ _ h=>JA h λ_ _ h=>YA h λ_ _ h=>YA h λ_ _ h=>JA h λ_ _ h=>JA h λ_ _ h=>YA h λ_ _ h=>YA h λ_ _ h=>DD _ h
def ztc{x:List V}(h:UB (lk .Form) x):∃y,zcr x=some y:=JA h λ_ _ h=>zlj h λ_ _ h=>DD _ h
def zsV{x:List V}(h:UB (lk .Hash) x):∃y,zcJ x=some y:=YA h λ_ _ h=>YA h λ_ _ h=>JA h λ_ _ h=>DD _ h
def zi7(t:TN)(x:List V)(h:UB (lk t) x):∃y,VE t x=some y:=by
 cases t with
 | byte=>
  cases h with
  | cons h r=>
   obtain⟨a,h⟩:=h;cases r;refine⟨a,?_⟩;simp only[VE];rw[TU h];rfl
 | int=>exact JA h λ_ _ h=>DD _ h
 | bool=>exact DM h λ_ _ h=>DD _ h
 | str=>exact zlj h λ_ _ h=>DD _ h
 | bs=>exact YA h λ_ _ h=>DD _ h
 | Addr=>exact zsM h
 | Op=>exact zu1 h
 | Event=>exact zrr h
 | Jar=>exact ztX h
 | Dice=>exact zs7 h
 | Win=>exact ztD h
 | Ep=>exact zuS h
 | Chan=>exact zsT h
 | Cand=>exact zsd h
 | Paths=>exact zru h
 | Sess=>exact zte h
 | Tab=>exact zti h
 | Credit=>exact zqI h
 | Server=>exact zqf h
 | Frame=>exact zrc h
 | Timer=>exact zrC h
 | Client=>exact zqu h
 | Wire=>exact zsK h
 | Note=>exact zsD h
 | World=>exact zqT h
 | Cur=>exact zug h
 | Out=>exact zuq h
 | Form=>exact ztc h
 | Hash=>exact zsV h
end Go.D
namespace Go.D
variable [jA]
open Go.RowKit Go.ChangeShapes
section
variable {H:Type} {encH:TypeId×Value→H} {P:Program} {W:World}
def dJ:Nat→Option RI:=λ_=>none
def FG:Nat→Prop:=λ_=>False
def hI(P:Program)(tn:TypeId→Option TN):Nat→TypeId→Option (List LK)
 | 0,_=>none
 | d+1,t=>match P.underlying t with
  | some (.int .i64)=>some [.i]
  | some (.int .u8)=>some [.by]
  | some .bool=>some [.b]
  | some .string=>some [.s]
  | some (.slice e)=>(tn e).map λt=>[.l t]
  | some (.struct fs)=>(kindsF (hI P tn d) P 0 fs.toList).bind λks=>bif Nat.beq (P.cellsOf t) ks.length then some ks else none
  | _=>none
where
 kindsF (f:TypeId→Option (List LK)) (P:Program):Nat→List Field→Option (List LK)
  | _,[]=>some []
  | k,x :: xs=>bif Nat.beq x.offset k then
    match f x.type with
    | some ks=>bif Nat.beq (P.cellsOf x.type) ks.length then(kindsF f P (k+ks.length) xs).map λr=>ks++r else none
    | none=>none
   else none
structure pM(P:Program)(tn:TypeId→Option TN)(D:Nat):Prop where
 ok:∀e t,tn e=some t→hI P tn D e=some (lk t)∧P.cellsOf e=sz t
def fH(W:World)(cs:List Value)(vs:List V):Prop:=cs.length=vs.length∧∀j (hj:j<vs.length),VR W dJ FG (cs.getD j undef) vs[j]
def fH.one{c:Value}{v:V}(h:VR W dJ FG c v):fH W [c] [v]:=⟨rfl,λj hj=>by
 have:j=0:=by simp at hj;omega
 subst this;exact h⟩
def fH.app{a b:List Value}{x y:List V}(h:fH W a x)(k:fH W b y):fH W (a++b) (x++y):=by
 refine⟨by simp[h.1,k.1],λj hj=>?_⟩
 by_cases PW:j<x.length
 ·rw[List.getElem_append_left PW,zbq _ _ _ _ (by rw[h.1];exact PW)];exact h.2 j PW
 ·rw[List.getElem_append_right (by omega),zbt _ _ _ _ (by rw[h.1];omega),h.1];exact k.2 _ (by simp at hj;omega)
omit [jA]in
def zue{k:IntKind}{n:Int}(h:(Lit.int k n).wf=true):oE k n:=by
 simp only[Lit.wf,Bool.and_eq_true,decide_eq_true_eq]at h;exact h
omit [jA]in
def zeM{α β:Type}{f:α→Option β}:∀{l:List α} {r:List β},l.mapM f=some r→r.length=l.length∧∀i (hi:i<l.length) (hr:i<r.length),f l[i]=some r[i]
 | [],r,h=>by simp at h;subst h;exact⟨rfl,λi hi=>by simp at hi⟩
 | x :: l,r,h=>by
  rw[List.mapM_cons]at h;cases hx:f x with
  | none=>rw[hx]at h;simp at h
  | some y=>
   rw[hx]at h;cases hl:l.mapM f with
   | none=>rw[hl]at h;simp at h
   | some ys=>
    rw[hl]at h;simp at h;subst h;obtain⟨h1,h2⟩:=zeM hl;refine⟨by simp[h1],λi hi hr=>?_⟩;cases i with
    | zero=>exact hx
    | succ i=>exact h2 i (by simpa using hi) (by simpa using hr)
omit [jA]in
def zh6{α:Type}{p:Nat→α→Prop}:∀(n:Nat),(∀i,i<n→∃x,p i x)→∃l:List α,l.length=n∧∀i (hi:i<l.length),p i l[i]
 | 0,_=>⟨[],rfl,λi hi=>by simp at hi⟩
 | n+1,h=>by
  obtain⟨l,h1,h2⟩:=zh6 n (λi hi=>h i (by omega));obtain⟨x,hx⟩:=h n (by omega);refine⟨l++[x],by simp[h1],λi hi=>?_⟩
  grind
omit [jA]in
def zez{a:Addr}{n:Nat}{cs:List Value}(h:W.cells? 0 a n=some cs):cs.length=n∧∀i (_:i<n),W.cell? (a.add i)=some (cs.getD i undef):=by
 simp only[World.cells?,Nat.zero_le,if_true]at h;obtain⟨h1,h2⟩:=zeM h
 grind
variable (hB:W.heap.size≤jA.base)in
include hB in
theorem zco{tn:TypeId→Option TN}{D:Nat}(hK:pM P tn D){sp:Nat→Bool}{PX:Bool}:∀(fuel:Nat) (T:TypeId) (cs:List Value) (x:DataW H×List MemPlace) (d:Nat) (ks:List LK),
  DataW.trod encH P W 0 sp PX fuel T cs=some x→hI P tn d T=some ks→∃vs,fH W cs vs∧UB ks vs
 | 0,T,cs,x,d,ks,h,hk=>by simp[DataW.trod]at h
 | fuel+1,T,cs,x,0,ks,h,hk=>by simp[hI]at hk
 | fuel+1,T,cs,x,d+1,ks,h,hk=>by
  have slice:∀e,P.underlying T=some (.slice e)→(tn e).map (λt=>[LK.l t])=some ks→∃vs,fH W cs vs∧UB ks vs:=λe hu hk=>by
   obtain⟨t,ht,hk⟩:=Option.map_eq_some_iff.1 hk;subst hk;obtain⟨kk,NV⟩:=hK.ok e t ht;cases cs with
   | nil=>simp[DataW.trod,hu]at h
   | cons v r=>
   cases r with
   | cons v2 r2=>cases v<;>simp[DataW.trod,hu]at h
   | nil=>
   have hv:∃ao len cap,v= .slice ao len cap:=by cases v<;>first | exact⟨_,_,_,rfl⟩ | simp[DataW.trod,hu]at h
   obtain⟨ao,len,cap,rfl⟩:=hv;cases ao with
   | none=>
    have hz:len=0∧cap=0:=by
     cases len<;>cases cap<;>simp[DataW.trod,hu]at h
     exact⟨rfl,rfl⟩
    obtain⟨rfl,rfl⟩:=hz;exact⟨[.nil],fH.one .nil, .cons ⟨[],rfl⟩ .nil⟩
   | some a=>
    simp only[DataW.trod,hu]at h;split at h
    case isFalse=>cases h
    rename_i n4;obtain⟨_,KV,PZ⟩:=n4;obtain⟨elems,GY,_⟩:=Option.bind_eq_some_iff.1 h;rw[NV]at GY;obtain⟨m1,m2⟩:=zeM GY;simp at m1
    have one:∀i,i<len→∃y:El t,∃u:List Value,W.cells? 0 (a.add (i *sz t)) (sz t)=some u∧∀j (_:j<sz t),VR W dJ FG (u.getD j undef) ((enc t y).getD j .undef):=λi hi=>by
     have h1:=m2 i (by simpa using hi) (by omega);simp only[List.getElem_range]at h1;obtain⟨u,h2,h3⟩:=Option.bind_eq_some_iff.1 h1;obtain⟨vs,h4,h5⟩:=zco hK fuel e u _ D (lk t) h3 kk;obtain⟨y,h6⟩:=zi7 t vs h5;have h7:=xF t h6;refine⟨y,u,h2,λj hj=>?_⟩;have JW:j<(enc t y).length:=by rw[cD];exact hj
     have PW:j<vs.length:=by rw[h7.len];exact JW
     rw[List.getD_eq_getElem?_getD (l:=enc t y),List.getElem?_eq_getElem JW];exact VR.sub (h7.get j PW JW) (h4.2 j PW)
    obtain⟨l,Y1,RZ⟩:=zh6 (p:=λi y=>∃u:List Value,W.cells? 0 (a.add (i *sz t)) (sz t)=some u∧∀j (_:j<sz t),VR W dJ FG (u.getD j undef) ((enc t y).getD j .undef)) len one;refine⟨[.sl t l],fH.one ?_, .cons ⟨l,by simp[TA,TN.cast]⟩ .nil⟩;cases l with
    | nil=>
     simp at Y1;subst Y1;exact .slE t _ cap PZ
    | cons y0 l0=>
    -- there is a cell:the address is a plain one
    obtain⟨u0,JZ,_⟩:=RZ 0 (by simp);have jZ:=(zez JZ).2 0 (uO t)
    have V2:a.spot=none:=by
     simp only[World.cell?]at jZ;split at jZ
     ·simp only[Addr.add,Nat.zero_mul,if_true]at jZ;cases hs:a.spot with
      | none=>rfl
      | some _=>rw[hs]at jZ;simp at jZ
     ·cases jZ
    obtain⟨b,off,spot⟩:=a;simp only at V2;subst V2;subst Y1
    refine .slC t _ b off cap (λi j=>(W.cell? (at_ b (off+i *sz t+j))).getD undef) (λh=>h) KV PZ (λ_=> .inl (Nat.lt_of_lt_of_le (AU (show W.cell? (at_ b (off+0 *sz t+0))=_ by
     have h:=jZ;rw[show(⟨b,off,none⟩:Addr)=at_ b off from rfl,kG,kG]at h;exact h)) hB)) (λi hi j hj=>?_) (λi hi j hj=>?_)
    ·obtain⟨u,h1,_⟩:=RZ i hi;have:=(zez h1).2 j hj
     have e:((⟨b,off,none⟩:Addr).add (i *sz t)).add j=at_ b (off+i *sz t+j):=by
      show((at_ b off).add (i *sz t)).add j=_
      rw[kG,kG]
     rw[e]at this;rw[this];rfl
    ·obtain⟨u,h1,h2⟩:=RZ i hi;have:=(zez h1).2 j hj
     have e:((⟨b,off,none⟩:Addr).add (i *sz t)).add j=at_ b (off+i *sz t+j):=by
      show((at_ b off).add (i *sz t)).add j=_
      rw[kG,kG]
     rw[e]at this;rw[this];exact h2 j hj
  simp only[hI]at hk;cases hu:P.underlying T with
  | none=>rw[hu]at hk;cases hk
  | some td=>
   rw[hu]at hk;cases td with
   | int k=>
    cases cs with
    | nil=>simp[DataW.trod,hu]at h
    | cons v r=>
    cases r with
    | cons v2 r2=>cases v<;>simp[DataW.trod,hu]at h
    | nil=>
    cases v with
    | int k' n=>
     simp only[DataW.trod,hu]at h;split at h
     case isFalse=>cases h
     rename_i n4;obtain⟨rfl,hw⟩:=n4;have hf:=zue hw;refine⟨[.int k' n],fH.one (.int _ _ hf),?_⟩;cases k'<;>simp at hk<;>subst hk
     ·exact .cons ⟨n,rfl⟩ .nil
     ·exact .cons ⟨_,rfl⟩ .nil
    | _=>simp[DataW.trod,hu]at h
   | bool=>
    cases cs with
    | nil=>simp[DataW.trod,hu]at h
    | cons v r=>
    cases r with
    | cons v2 r2=>cases v<;>simp[DataW.trod,hu]at h
    | nil=>
    cases v with
    | bool b=>
     simp at hk;subst hk;exact⟨[.bool b],fH.one (.bool _), .cons ⟨b,rfl⟩ .nil⟩
    | _=>simp[DataW.trod,hu]at h
   | string=>
    cases cs with
    | nil=>simp[DataW.trod,hu]at h
    | cons v r=>
    cases r with
    | cons v2 r2=>cases v<;>simp[DataW.trod,hu]at h
    | nil=>
    cases v with
    | string s=>
     simp only[DataW.trod,hu]at h;split at h
     case isFalse=>cases h
     rename_i hs;simp at hk;subst hk;refine⟨[.str s.data.toList],fH.one ?_, .cons ⟨_,rfl⟩ .nil⟩
     have N4:s.data.toList.length≤maxLen:=by
      rw[Array.length_toList];exact hs
     exact VR.str (w:=W) (ρ:=dJ) (bad:=FG) s.data.toList N4
    | _=>simp[DataW.trod,hu]at h
   | slice e=>exact slice e hu hk
   | struct fs=>
    unfold DataW.trod at h;rw[hu]at h;simp only at h;split at h
    case isFalse=>cases h
    rename_i KV;obtain⟨xs,O4,_⟩:=Option.map_eq_some_iff.1 h;clear h slice
    -- the fields
    have go:∀(l:List Field) (k:Nat) (ks:List LK) (xs:List (DataW H×List MemPlace)),hI.kindsF (hI P tn d) P k l=some ks→
      l.mapM (λf=>DataW.trod encH P W 0 sp PX fuel f.type ((cs.drop f.offset).take (P.cellsOf f.type)))=some xs→
      ∃vs,UB ks vs∧k+vs.length≤max k cs.length∧fH W ((cs.drop k).take vs.length) vs:=by
     intro l;induction l with
     | nil=>
      intro k ks xs hk _;simp[hI.kindsF]at hk;subst hk;exact⟨[], .nil,by simp;omega,by simp,λj hj=>by simp at hj⟩
     | cons f l ih=>
      intro k ks xs hk hx;simp only[hI.kindsF]at hk;cases hb:Nat.beq f.offset k
      case false=>simp[hb]at hk
      have YX:=Nat.eq_of_beq_eq_true hb;simp only[hb,cond_true]at hk;split at hk
      case h_2=>cases hk
      rename_i k0 kZ;cases J1:Nat.beq (P.cellsOf f.type) k0.length
      case false=>simp[J1]at hk
      have IZ:=Nat.eq_of_beq_eq_true J1;simp only[J1,cond_true]at hk;obtain⟨r,hr,rfl⟩:=Option.map_eq_some_iff.1 hk;rw[List.mapM_cons]at hx;cases h0:DataW.trod encH P W 0 sp PX fuel f.type ((cs.drop f.offset).take (P.cellsOf f.type))with
      | none=>rw[h0]at hx;simp at hx
      | some y=>
       rw[h0]at hx;cases h1:l.mapM (λf=>DataW.trod encH P W 0 sp PX fuel f.type ((cs.drop f.offset).take (P.cellsOf f.type)))with
       | none=>rw[h1]at hx;simp at hx
       | some ys=>
        obtain⟨v0,g1,g2⟩:=zco hK fuel f.type _ y d k0 h0 kZ;have dX:v0.length=k0.length:=g2.len.symm;rw[←YX]at hr⊢;obtain⟨vs,e1,e2,e3⟩:=ih (f.offset+k0.length) r ys hr h1;have D1:=g1.1;rw[IZ]at D1 g1;simp only[List.length_take,List.length_drop]at D1;refine⟨v0++vs,g2.app e1,by simp;omega,?_⟩
        have es:(cs.drop f.offset).take (v0++vs).length=(cs.drop f.offset).take k0.length++(cs.drop (f.offset+k0.length)).take vs.length:=by
         rw[List.length_append,dX,List.take_add,List.drop_drop]
        rw[es];exact g1.app e3
    obtain⟨ks',uZ,IV⟩:=Option.bind_eq_some_iff.1 hk;cases hb:Nat.beq (P.cellsOf T) ks'.length
    case false=>simp[hb]at IV
    have IZ:=Nat.eq_of_beq_eq_true hb;simp only[hb,cond_true,Option.some.injEq]at IV;subst IV;obtain⟨vs,e1,e2,e3⟩:=go fs.toList 0 ks' xs uZ O4;have hvl:vs.length=cs.length:=by rw[←e1.len,KV,IZ]
    refine⟨vs,?_,e1⟩;rw[List.drop_zero,List.take_of_length_le (by omega)]at e3;exact e3
   | _=>simp at hk
def kV(P:Program)(tn:TypeId→Option TN)(D:Nat)(T:TypeId):Ty→Bool
 | .v t=>(match P.underlying T with
   | some (.struct _)=>t.isAgg
   | some (.int _) | some .bool | some .string=>!t.isAgg
   | _=>false)&&decide (hI P tn D T=some (lk t))
 | .sl t=>(match P.underlying T with
   | some (.slice _)=>true
   | _=>false)&&decide (hI P tn D T=some [.l t])
 | _=>false
variable (hB:W.heap.size≤jA.base)in
include hB in
theorem zuI{tn:TypeId→Option TN}{D:Nat}(hK:pM P tn D){sp:Nat→Bool}{PX:Bool}{T:TypeId}{ty:Ty}(lZ:kV P tn D T ty=true){v:Value}{d:DataW H}{ps:List MemPlace}
  (h:DataW.Trod encH P W 0 sp PX T v d ps) {r:Reach} {b:Nat} (hw:Value.okWide P W r b T v):∃x:ty.T,VR W dJ FG v (HC ty x)∧VD ty (HC ty x)=some x:=by
 obtain⟨fuel,h⟩:=h
 -- a value of one cell
 have QZ:(∀fs,P.underlying T≠some (.struct fs))→(∀n e,P.underlying T≠some (.array n e))→v.cells.toList=[v]:=λh1 h2=>by
  unfold Value.okWide at hw;split at hw
  ·rename_i fs hu;exact absurd hu (h1 _)
  ·rename_i hu;exact absurd hu (h2 _ _)
  ·cases v with
   | agg cs=>
    exfalso;unfold Cell.okWide at hw;split at hw<;>simp_all[Cell.ok]
   | _=>rfl
 cases ty with
 | v t=>
  simp only[kV,Bool.and_eq_true,decide_eq_true_eq]at lZ;obtain⟨vs,h1,h2⟩:=zco hB hK fuel T _ _ D _ h lZ.2;obtain⟨x,hx⟩:=zi7 t vs h2;have hs:=xF t hx
  have hd:VE t (enc t x)=some x:=by
   cases t<;>first | rfl | (simp[VE,enc,tk,TS,RB];done)
  refine⟨x,?_⟩;have TV:∀j (hj:j<(enc t x).length),VR W dJ FG (v.cells.toList.getD j undef) (enc t x)[j]:=λj hj=>VR.sub (hs.get j (by rw[hs.len];exact hj) hj) (h1.2 j (by rw[hs.len];exact hj));cases kW:t.isAgg
  ·obtain⟨c,hc⟩:=zj8 t kW x
   have hv:v.cells.toList=[v]:=by
    refine QZ (λfs hu=>?_) (λn e hu=>?_)
    ·rw[hu]at lZ;simp[kW]at lZ
    ·rw[hu]at lZ;simp at lZ
   have he:HC (.v t) x=c:=by simp[HC,pK,kW,hc]
   rw[he];have h0:=TV 0 (by rw[hc];simp);simp only[hv,hc,List.getElem_cons_zero]at h0;refine⟨h0,?_⟩;rw[hc]at hd;cases c<;>first | (simp only[VD,kW,cond_false];exact hd) | skip
   exfalso;have:=zjf t x;rw[hc]at this;simp[V.leaf]at this
  ·have hu:∃fs,P.underlying T=some (.struct fs):=by
    revert lZ
    cases P.underlying T with
    | none=>simp
    | some td=>cases td<;>simp[kW]
   obtain⟨fs,hu⟩:=hu;unfold Value.okWide at hw;rw[hu]at hw;obtain⟨cs,rfl,NV,_⟩:=hw;have he:HC (.v t) x= .agg (enc t x):=by simp[HC,pK,kW]
   rw[he];refine⟨.agg _ _ ?_ λj hj=>?_,by simp only[VD,kW,cond_true];exact hd⟩
   ·have:=h1.1;simp only[Value.cells,Array.length_toList]at this;rw[this,hs.len]
   ·have:=TV j hj;simp only[Value.cells]at this;rw[Array.getD_eq_getD_getElem?];rw[List.getD_eq_getElem?_getD]at this;simpa using this
 | sl t=>
  simp only[kV,Bool.and_eq_true,decide_eq_true_eq]at lZ;obtain⟨vs,h1,h2⟩:=zco hB hK fuel T _ _ D _ h lZ.2;obtain⟨c,r,rfl,⟨l,hl⟩,hr⟩:=h2.take;cases hr
  have hv:v.cells.toList=[v]:=by
   refine QZ (λfs hu=>?_) (λn e hu=>?_)
   ·rw[hu]at lZ;simp at lZ
   ·rw[hu]at lZ;simp at lZ
  refine⟨l,?_,by simp[VD,HC,TA,TN.cast]⟩;have h0:=h1.2 0 (by simp);simp only[hv]at h0;exact VR.sub (UA hl) h0
 | _=>simp[kV]at lZ
def IM(P:Program)(tn:TypeId→Option TN)(D:Nat):List TypeId→List Ty→Bool
 | [],[]=>true
 | T :: Ts,t :: ts=>kV P tn D T t&&IM P tn D Ts ts
 | _,_=>false
variable (hB:W.heap.size≤jA.base)in
include hB in
theorem zj9{tn:TypeId→Option TN}{D:Nat}(hK:pM P tn D){sp:Nat→Bool}{PX:Bool}{r:Reach}{b:Nat}:∀(Ts:List TypeId) (ats:List Ty) (vs:List Value) (ds:List (DataW H)) (ps:List MemPlace),
  IM P tn D Ts ats=true→DataW.TrodAll encH P W 0 sp PX Ts vs ds ps→(∀(j:Nat) t v,Ts[j]?=some t→vs[j]?=some v→Value.okWide P W r b t v)→
  vs.length=ats.length∧∃x:aB ats,mD ats (bB ats x)=some x∧(bB ats x).length=ats.length∧∀j (hj:j<(bB ats x).length),VR W dJ FG (vs.getD j undef) (bB ats x)[j]
 | [],[],vs,ds,ps,_,h,_=>by
  cases vs<;>cases ds<;>simp[DataW.TrodAll]at h
  exact⟨rfl,(),rfl,rfl,λj hj=>by simp[bB]at hj⟩
 | [],_ :: _,vs,ds,ps,ht,_,_=>by simp[IM]at ht
 | _ :: _,[],vs,ds,ps,ht,_,_=>by simp[IM]at ht
 | T :: Ts,t :: ts,vs,ds,ps,ht,h,hw=>by
  simp only[IM,Bool.and_eq_true]at ht;obtain⟨v,vs',d,ds',p,q,rfl,rfl,rfl,h0,h1⟩:=ChangeShapes.trodAll_cons h;obtain⟨x0,k1,k2⟩:=zuI hB hK ht.1 h0 (hw 0 T v rfl rfl);obtain⟨e1,y,e2,e3,e4⟩:=zj9 hK Ts ts vs' ds' q ht.2 h1 (λj t v h1 h2=>hw (j+1) t v h1 h2);refine⟨by simp[e1],?_⟩;cases ts with
  | nil=>
   refine⟨x0,by simpa[mD,bB]using k2,rfl,λj hj=>?_⟩;have:j=0:=by simp[bB]at hj;omega
   subst this;exact k1
  | cons d r=>
   refine⟨(x0,y),?_,by simp[bB]at e3⊢;exact e3,λj hj=>?_⟩
   ·simp only[mD,bB];rw[k2];simp only[Option.bind_some];rw[e2];rfl
   ·cases j with
    | zero=>exact k1
    | succ j=>exact e4 j (by simpa[bB]using hj)
def OD(n:Nat):List jB:=List.replicate n .plain
omit [jA]in
def ziB:∀(n k:Nat) (as:List V),as.length=n→FB (OD n) k as=as∧EA (OD n) k as=λ_=>none
 | 0,k,[],_=>⟨rfl,rfl⟩
 | 0,k,_ :: _,h=>by simp at h
 | n+1,k,[],h=>by simp at h
 | n+1,k,a :: as,h=>by
  obtain⟨h1,h2⟩:=ziB n (k+1) as (by simpa using h);refine⟨?_,?_⟩
  ·show a :: FB (OD n) (k+1) as=_;rw[h1]
  ·show EA (OD n) (k+1) as=_;exact h2
def zrB(hB:jA.base=W.heap.size){tn:TypeId→Option TN}{D:Nat}(hK:pM P tn D){f:Nat}{ats:List Ty}{F:aB ats→Option Bool}{n:Nat}
  {g:Gl} (hg:g.p W) (hc:pB P f ⟨OD n,aB ats,aB [.v .bool],mD ats,F,iE [.v .bool],[(false,1)],[],false⟩ g) (hn:ats.length=n) (hF:∀x,F x=some true) {Ts:List TypeId} (ht:IM P tn D Ts ats=true)
  {sp:Nat→Bool} {PX:Bool} {r:Reach} {b:Nat} {args:Array Value} {ds:List (DataW H)} {ps:List MemPlace} (h:DataW.TrodAll encH P W 0 sp PX Ts args.toList ds ps)
  (hw:∀(j:Nat) t v,Ts[j]?=some t→args[j]?=some v→Value.okWide P W r b t v) (V3:(callFunc f args).run P W= .ok (.enter f args) W):
  Calls P f args W λe W'=>e= .returned (.bool true)∧Below W.heap.size W W':=by
 obtain⟨h1,x,h2,h3,h4⟩:=zj9 (Nat.le_of_eq hB.symm) hK Ts ats args.toList ds ps ht h (λj t v h5 h6=>hw j t v h5 (by simpa using h6));have KV:(bB ats x).length=n:=by rw[h3,hn]
 obtain⟨e1,e2⟩:=ziB n 0 (bB ats x) KV;have hp:(OD n).length=n:=by simp[OD]
 have aW:∀b,rA FG dJ (EA (OD n) 0 (bB ats x)) b→FG b:=by
  rintro b (h | ⟨q,row,ri,h,_⟩)
  ·exact h
  ·rw[e2]at h;cases h
 have hemp:∀h:Nat→Option sA,h=(λ_=>none)→iB W FG FG dJ h W:=λh he=>by
  subst he;exact⟨Wx.refl _,λ_ _ _=>rfl,λb hb=>hb.elim,λr row hr=>(by cases hr),λq q' row row' qi qi' hq=>(by cases hq)⟩
 have G:=hc W args (bB ats x) FG FG dJ x true 0 [] (by simp at h1;rw[hp];omega) (by rw[e1,hp,KV])
  (hemp (EA (OD n) 0 (bB ats x)) e2)
  (fun j hj=>by
   have JW:j<(bB ats x).length:=by rw[←e1];exact hj
   have h5:=h4 j JW;have h6:(FB (OD n) 0 (bB ats x))[j]=(bB ats x)[j]:=by simp only[e1]
   rw[h6];rw[Array.getD_eq_getD_getElem?];rw[List.getD_eq_getElem?_getD]at h5;rw[Array.getElem?_toList]at h5;exact h5.mono (λ_ _ h=>h) (λ_ _ _=>rfl) λb hb=> .inl (aW b hb))
  (λ_ _=>rfl) (by simp) (λb hb=>by simp at hb) h2 (hF x) (by simp[iE,zcZ,enc]) ⟨hg,λ_ _ h=>h,Nat.le_of_eq hB,λ_ _ h=>h⟩
 rcases G with⟨_,G⟩ | ⟨v,w',G,_⟩
 ·refine Calls.mono' G λe w' ⟨v,he,ρ',g1,g2,_⟩=>?_;subst he;refine⟨?_,g1.wx.os,g1.wx.tape,g1.wx.output,g1.wx.size,λk hk=>g1.old k hk λh=>h⟩;have g3:VR w' ρ' (rA FG ρ' (aE ⟨OD n,aB ats,aB [.v .bool],mD ats,F,iE [.v .bool],[(false,1)],[],false⟩ (bB ats x) [] 0 (iE [.v .bool] true))) v (.bool true):=g2;cases g3;rfl
 ·rw[V3]at G;cases G
omit [jA]in
def zpb{W W':World}(hb:Below W.heap.size W W'){b off:Nat}(h:b<W.heap.size):W'.frozen? ⟨b,off,none⟩=W.frozen? ⟨b,off,none⟩:=by
 simp only[World.frozen?,hb.block b h]
omit [jA]in
def zhD(hl:laidOutB P=true){W':World}(hb:Below W.heap.size W W'){sp':Nat→Bool}:∀(ts:List TypeId) (vs:List Value) (ds:List (DataW H)) (ps:List MemPlace),
  (∀t∈ts,P.readableRec t=true∧t<P.types.size)→DataW.TrodAll encH P W 0 (λ_=>true) true ts vs ds ps→(∀x∈ps,x.block<W.heap.size)→(∀x∈ps,sp' x.block=true)→DataW.TrodAll encH P W' 0 sp' true ts vs ds ps
 | [],vs,ds,ps,hr,h,MV,hs=>by
  cases vs<;>cases ds<;>simp[DataW.TrodAll]at h⊢
  exact h
 | t :: ts,vs,ds,ps,hr,h,MV,hs=>by
  obtain⟨v,vs',d,ds',p,q,rfl,rfl,rfl,h0,h1⟩:=ChangeShapes.trodAll_cons h
  refine⟨p,q,WideElems.Trod_stays hl (hr t (by simp)).1 (hr t (by simp)).2 h0 (λx hx=>hb.same (MV x (by simp[hx]))) (λx hx=>hs x (by simp[hx])),
   zhD hl hb ts vs' ds' q (λt ht=>hr t (List.mem_cons_of_mem _ ht)) h1 (λx hx=>MV x (by simp[hx])) (λx hx=>hs x (by simp[hx])),rfl⟩
omit [jA]in
def zsJ(hl:laidOutB P=true){f:Func}{s:ChangeSpec}{apart fresh XW again:Bool}{W':World}{args:Array Value}{ds gs:List (DataW H)}{before:List MemPlace}
  (t6:∀t∈f.params.toList,P.readableRec t=true∧t<P.types.size) (DX:s.vars=[]) (hW:DataW.Whole encH P f.params.toList s.vars apart W args.toList ds gs before) (hb:Below W.heap.size W W')
  {T:TypeId} (hT:f.resultTypes= #[T]) (VX:P.underlying T=some .bool) (sY:s.fn H (ds++gs)={results:=[.lit (.bool true)],args:=ds}):
  s.post encH P f apart fresh XW again W args (.bool true) W':=by
 obtain⟨p,q,h1,h2,rfl,h3,h4⟩:=id hW;rw[DX]at h2;have hq:gs=[]∧q=[]:=by cases gs<;>simp[DataW.TrodVars]at h2;exact⟨rfl,h2⟩
 obtain⟨rfl,rfl⟩:=hq;have MV:∀x∈p,x.block<W.heap.size:=λx hx=>hW.lt x (by simp[hx])
 have nW:∀sp:Nat→Bool,(∀x∈p,sp x.block=true)→DataW.TrodAll encH P W' 0 sp true f.params.toList args.toList (s.fn H (ds++[])).args p:=λsp hs=>by
  rw[sY];exact zhD hl hb _ _ _ _ t6 h1 MV hs
 have jX:∀(b:Nat) (sp:Nat→Bool) (hd:Bool),DataW.TrodAll encH P W' b sp hd f.resultTypes.toList ((Value.bool true).resultList f.resultTypes.size) (s.fn H (ds++[])).results []:=λb sp hd=>by
  rw[sY,hT];refine⟨[],[],RowKit.shut_bool VX _,rfl,rfl⟩
 have oX:∀sp:Nat→Bool,DataW.TrodVars encH P W' sp s.vars (s.fn H (ds++[])).vars []:=λsp=>by
  rw[sY,DX];rfl
 have xZ:∀x∈p,(λb=>decide (b<W.heap.size)) x.block=true:=λx hx=>by simpa using MV x hx
 refine⟨ds,[],p++[],[],p,[],hW,jX _ _ _,nW _ xZ,oX _,?_,λ_=>⟨?_,_,_,([]++p)++[],⟨[]++p,[],trodAll_append (nW _ (λ_ _=>rfl)) (jX _ _ _),oX _,rfl,?_,?_⟩,?_⟩⟩
 ·refine⟨hb.os,hb.output,λi hi=>?_⟩;rw[hb.block i hi];exact(World.keptBut_refl W (λx=>x∈p++[]∧(x∈[]∨x∈p∨x∈[]))).2.2 i hi
 ·exact ok_one hT rfl (okWide_bool_mk VX _)
 ·intro c off hp;have s9:MemPlace.cell c off∈p++[]:=by simpa using hp
  have:=MV (.cell c off) (by simpa using s9);rw[zpb (b:=c) (off:=off) hb this];exact h3 c off s9
 ·intro ha;have:=h4 ha;simpa using this
 ·intro x hx _;simpa using hx
omit [jA]in
def zs4 {f : Nat} {fn : Func} {body : Code} (hf : P.funcs[f]? = some fn) (hb : fn.body = some body) (yW : (fn.name == "runtime.NumGoroutine") = false) (args : Array Value) :
  (callFunc f args).run P W= .ok (.enter f args) W:=by
 have CX : ¬ fn.name = "runtime.NumGoroutine" := by simpa using yW
 simp[callFunc,program,hf,hb,CX,Sem.run]
omit [jA]in
def zsQ{g:Gl}(hg:g.p W){tn:TypeId→Option TN}{D:Nat}(hK:pM P tn D){f:Nat}{fn:Func}{body:Code}{ats:List Ty}{F:aB ats→Option Bool}{n:Nat}
  {tns:TypeId→Option TN} (hc:∀m:Nat,@pB ⟨tns,m⟩ P f ⟨OD n,aB ats,aB [.v .bool],mD ats,F,iE [.v .bool],[(false,1)],[],false⟩ g) (hn:ats.length=n) (hF:∀x,F x=some true)
  (hf : P.funcs[f]? = some fn) (hb : fn.body = some body) (yW : (fn.name == "runtime.NumGoroutine") = false) (ht : IM P tn D fn.params.toList ats = true)
  (hl:laidOutB P=true) (t6:(fn.params.toList.all λt=>P.readableRec t&&Nat.blt t P.types.size)=true) {T:TypeId} (hT:fn.resultTypes= #[T]) (VX:P.underlying T=some .bool)
  {s:ChangeSpec} (DX:s.vars=[]) {apart fresh XW again:Bool} {args:Array Value} {ds gs:List (DataW H)} {before:List MemPlace} {r:Reach} {b:Nat}
  (hW:DataW.Whole encH P fn.params.toList s.vars apart W args.toList ds gs before) (sY:gs=[]→s.fn H (ds++gs)={results:=[.lit (.bool true)],args:=ds})
  (OY:∀(j:Nat) t v,fn.params[j]?=some t→args[j]?=some v→Value.okWide P W r b t v):
  Calls P f args W λe W'=>∃v,e= .returned v∧s.post encH P fn apart fresh XW again W args v W':=by
 obtain⟨p,q,h1,h2,h3⟩:=id hW
 have hgs:gs=[]:=by
  rw[DX]at h2;cases gs
  ·rfl
  ·simp[DataW.TrodVars]at h2
 letI:jA:=⟨tns,W.heap.size⟩
 refine Calls.mono' (zrB rfl hK hg (hc W.heap.size) hn hF ht h1 (λj t v h5 h6=>OY j t v (by simpa using h5) h6) (zs4 hf hb yW args)) λe W' ⟨he,hb⟩=>⟨_,he,zsJ hl (λt ht=>?_) DX hW hb hT VX (sY hgs)⟩;have:=List.all_eq_true.1 t6 t ht;simpa using this
omit [jA]in
def ztO{tn:TypeId→Option TN}{D:Nat}(hK:pM P tn D){f:Nat}{fn:Func}{body:Code}{ats:List Ty}{F:aB ats→Option Bool}{n:Nat}
  {tns:TypeId→Option TN} (hc:∀m:Nat,@pB ⟨tns,m⟩ P f ⟨OD n,aB ats,aB [.v .bool],mD ats,F,iE [.v .bool],[(false,1)],[],false⟩ tL) (hn:ats.length=n) (hF:∀x,F x=some true)
  (hf : P.funcs[f]? = some fn) (hb : fn.body = some body) (yW : (fn.name == "runtime.NumGoroutine") = false) (ht : IM P tn D fn.params.toList ats = true)
  (hl:laidOutB P=true) (t6:(fn.params.toList.all λt=>P.readableRec t&&Nat.blt t P.types.size)=true) {T:TypeId} (hT:fn.resultTypes= #[T]) (VX:P.underlying T=some .bool)
  {s:ChangeSpec} (DX:s.vars=[]) {apart fresh XW again:Bool} {args:Array Value} {ds gs:List (DataW H)} {before:List MemPlace} {r:Reach} {b:Nat}
  (hW:DataW.Whole encH P fn.params.toList s.vars apart W args.toList ds gs before) (sY:gs=[]→s.fn H (ds++gs)={results:=[.lit (.bool true)],args:=ds})
  (OY:∀(j:Nat) t v,fn.params[j]?=some t→args[j]?=some v→Value.okWide P W r b t v):
  Calls P f args W λe W'=>∃v,e= .returned v∧s.post encH P fn apart fresh XW again W args v W':=
 zsQ (g:=tL) trivial hK hc hn hF hf hb yW ht hl t6 hT VX DX hW sY OY
end
end Go.D

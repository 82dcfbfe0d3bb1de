/-
 A body's end: what the function gives.
-/
import Derived.Test.YtkpkommmdacjlaaGreatL6
import Derived.Test.YtkpkommmdacjlaaGreatL5
import Derived.Carry
import Derived.WideKeyArgs
import Derived.ChangeSame
set_option linter.all false
namespace Go.D
variable [aA]
omit [aA]in
def YA.app{a b c d:List V}(h:YA a b)(k:YA c d):YA (a++c) (b++d):=by
 induction h with
 | nil=>exact k
 | cons h1 _ ih=>exact .cons h1 ih
omit [aA]in
def fQ(t:Ty)(vs:List V)(x:t.T×List V)(h:cE t vs=some x):∃us,vs=us++x.2∧YA us (nN t x.1):=by
 cases t with
 | v t=>
  simp only[cE]at h;obtain⟨a,h1,h2⟩:=Option.bind_eq_some_iff.1 h;cases h2;exact⟨_,(List.take_append_drop _ _).symm,wC t h1⟩
 | cells t=>
  simp only[cE]at h;obtain⟨a,h1,h2⟩:=Option.bind_eq_some_iff.1 h;cases h2;exact⟨_,(List.take_append_drop _ _).symm,wC t h1⟩
 | sl t=>
  cases vs with
  | nil=>simp[cE]at h
  | cons v vs=>
   simp only[cE]at h;obtain⟨a,h1,h2⟩:=Option.bind_eq_some_iff.1 h;cases h2;exact⟨[v],rfl, .cons (EA h1) .nil⟩
 | raw=>
  cases vs with
  | nil=>simp[cE]at h
  | cons v vs=>simp only[cE,Option.some.injEq]at h;subst h;exact⟨[v],rfl, .cons (.refl _) .nil⟩
 | pt=>simp[cE]at h
 | c1=>simp[cE]at h
 | p1=>simp[cE]at h
 | c2=>simp[cE]at h
omit [aA]in
def FQ:∀(ts:List Ty) (vs:List V) (x:LA ts),zG ts vs=some x→YA vs (fC ts x)
 | [],[],x,h=> .nil
 | [],_ :: _,x,h=>by simp[zG]at h
 | [t],vs,x,h=>by
  simp only[zG]at h;obtain⟨y,h1,h2⟩:=Option.bind_eq_some_iff.1 h;obtain⟨us,h3,h4⟩:=fQ t vs y h1;split at h2
  ·rename_i h5;cases h2;rw[h5,List.append_nil]at h3;subst h3;exact h4
  ·cases h2
 | t :: d :: r,vs,x,h=>by
  simp only[zG]at h;obtain⟨y,h1,h2⟩:=Option.bind_eq_some_iff.1 h;obtain⟨z,h3,h4⟩:=Option.bind_eq_some_iff.1 h2;cases h4;obtain⟨us,h5,h6⟩:=fQ t vs y h1;rw[h5];exact h6.app (FQ (d :: r) _ z h3)
section
variable {C:Cx} {w0:World} {outer D:Nat→Prop} {own:Ow} {R:Type} {st st1 st2:St} {ρ ρ1 ρ2:Nat→Option RI} {a a1 a2:Act} {w w1 w2:World} {j:JI}
omit [aA]in
def zbD(an:An):∀c:Code,gE an (λ_=>True) c:=by
 have jd:∀o,JD (λ_=>True) o:=λo=>by cases o<;>simp[JD]
 intro c;induction c with
 | region id ops d=>exact⟨λ_ _ _ _=>trivial,jd _⟩
 | seq x y hx hy=>exact⟨hx,hy⟩
 | cond c x y hx hy=>cases c<;>first | exact⟨hx,hy,jd _⟩ | exact⟨hx,hy⟩
 | block id x hx=>exact⟨hx,jd _⟩
 | loop x hx=>
  refine⟨hx,?_⟩;split
  ·exact jd _
  ·trivial
 | scope x hx=>exact hx
 | _=>trivial
omit [aA]in
def SL(ow:List Nat)(B:Nat)(e:V)(es:List V)(p q:Nat)(h:q≠p):FA ow B (λ_=>none) p (e :: es) (B+q)=FA ow B (λ_=>none) (p+1) es (B+q):=by
 cases e<;>simp only[FA]
 cases hb:ow.any (Nat.beq p)
 ·rfl
 ·simp only[cond_true];rw[jA _ _ _ _ (by omega)]
omit [aA]in
def pM(ow:List Nat)(B:Nat):∀(cs es:List V) (p q:Nat) (row:fA),YA cs es→FA ow B (λ_=>none) p es (B+q)=some row→
  FA ow B (λ_=>none) p cs (B+q)=some row∨(FA ow B (λ_=>none) p cs (B+q)=none∧∃t m,row=⟨.arr t [],m⟩)
 | [],_,p,q,row,hs,h=>by cases hs;simp[FA]at h
 | c :: cs,_,p,q,row,hs,h=>by
  cases hs with
  | cons ZX yX=>
  rename_i e es
  by_cases hq:q=p
  ·subst hq;cases ZX with
   | refl=>
    have hn:∀l:List V,FA ow B (λ_=>none) (q+1) l (B+q)=none:=λl=>yB _ _ _ _ _ (by omega);left;cases c<;>simp only[FA]at h⊢ <;>try (rw[hn]at h;cases h)
    cases hb:ow.any (Nat.beq q)
    ·simp only[hb,cond_false]at h;rw[hn]at h;cases h
    ·simp only[hb,cond_true,qA]at h⊢;exact h
   | byte n=>simp only[FA]at h;rw[yB _ _ _ _ _ (by omega)]at h;cases h
   | nil t=>
    right;simp only[FA]at h⊢;refine⟨yB _ _ _ _ _ (by omega),?_⟩;cases hb:ow.any (Nat.beq q)
    ·simp only[hb,cond_false]at h;rw[yB _ _ _ _ _ (by omega)]at h;cases h
    ·simp only[hb,cond_true,qA]at h;cases h;exact⟨t,_,rfl⟩
  ·rw[SL _ _ _ _ _ _ hq]at h⊢;exact pM ow B cs es (p+1) q row yX h
def lM(ow:List Nat)(B:Nat){bad bad2:Nat→Prop}{ρ2:Nat→Option RI}(hk:∀u d,VR w ρ bad u d→VR w ρ2 bad2 u d):∀(cs es:List V) (p:Nat) (u:Nat→Value),YA cs es→
  (∀q t m,p≤q→FA ow B (λ_=>none) p cs (B+q)=none→FA ow B (λ_=>none) p es (B+q)=some ⟨.arr t [],m⟩→ρ2 (B+q)=some ⟨0,0,0,true⟩)→
  (∀j (hj:j<(wA ow B p cs).length),VR w ρ bad (u j) (wA ow B p cs)[j])→∀j (hj:j<(wA ow B p es).length),VR w ρ2 bad2 (u j) (wA ow B p es)[j]
 | [],_,p,u,hs,hn,hv,j,hj=>by cases hs;simp[wA]at hj
 | c :: cs,_,p,u,hs,hn,hv,j,hj=>by
  cases hs with
  | cons ZX yX=>
  rename_i e es;have hd:∀(c:V) (cs:List V),∃c',wA ow B p (c :: cs)=c' :: wA ow B (p+1) cs:=λc cs=>by cases c<;>exact⟨_,rfl⟩
  obtain⟨c',lX⟩:=hd c cs;obtain⟨e',cX⟩:=hd e es
  have RZ:∀j (hj:j<(c' :: wA ow B (p+1) cs).length),VR w ρ bad (u j) (c' :: wA ow B (p+1) cs)[j]:=λj hj=>by
   have:=hv j (by rw[lX];exact hj);simpa only[lX]using this
  have ih:=lM ow B hk cs es (p+1) (λj=>u (j+1)) yX (λq t m h1 h2 h3=>hn q t m (by omega) (by rw[SL _ _ _ _ _ _ (by omega)];exact h2) (by rw[SL _ _ _ _ _ _ (by omega)];exact h3))
   (λj hj=>by have:=RZ (j+1) (by simp;omega);simpa using this)
  have tW:=RZ 0 (by simp);simp only[List.getElem_cons_zero]at tW
  have goal0:VR w ρ2 bad2 (u 0) e':=by
   cases ZX with
   | refl=>
    have:e'=c':=by
     have h1:=congrArg List.head? lX;have h2:=congrArg List.head? cX;cases c<;>simp[wA]at h1 h2<;>rw[←h1, ←h2]
    rw[this];exact hk _ _ tW
   | byte n=>
    have h1:=congrArg List.head? lX;have h2:=congrArg List.head? cX;simp only[wA,List.head?_cons,Option.some.injEq]at h1 h2;subst h1;subst h2;exact hk _ _ (VR.sub (.byte n) tW)
   | nil t=>
    have h1:=congrArg List.head? lX;have h2:=congrArg List.head? cX;simp only[wA,List.head?_cons,Option.some.injEq]at h1 h2;subst h1;have vY:u 0= .slice none 0 0:=by generalize u 0=x at tW;cases tW;rfl
    cases hb:ow.any (Nat.beq p)
    ·simp only[hb,cond_false]at h2;subst h2;rw[vY];exact .slE _ _ _ (Nat.zero_le _)
    ·simp only[hb,cond_true]at h2;subst h2;rw[vY];refine .owN _ ⟨0,0,0,true⟩ none (hn p t (zC ow p) (Nat.le_refl _) ?_ ?_) rfl rfl
     ·simp only[FA];exact yB _ _ _ _ _ (by omega)
     ·simp only[FA,hb,cond_true,qA]
  cases j with
  | zero=>simp only[cX,List.getElem_cons_zero];exact goal0
  | succ j=>simp only[cX,List.getElem_cons_succ];exact ih j (by rw[cX]at hj;simpa using hj)
omit [aA]in
def xQ{t:Ty}{ats:List Ty}{as:List V}{x:LA (t :: ats)}(hd:zB (t :: ats) as=some x):
  ∃v vs y,as=v :: vs∧∃(x0:t.T),pC t v=some x0∧zB ats vs=some y∧zA (t :: ats) x=rB t x0 :: zA ats y:=by
 cases ats with
 | nil=>
  cases as with
  | nil=>simp[zB]at hd
  | cons v vs=>
   cases vs with
   | nil=>exact⟨v,[],(),rfl,x,by simpa[zB]using hd,rfl,rfl⟩
   | cons=>simp[zB]at hd
 | cons d r=>
  cases as with
  | nil=>simp[zB]at hd
  | cons v vs=>
   simp only[zB]at hd;obtain⟨x0,h1,h2⟩:=Option.bind_eq_some_iff.1 hd;obtain⟨y,h3,h4⟩:=Option.bind_eq_some_iff.1 h2;cases h4;exact⟨v,vs,y,rfl,x0,h1,h3,rfl⟩
omit [aA]in
def IC:∀(ks:List GA) (k:Nat) (as:List V) (q:Nat) (row:fA),lA ks k as q=some row→128 *k≤q
  | [],k,as,q,row,h=>by cases as<;>simp[lA]at h
  | .plain :: ks,k,[],q,row,h=>by simp[lA]at h
  | .plain :: ks,k,a :: as,q,row,h=>by
   have:=IC ks (k+1) as q row (by simpa only[lA]using h);omega
  | .mv ow :: ks,k,[],q,row,h=>by simp[lA]at h
  | .mv ow :: ks,k,a :: as,q,row,h=>by
   cases a<;>simp only[lA]at h<;>try (cases h;done)
   rw[QA]at h;split at h
   ·rename_i x hx;obtain⟨_,_,_,h1,_⟩:=NB _ _ _ _ _ _ hx;omega
   ·have:=IC ks (k+1) as q row h;omega
  | .ms :: ks,k,[],q,row,h=>by simp[lA]at h
  | .ms :: ks,k,a :: as,q,row,h=>by
   simp only[lA]at h;rw[QA]at h;split at h
   ·rename_i x hx;obtain⟨_,_,_,h1,_⟩:=NB _ _ _ _ _ _ hx;omega
   ·have:=IC ks (k+1) as q row h;omega
  | .ptr ow :: ks,k,[],q,row,h=>by simp[lA]at h
  | .ptr ow :: ks,k,a :: as,q,row,h=>by
   cases a<;>simp only[lA]at h<;>try (cases h;done)
   by_cases hq:q=128 *k+127
   ·omega
   ·rw[jA _ _ _ _ hq,QA]at h;split at h
    ·rename_i x hx;obtain⟨_,_,_,h1,_⟩:=NB _ _ _ _ _ _ hx;omega
    ·have:=IC ks (k+1) as q row h;omega
def aS{bad bad2:Nat→Prop}{ρ2:Nat→Option RI}(WW:∀u d,VR w ρ bad u d→VR w ρ2 bad2 u d):∀(ks:List GA) (ats:List Ty) (as:List V) (x:LA ats) (k:Nat) (u:Nat→Value),RA ks ats=true→zB ats as=some x→
  (∀q t m,lA ks k as q=none→lA ks k (zA ats x) q=some ⟨.arr t [],m⟩→ρ2 q=some ⟨0,0,0,true⟩)→
  (∀j (hj:j<(UA ks k as).length),VR w ρ bad (u j) (UA ks k as)[j])→
  (UA ks k (zA ats x)).length=(UA ks k as).length∧∀j (hj:j<(UA ks k (zA ats x)).length),VR w ρ2 bad2 (u j) (UA ks k (zA ats x))[j]:=by
 intro ks;induction ks with
 | nil=>
  intro ats as x k u hk hd hn hv;cases ats with
  | nil=>cases as with
   | nil=>exact⟨rfl,λj hj=>by simp[UA]at hj⟩
   | cons=>simp[zB]at hd
  | cons=>simp[RA]at hk
 | cons q ks ih=>
  intro ats as x k u hk hd hn hv;cases ats with
  | nil=>cases q<;>simp[RA]at hk
  | cons t ats=>
   obtain⟨v,vs,y,rfl,x0,h1,h3,h4⟩:=xQ hd;rw[h4]at hn⊢;cases q with
   | plain=>
    simp only[RA]at hk;obtain⟨e1,e2⟩:=ih ats vs y (k+1) (λj=>u (j+1)) hk h3 (λq t m a b=>hn q t m a b) (λj hj=>hv (j+1) (by simp[UA];omega));refine⟨by simp[UA,e1],λj hj=>?_⟩;cases j with
    | zero=>exact WW _ _ (LR t v x0 h1 (hv 0 (by simp[UA])))
    | succ j=>exact e2 j (by simpa[UA]using hj)
   | ptr ow=>
    cases t with
    | cells t=>
     simp only[RA,Bool.and_eq_true]at hk;have JV:=Nat.le_of_ble_eq_true hk.1.1;simp only[pC]at h1;split at h1
     case h_2=>cases h1
     rename_i cs;have WV:(enc t x0).length=sz t:=WA t x0;have XZ:cs.length=sz t:=by rw[(wC t h1).len,WV]
     obtain⟨e1,e2⟩:=ih ats vs y (k+1) (λj=>u (j+1)) hk.2 h3 (λq t' m' a b=>by
      have nX:=IC ks (k+1) _ q _ b;refine hn q t' m' ?_ ?_
      ·simp only[lA];rw[jA _ _ _ _ (by omega),QA,yB _ _ _ _ _ (by omega)];exact a
      ·simp only[lA,rB];rw[jA _ _ _ _ (by omega),QA,yB _ _ _ _ _ (by omega)];exact b) (λj hj=>hv (j+1) (by simp[UA];omega))
     refine⟨by simp[UA,e1],λj hj=>?_⟩;cases j with
     | zero=>exact WW _ _ (hv 0 (by simp[UA]))
     | succ j=>exact e2 j (by simpa[UA]using hj)
    | _=>simp[RA]at hk
   | mv ow=>
    cases t with
    | v t=>
     simp only[RA,Bool.and_eq_true]at hk;obtain⟨⟨⟨cW,JV⟩,_⟩,hk⟩:=hk;have JV:=Nat.le_of_ble_eq_true JV;simp only[pC]at h1;split at h1
     case h_2=>simp[cW]at h1
     rename_i cs;simp only[cW,cond_true]at h1;have RV:=wC t h1;have WV:(enc t x0).length=sz t:=WA t x0;have XZ:cs.length=sz t:=by rw[RV.len,WV]
     have mY:rB (.v t) x0= .agg (enc t x0):=by simp only[rB,zE,cW,cond_true]
     rw[mY]at hn⊢
     obtain⟨e1,e2⟩:=ih ats vs y (k+1) (λj=>u (j+1)) hk h3 (λq t' m' a b=>by
      have nX:=IC ks (k+1) _ q _ b;refine hn q t' m' ?_ ?_
      ·simp only[lA];rw[QA,yB _ _ _ _ _ (by omega)];exact a
      ·simp only[lA];rw[QA,yB _ _ _ _ _ (by omega)];exact b) (λj hj=>hv (j+1) (by simp[UA];omega))
     refine⟨by simp[UA,e1],λj hj=>?_⟩;cases j with
     | zero=>
      have tW:=hv 0 (by simp[UA]);simp only[UA,List.getElem_cons_zero]at tW⊢;generalize u 0=u0 at tW;cases tW with
      | agg _ vsA hs PW=>
      rw[CC]at hs;refine .agg _ vsA (by rw[CC,hs,WV,XZ]) ?_;refine lM ow (128 *k) WW cs (enc t x0) 0 (λj=>vsA.getD j undef) RV (λp t' m' _ h5 h6=>?_) PW;obtain⟨_,_,_,e3,e4⟩:=NB _ _ _ _ _ _ h6;refine hn _ t' m' ?_ ?_
      ·simp only[lA];rw[QA,h5];show lA ks (k+1) vs (128 *k+p)=none
       cases hr:lA ks (k+1) vs (128 *k+p)with
       | none=>rfl
       | some z=>have:=IC ks (k+1) vs _ z hr;omega
      ·simp only[lA];rw[QA,h6]
     | succ j=>exact e2 j (by simpa[UA]using hj)
    | _=>simp[RA]at hk
   | ms=>
    cases t with
    | sl t=>
     simp only[RA]at hk;have RV:YA [v] [.sl t x0]:= .cons (EA h1) .nil
     obtain⟨e1,e2⟩:=ih ats vs y (k+1) (λj=>u (j+1)) hk h3 (λq t' m' a b=>by
      have nX:=IC ks (k+1) _ q _ b;refine hn q t' m' ?_ ?_
      ·simp only[lA];rw[QA,yB _ _ _ _ _ (by simp;omega)];exact a
      ·simp only[lA];rw[QA,yB _ _ _ _ _ (by simp;omega)];exact b) (λj hj=>hv (j+1) (by simp[UA];omega))
     refine⟨by simp[UA,e1],λj hj=>?_⟩;cases j with
     | zero=>
      have tW:=hv 0 (by simp[UA]);simp only[UA,List.getElem_cons_zero]at tW⊢
      have:=lM [0] (128 *k) WW [v] [.sl t x0] 0 (λ_=>u 0) RV (λp t' m' _ h5 h6=>by
       obtain⟨_,_,_,e3,e4⟩:=NB _ _ _ _ _ _ h6;simp only[List.length_singleton]at e4;refine hn _ t' m' ?_ ?_
       ·simp only[lA];rw[QA,h5];show lA ks (k+1) vs (128 *k+p)=none
        cases hr:lA ks (k+1) vs (128 *k+p)with
        | none=>rfl
        | some z=>have:=IC ks (k+1) vs _ z hr;omega
       ·simp only[lA,rB];rw[QA,h6]) (λj hj=>by
       have IZ:j=0:=by simpa[CC]using hj
       subst IZ;simpa only[lK,List.getElem_cons_zero]using tW) 0 (by rw[CC];simp)
      simpa only[lK,List.getElem_cons_zero,rB]using this
     | succ j=>exact e2 j (by simpa[UA]using hj)
    | _=>simp[RA]at hk
omit [aA]in
def zdg:∀(ks:List GA) (ats:List Ty) (as:List V) (x:LA ats) (k:Nat),RA ks ats=true→zB ats as=some x→
  (∀q row,lA ks k as q=some row→q<128 *(k+ks.length))∧
  ∀q row',lA ks k (zA ats x) q=some row'→q<128 *(k+ks.length)∧(lA ks k as q=some row'∨(lA ks k as q=none∧∃t m,row'=⟨.arr t [],m⟩)∨
   ∃ow B cs es,lA ks k as q=some ⟨.box (wA ow B 0 cs), .own⟩∧row'=⟨.box (wA ow B 0 es), .own⟩∧YA cs es∧
    ∀p t m,FA ow B (λ_=>none) 0 cs (B+p)=none→FA ow B (λ_=>none) 0 es (B+p)=some ⟨.arr t [],m⟩→lA ks k as (B+p)=none∧lA ks k (zA ats x) (B+p)=some ⟨.arr t [],m⟩):=by
 intro ks;induction ks with
 | nil=>
  intro ats as x k hk hd;refine⟨λq row h=>by cases as<;>simp[lA]at h,λq row' h=>?_⟩;cases ats with
  | nil=>simp[lA]at h
  | cons=>simp[RA]at hk
 | cons g ks ih=>
  intro ats as x k hk hd;cases ats with
  | nil=>cases g<;>simp[RA]at hk
  | cons t ats=>
   obtain⟨v,vs,y,rfl,x0,h1,h3,h4⟩:=xQ hd;rw[h4];cases g with
   | plain=>
    simp only[RA]at hk;obtain⟨i1,i2⟩:=ih ats vs y (k+1) hk h3;refine⟨λq row h=>?_,λq row' h=>?_⟩
    ·simp only[lA]at h;have:=i1 q row h;simp only[List.length_cons];omega
    ·simp only[lA]at h⊢;obtain⟨j1,j2⟩:=i2 q row' h;exact⟨by simp only[List.length_cons];omega,j2⟩
   | ptr ow=>
    cases t with
    | cells t=>
     simp only[RA,Bool.and_eq_true]at hk;obtain⟨⟨JV,_⟩,hk⟩:=hk;have JV:=Nat.le_of_ble_eq_true JV;simp only[pC]at h1;split at h1
     case h_2=>cases h1
     rename_i cs;obtain⟨i1,i2⟩:=ih ats vs y (k+1) hk h3;have RV:=wC t h1;have WV:(enc t x0).length=sz t:=WA t x0;have XZ:cs.length=sz t:=by rw[RV.len,WV]
     refine⟨λq row h=>?_,λq row' h=>?_⟩
     ·simp only[List.length_cons];simp only[lA]at h
      by_cases hq:q=128 *k+127
      ·omega
      ·rw[jA _ _ _ _ hq,QA]at h;split at h
       ·rename_i z hz;obtain⟨_,_,_,e1,e2⟩:=NB _ _ _ _ _ _ hz;omega
       ·have:=i1 q row h;omega
     ·simp only[List.length_cons];simp only[rB,lA]at h
      by_cases hq:q=128 *k+127
      ·subst hq;rw[qA]at h;cases h;refine⟨by omega, .inr (.inr ⟨ow,128 *k,cs,enc t x0,by simp only[lA];exact qA _ _ _,rfl,RV,λp t' m' e1 e2=>?_⟩)⟩;obtain⟨_,_,_,e3,e4⟩:=NB _ _ _ _ _ _ e2;have uW:128 *k+p≠128 *k+127:=by omega
       simp only[lA,rB];rw[jA _ _ _ _ uW,jA _ _ _ _ uW,QA,QA ow (128 *k) (lA ks (k+1) (zA ats y)),e1,e2];refine⟨?_,rfl⟩;cases hr:lA ks (k+1) vs (128 *k+p)with
       | none=>rfl
       | some z=>have:=IC ks (k+1) vs _ z hr;omega
      ·rw[jA _ _ _ _ hq,QA]at h;split at h
       ·rename_i z hz;cases h;obtain⟨_,_,_,e1,e2⟩:=NB _ _ _ _ _ _ hz;refine⟨by omega,?_⟩;have vX:=hz;rw[show q=128 *k+(q - 128 *k) by omega]at vX
        rcases pM ow (128 *k) cs (enc t x0) 0 _ _ RV vX with h5 | ⟨h5,h6⟩<;>rw[show 128 *k+(q - 128 *k)=q by omega]at h5
        ·left;simp only[lA];rw[jA _ _ _ _ hq,QA,h5]
        ·right;left;refine⟨?_,h6⟩;simp only[lA];rw[jA _ _ _ _ hq,QA,h5];show lA ks (k+1) vs q=none
         cases hr:lA ks (k+1) vs q with
         | none=>rfl
         | some z=>have:=IC ks (k+1) vs _ z hr;omega
       ·rename_i hz;obtain⟨j1,j2⟩:=i2 q row' h;have nX:=IC ks (k+1) _ q row' h
        have lift:∀q',128 *(k+1)≤q'→lA (.ptr ow :: ks) k (.agg cs :: vs) q'=lA ks (k+1) vs q'∧lA (.ptr ow :: ks) k (.agg (enc t x0) :: zA ats y) q'=lA ks (k+1) (zA ats y) q':=λq' ZW=>by
         simp only[lA];rw[jA _ _ _ _ (by omega),jA _ _ _ _ (by omega),QA,QA ow (128 *k) (lA ks (k+1) (zA ats y)),yB _ _ _ _ _ (by omega),yB _ _ _ _ _ (by omega)];exact⟨rfl,rfl⟩
        obtain⟨l1,l2⟩:=lift q (by omega);refine⟨by omega,?_⟩;rw[l1]
        rcases j2 with j2 | j2 | ⟨ow',B,cs',es',j2,j3,j4,j5⟩
        ·exact .inl j2
        ·exact .inr (.inl j2)
        ·refine .inr (.inr ⟨ow',B,cs',es',j2,j3,j4,λp t' m' e1 e2=>?_⟩);obtain⟨j6,j7⟩:=j5 p t' m' e1 e2;have:=IC ks (k+1) _ _ _ j7;obtain⟨l3,l4⟩:=lift (B+p) (by omega);show lA (.ptr ow :: ks) k (.agg cs :: vs) (B+p)=none∧lA (.ptr ow :: ks) k (.agg (enc t x0) :: zA ats y) (B+p)=_
         rw[l3,l4];exact⟨j6,j7⟩
    | _=>simp[RA]at hk
   | mv ow=>
    cases t with
    | v t=>
     simp only[RA,Bool.and_eq_true]at hk;obtain⟨⟨⟨cW,JV⟩,_⟩,hk⟩:=hk;have JV:=Nat.le_of_ble_eq_true JV;simp only[pC]at h1;split at h1
     case h_2=>simp[cW]at h1
     rename_i cs;simp only[cW,cond_true]at h1;obtain⟨i1,i2⟩:=ih ats vs y (k+1) hk h3;have RV:=wC t h1;have WV:(enc t x0).length=sz t:=WA t x0;have XZ:cs.length=sz t:=by rw[RV.len,WV]
     have mY:rB (.v t) x0= .agg (enc t x0):=by simp only[rB,zE,cW,cond_true]
     rw[mY];refine⟨λq row h=>?_,λq row' h=>?_⟩
     ·simp only[List.length_cons];simp only[lA]at h;rw[QA]at h;split at h
      ·rename_i z hz;obtain⟨_,_,_,e1,e2⟩:=NB _ _ _ _ _ _ hz;omega
      ·have:=i1 q row h;omega
     ·simp only[List.length_cons];simp only[lA]at h;rw[QA]at h;split at h
      ·rename_i z hz;cases h;obtain⟨_,_,_,e1,e2⟩:=NB _ _ _ _ _ _ hz;refine⟨by omega,?_⟩;have vX:=hz;rw[show q=128 *k+(q - 128 *k) by omega]at vX
       rcases pM ow (128 *k) cs (enc t x0) 0 _ _ RV vX with h5 | ⟨h5,h6⟩<;>rw[show 128 *k+(q - 128 *k)=q by omega]at h5
       ·left;simp only[lA];rw[QA,h5]
       ·right;left;refine⟨?_,h6⟩;simp only[lA];rw[QA,h5];show lA ks (k+1) vs q=none
        cases hr:lA ks (k+1) vs q with
        | none=>rfl
        | some z=>have:=IC ks (k+1) vs _ z hr;omega
      ·rename_i hz;obtain⟨j1,j2⟩:=i2 q row' h;have nX:=IC ks (k+1) _ q row' h
       have lift:∀q',128 *(k+1)≤q'→lA (.mv ow :: ks) k (.agg cs :: vs) q'=lA ks (k+1) vs q'∧lA (.mv ow :: ks) k (.agg (enc t x0) :: zA ats y) q'=lA ks (k+1) (zA ats y) q':=λq' ZW=>by
        simp only[lA];rw[QA,QA ow (128 *k) (lA ks (k+1) (zA ats y)),yB _ _ _ _ _ (by omega),yB _ _ _ _ _ (by omega)];exact⟨rfl,rfl⟩
       obtain⟨l1,l2⟩:=lift q (by omega);refine⟨by omega,?_⟩;rw[l1]
       rcases j2 with j2 | j2 | ⟨ow',B,cs',es',j2,j3,j4,j5⟩
       ·exact .inl j2
       ·exact .inr (.inl j2)
       ·refine .inr (.inr ⟨ow',B,cs',es',j2,j3,j4,λp t' m' e1 e2=>?_⟩);obtain⟨j6,j7⟩:=j5 p t' m' e1 e2;have:=IC ks (k+1) _ _ _ j7;obtain⟨l3,l4⟩:=lift (B+p) (by omega);rw[l3,l4];exact⟨j6,j7⟩
    | _=>simp[RA]at hk
   | ms=>
    cases t with
    | sl t=>
     simp only[RA]at hk;obtain⟨i1,i2⟩:=ih ats vs y (k+1) hk h3;have RV:YA [v] [.sl t x0]:= .cons (EA h1) .nil;have mY:rB (.sl t) x0= .sl t x0:=rfl;rw[mY];refine⟨λq row h=>?_,λq row' h=>?_⟩
     ·simp only[List.length_cons];simp only[lA]at h;rw[QA]at h;split at h
      ·rename_i z hz;obtain⟨_,_,_,e1,e2⟩:=NB _ _ _ _ _ _ hz;simp only[List.length_singleton]at e2;omega
      ·have:=i1 q row h;omega
     ·simp only[List.length_cons];simp only[lA]at h;rw[QA]at h;split at h
      ·rename_i z hz;cases h;obtain⟨_,_,_,e1,e2⟩:=NB _ _ _ _ _ _ hz;simp only[List.length_singleton]at e2;refine⟨by omega,?_⟩;have vX:=hz;rw[show q=128 *k+(q - 128 *k) by omega]at vX
       rcases pM [0] (128 *k) [v] [.sl t x0] 0 _ _ RV vX with h5 | ⟨h5,h6⟩<;>rw[show 128 *k+(q - 128 *k)=q by omega]at h5
       ·left;simp only[lA];rw[QA,h5]
       ·right;left;refine⟨?_,h6⟩;simp only[lA];rw[QA,h5];show lA ks (k+1) vs q=none
        cases hr:lA ks (k+1) vs q with
        | none=>rfl
        | some z=>have:=IC ks (k+1) vs _ z hr;omega
      ·rename_i hz;obtain⟨j1,j2⟩:=i2 q row' h;have nX:=IC ks (k+1) _ q row' h
       have lift:∀q',128 *(k+1)≤q'→lA (.ms :: ks) k (v :: vs) q'=lA ks (k+1) vs q'∧lA (.ms :: ks) k (.sl t x0 :: zA ats y) q'=lA ks (k+1) (zA ats y) q':=λq' ZW=>by
        simp only[lA];rw[QA,QA [0] (128 *k) (lA ks (k+1) (zA ats y)),yB _ _ _ _ _ (by simp;omega),yB _ _ _ _ _ (by simp;omega)];exact⟨rfl,rfl⟩
       obtain⟨l1,l2⟩:=lift q (by omega);refine⟨by omega,?_⟩;rw[l1]
       rcases j2 with j2 | j2 | ⟨ow',B,cs',es',j2,j3,j4,j5⟩
       ·exact .inl j2
       ·exact .inr (.inl j2)
       ·refine .inr (.inr ⟨ow',B,cs',es',j2,j3,j4,λp t' m' e1 e2=>?_⟩);obtain⟨j6,j7⟩:=j5 p t' m' e1 e2;have:=IC ks (k+1) _ _ _ j7;obtain⟨l3,l4⟩:=lift (B+p) (by omega);rw[l3,l4];exact⟨j6,j7⟩
    | _=>simp[RA]at hk
omit [aA]in
def QG:∀(ks:List GA) (ts:List Ty),RA ks ts=true→ks.all GA.noTre=true
 | [],ts,_=>rfl
 | .plain :: ks,[],h=>by simp[RA]at h
 | .plain :: ks,t :: ts,h=>by
  simp only[RA]at h;simpa[GA.noTre]using QG ks ts h
 | .ms :: ks,[],h=>by simp[RA]at h
 | .ms :: ks,t :: ts,h=>by
  cases t<;>simp only[RA]at h<;>try (cases h;done)
  simpa[GA.noTre]using QG ks ts h
 | .ptr ow :: ks,[],h=>by simp[RA]at h
 | .ptr ow :: ks,t :: ts,h=>by
  cases t<;>simp only[RA,Bool.and_eq_true]at h<;>try (cases h;done)
  have:=QG ks ts h.2;rw[List.all_cons,this,Bool.and_true];exact h.1.2
 | .mv ow :: ks,[],h=>by simp[RA]at h
 | .mv ow :: ks,t :: ts,h=>by
  cases t<;>simp only[RA,Bool.and_eq_true]at h<;>try (cases h;done)
  have:=QG ks ts h.2;rw[List.all_cons,this,Bool.and_true];exact h.1.2
def GR{ks:List GA}{ats:List Ty}{as:List V}{x:LA ats}(AW:RA ks ats=true)(hd:zB ats as=some x)(hh:BA w0 outer own ρ (lA ks 0 as) w)(VV:∀q,lA ks 0 as q=none→ρ q=none):
  ∃ρ2,BA w0 outer own ρ2 (lA ks 0 (zA ats x)) w∧(∀u d,VR w ρ (bA outer ρ (lA ks 0 as)) u d→VR w ρ2 (bA outer ρ2 (lA ks 0 (zA ats x))) u d)∧
   (∀q ri,ρ q=some ri→ρ2 q=some ri)∧(∀q,128 *ks.length≤q→ρ2 q=none)∧∀q row,lA ks 0 as q=none→lA ks 0 (zA ats x) q=some row→ρ2 q=some ⟨0,0,0,true⟩:=by
 have hEE:∀q row,lA ks 0 as q=none→lA ks 0 (zA ats x) q=some row→ρ q=none:=λq _ h _=>VV q h;obtain⟨r1,r2⟩:=zdg ks ats as x 0 AW hd;have P3:∀q t (l:List (El t)) m,lA ks 0 (zA ats x) q=some ⟨.arr t l,m⟩→m.isTre=false:=λq t l m hq=>by rw[show m= .own from GI _ _ _ _ _ (QG ks ats AW) hq];rfl
 generalize hE:lA ks 0 as=h at *;generalize hE2:lA ks 0 (zA ats x)=h2 at *
 let ρ2:Nat→Option RI:=λq=>match ρ q with
  | some ri=>some ri
  | none=>if(h2 q).isSome=true then some ⟨0,0,0,true⟩else none
 have e1:∀q ri,ρ q=some ri→ρ2 q=some ri:=λq ri hq=>by simp only[ρ2,hq]
 have e2:∀q row,ρ q=none→h2 q=some row→ρ2 q=some ⟨0,0,0,true⟩:=λq row hq hr=>by simp only[ρ2,hq,hr];rfl
 have e3:∀q,ρ q=none→h2 q=none→ρ2 q=none:=λq hq hr=>by simp only[ρ2,hq,hr];rfl
 have GV:∀b,bA outer ρ2 h2 b→bA outer ρ h b:=by
  rintro b (hb | ⟨q,row,ri,f1,f2,f3,f4,f5⟩)
  ·exact .inl hb
  ·rcases(r2 q row f1).2 with g | ⟨g,_⟩ | ⟨ow,B,cs,es,g,_⟩
   ·obtain⟨ri',k1,_⟩:=hh.rows q _ g;rw[e1 _ _ k1]at f3;cases f3;exact .inr ⟨q,row,_,g,f2,k1,f4,f5⟩
   ·rw[e2 q row (VV q g) f1]at f3;cases f3;cases f4
   ·obtain⟨ri',k1,_⟩:=hh.rows q _ g;rw[e1 _ _ k1]at f3;cases f3;exact .inr ⟨q,_,_,g,rfl,k1,f4,f5⟩
 have hk:∀u d,VR w ρ (bA outer ρ h) u d→VR w ρ2 (bA outer ρ2 h2) u d:=λu d hu=>hu.mono e1 (λ_ _ _=>rfl) λb hb=> .inl (GV b hb)
 have oW:∀q row' ri,h2 q=some row'→ρ2 q=some ri→ri.nl=false→∃row,h q=some row∧ρ q=some ri:=λq row' ri f1 f3 f4=>by
  rcases(r2 q row' f1).2 with g | ⟨g,_⟩ | ⟨ow,B,cs,es,g,_⟩
  ·obtain⟨ri',k1,_⟩:=hh.rows q _ g;rw[e1 _ _ k1]at f3;cases f3;exact⟨_,g,k1⟩
  ·rw[e2 q row' (VV q g) f1]at f3;cases f3;cases f4
  ·obtain⟨ri',k1,_⟩:=hh.rows q _ g;rw[e1 _ _ k1]at f3;cases f3;exact⟨_,g,k1⟩
 refine⟨ρ2,⟨hh.wx,hh.old,hh.outLt,λr row' hr=>?_,λq q' row row' qi qi' h1 h2 h3 h4 h5 h6 h7=>?_,lB.zero P3⟩,hk,e1,λq hq=>?_,λq row h1 h2=>e2 q row (VV q h1) h2⟩
 ·rcases(r2 r row' hr).2 with g | ⟨g,t,m,rfl⟩ | ⟨ow,B,cs,es,g,rfl,g2,g3⟩
  ·obtain⟨ri,k1,k2,k3⟩:=hh.rows r _ g;exact⟨ri,e1 _ _ k1,k2.keep (λ_=>rfl) hk,k3⟩
  ·exact⟨⟨0,0,0,true⟩,e2 r _ (VV r g) hr,⟨rfl, .inl ⟨rfl,rfl⟩⟩,λhn=>by cases hn⟩
  ·obtain⟨ri,k1,k2,k3⟩:=hh.rows r _ g;refine⟨ri,e1 _ _ k1,⟨k2.1,λj hj=>?_⟩,k3⟩;have hl:(wA ow B 0 es).length=(wA ow B 0 cs).length:=by rw[CC,CC,g2.len]
   obtain⟨f1,u,f2,f3⟩:=k2.2 j (by rw[←hl];exact hj);refine⟨f1,u,f2,?_⟩
   have:=lM (w:=w) (ρ:=ρ) ow B hk cs es 0 (λj=>(w.cell? (gA ri.b j)).getD undef) g2 (λq t m _ h5 h6=>by
    obtain⟨g4,g5⟩:=g3 q t m h5 h6;exact e2 _ _ (VV _ g4) g5) (λj hj=>by
    obtain⟨_,u,f2,f3⟩:=k2.2 j hj;rw[f2];exact f3) j hj
   rw[f2]at this;exact this
 ·obtain⟨_,g1,g2⟩:=oW _ _ _ h1 h3 h5;obtain⟨_,g3,g4⟩:=oW _ _ _ h2 h4 h6;exact hh.inj q q' _ _ qi qi' g1 g3 g2 g4 h5 h6 h7
 ·refine e3 q (VV q ?_) ?_
  ·cases aZ:h q with
   | none=>rfl
   | some row=>have:=r1 q row aZ;omega
  ·cases aZ:h2 q with
   | none=>rfl
   | some row=>have:=(r2 q row aZ).1;omega
end
end Go.D
namespace Go.D
variable [aA]
section
variable {C:Cx} {w0:World} {outer D:Nat→Prop} {own:Ow} {R:Type} {st st1 st2:St} {ρ ρ1 ρ2:Nat→Option RI} {a a1 a2:Act} {w w1 w2:World} {j:JI}
omit [aA]in
def bM{α:Type}(l m:List α)(i:Nat)(d:α)(h:i<l.length):(l++m).getD i d=l.getD i d:=by
 rw[List.getD_eq_getElem?_getD,List.getD_eq_getElem?_getD,List.getElem?_append_left h]
omit [aA]in
def gM{α:Type}(l m:List α)(i:Nat)(d:α)(h:l.length≤i):(l++m).getD i d=m.getD (i - l.length) d:=by
 rw[List.getD_eq_getElem?_getD,List.getD_eq_getElem?_getD,List.getElem?_append_right h]
inductive bF:List (Bool×Nat)→List Value→List Value→Prop
 | nil:bF [] [] []
 | agg {n:Nat} {sh:List (Bool×Nat)} {rv cells:List Value} (vs:Array Value) (h:vs.size=n) (hr:bF sh rv cells):bF ((true,n) :: sh) (.agg vs :: rv) (vs.toList++cells)
 | one {sh:List (Bool×Nat)} {rv cells:List Value} (v:Value) (hr:bF sh rv cells):bF ((false,1) :: sh) (v :: rv) (v :: cells)
omit [aA]in
def bF.len{sh:List (Bool×Nat)}{rv cells:List Value}(h:bF sh rv cells):KF sh=cells.length∧rv.length=sh.length:=by
 induction h with
 | nil=>exact⟨rfl,rfl⟩
 | agg vs h hr ih=>simp only[KF,List.map_cons,List.sum_cons,List.length_append,Array.length_toList,List.length_cons]at ih⊢;omega
 | one v hr ih=>simp only[KF,List.map_cons,List.sum_cons,List.length_cons]at ih⊢;omega
def zcf{bad:Nat→Prop}{sh:List (Bool×Nat)}{rv cells:List Value}(h:bF sh rv cells):∀X:List V,cells.length≤X.length→(∀j (hj:j<X.length),j<cells.length→VR w ρ bad (cells.getD j undef) X[j])→
  (OC sh X).length=rv.length∧∀i (hi:i<(OC sh X).length),VR w ρ bad (rv.getD i undef) (OC sh X)[i]:=by
 induction h with
 | nil=>intro X _ _;exact⟨rfl,λi hi=>by simp[OC]at hi⟩
 | agg vs JV hr ih=>
  rename_i n sh rv cells;intro X hX hv;simp only[List.length_append,Array.length_toList]at hX
  obtain⟨h1,h2⟩:=ih (X.drop n) (by simp;omega) (λj hj dW=>by
   have:=hv (n+j) (by simp at hj;omega) (by simp;omega);rw[List.getElem_drop];rw[gM _ _ _ _ (by simp;omega)]at this;simpa[JV]using this)
  refine⟨by simp[OC,h1],λi hi=>?_⟩;cases i with
  | zero=>
   show VR w ρ bad (.agg vs) (.agg (X.take n))
   refine .agg _ _ (by simp;omega) λj hj=>?_;have OY:j<n:=by simp at hj;omega
   have:=hv j (by simp at hj;omega) (by simp;omega);rw[bM _ _ _ _ (by simp;omega)]at this;rw[List.getElem_take];rw[Array.getD_eq_getD_getElem?];rw[List.getD_eq_getElem?_getD]at this;simpa using this
  | succ i=>exact h2 i (by simpa[OC]using hi)
 | one v hr ih=>
  rename_i sh rv cells;intro X hX hv;cases X with
  | nil=>simp at hX
  | cons x X=>
   simp only[List.length_cons]at hX;obtain⟨h1,h2⟩:=ih X (by omega) (λj hj dW=>hv (j+1) (by simp;omega) (by simp;omega));refine⟨by simp[OC,h1],λi hi=>?_⟩;cases i with
   | zero=>exact hv 0 (by simp) (by simp)
   | succ i=>exact h2 i (by simpa[OC]using hi)
omit [aA]in
def zcq{sh:List (Bool×Nat)}{X:List V}{v:V}(h:OC sh X=[v]):BE sh X=v:=by simp[BE,h]
omit [aA]in
def zbW{sh:List (Bool×Nat)}{X:List V}(h:∀v,OC sh X≠[v]):BE sh X= .tup (OC sh X):=by
 unfold BE;split
 ·rename_i v hv;exact absurd hv (h v)
 ·rfl
def zdr{bad:Nat→Prop}{sh:List (Bool×Nat)}{rv cells:List Value}(h:bF sh rv cells){X:List V}(hX:cells.length≤X.length)(hv:∀j (hj:j<X.length),j<cells.length→VR w ρ bad (cells.getD j undef) X[j]):
  VR w ρ bad (if h:rv.toArray.size=1 then rv.toArray[0]else .tuple rv.toArray) (BE sh X):=by
 obtain⟨h1,h2⟩:=zcf h X hX hv
 by_cases hY:∃v,OC sh X=[v]
 ·obtain⟨v,hY⟩:=hY;rw[zcq hY];rw[hY]at h1;have hl:rv.toArray.size=1:=by simpa using h1.symm
  rw[dif_pos hl];have h3:=h2 0 (by rw[hY];simp);simp only[hY,List.getElem_cons_zero]at h3;rw[List.getD_eq_getElem?_getD,List.getElem?_eq_getElem (by simp at hl;omega)]at h3;simpa using h3
 ·have hl:¬rv.toArray.size=1:=λhl=>by
   have dY:(OC sh X).length=1:=by rw[h1];simpa using hl
   exact hY (List.length_eq_one_iff.1 dY)
  rw[dif_neg hl,zbW λv hv=>hY ⟨v,hv⟩];refine .tup _ _ (by simp[h1]) λi hi=>?_;have:=h2 i hi;rw[Array.getD_eq_getD_getElem?];rw[List.getD_eq_getElem?_getD]at this;simpa using this
omit [aA]in
def XR{α β:Type}{P:Program}{w:World}(f:α→Sem β):∀(l:List α) (r:List β),l.length=r.length→(∀i (hi:i<l.length) (hr:i<r.length),(f l[i]).run P w= .ok r[i] w)→(l.mapM f).run P w= .ok r w
 | [],[],_,_=>by simp
 | [],_ :: _,h,_=>by simp at h
 | _ :: _,[],h,_=>by simp at h
 | x :: l,y :: r,h,hf=>by
  have h0:=hf 0 (by simp) (by simp);simp only[List.getElem_cons_zero]at h0;have h1:=XR f l r (by simpa using h) (λi hi hr=>hf (i+1) (by simp;omega) (by simp;omega));simp[List.mapM_cons,h0,h1,Result.andThen]
def oJ(tmps:Array Value):ResultVar→Sem Value
 | .tmp t=>pure (tmps.getD t undef)
 | .cell x t=>do loadVar t (←asAddr (tmps.getD x undef))
def dN(hr:xA C w0 outer own ρ st a w):∀(rs:List ResultVar) (sh:List (Bool×Nat)) (vs:List V),GD C.P st rs sh=some vs→
  ∃rv cells,bF sh rv cells∧rs.length=rv.length∧cells.length=vs.length∧(∀j (hj:j<vs.length),VR w ρ (bA outer ρ st.h) (cells.getD j undef) vs[j])∧
   ∀i (hi:i<rs.length) (h2:i<rv.length),(oJ a.tmps rs[i]).run C.P w= .ok rv[i] w
 | [],[],vs,h=>by
  simp only[GD,Option.some.injEq]at h;subst h;exact⟨[],[], .nil,rfl,rfl,λj hj=>by simp at hj,λi hi=>by simp at hi⟩
 | [],_ :: _,vs,h=>by simp[GD]at h
 | .tmp t :: _,[],vs,h=>by simp[GD]at h
 | .cell .. :: _,[],vs,h=>by simp[GD]at h
 | .tmp t :: rs,(ag,n) :: sh,vs,h=>by
  simp only[GD]at h;have hv:=hr.slots t;split at h
  ·rename_i cs us hs Q3;cases hb:(ag&&Nat.beq n cs.length)
   case false=>simp[hb]at h
   simp only[hb,cond_true,Option.some.injEq]at h;subst h;simp only[Bool.and_eq_true]at hb;obtain⟨rfl,hn⟩:=hb;have hn:=Nat.eq_of_beq_eq_true hn;obtain⟨rv,cells,h1,h2,h3,h4,h5⟩:=dN hr rs sh us Q3;rw[hs]at hv;generalize hA:a.tmps.getD t undef=A at hv;cases hv with
   | agg _ vs JV PW=>
   refine⟨.agg vs :: rv,vs.toList++cells, .agg vs (by omega) h1,by simp[h2],by simp[h3,JV],λj hj=>?_,λi hi EW=>?_⟩
   ·by_cases IW:j<cs.length
    ·rw[List.getElem_append_left IW,bM _ _ _ _ (by simp;omega)];have:=PW j IW;rw[Array.getD_eq_getD_getElem?]at this;rw[List.getD_eq_getElem?_getD];simpa using this
    ·have dW:j - cs.length<us.length:=by simp at hj;omega
     rw[List.getElem_append_right (by omega),gM _ _ _ _ (by simp;omega)];have:=h4 _ dW;simpa[JV]using this
   ·cases i with
    | zero=>simp only[List.getElem_cons_zero,oJ,hA];rfl
    | succ i=>exact h5 i (by simpa using hi) (by simpa using EW)
  ·rename_i us Q3 zW;cases hb:(!ag&&Nat.beq n 1&&(st.s t).leaf)
   case false=>simp[hb]at h
   simp only[hb,cond_true,Option.some.injEq]at h;subst h;simp only[Bool.and_eq_true,Bool.not_eq_true']at hb;obtain⟨⟨rfl,hn⟩,hlf⟩:=hb;have hn:=Nat.eq_of_beq_eq_true hn;subst hn;obtain⟨rv,cells,h1,h2,h3,h4,h5⟩:=dN hr rs sh us Q3;refine⟨a.tmps.getD t undef :: rv,a.tmps.getD t undef :: cells, .one _ h1,by simp[h2],by simp[h3],λj hj=>?_,λi hi EW=>?_⟩
   ·cases j with
    | zero=>exact hv
    | succ j=>exact h4 j (by simpa using hj)
   ·cases i with
    | zero=>rfl
    | succ i=>exact h5 i (by simpa using hi) (by simpa using EW)
  ·cases h
 | .cell x t :: rs,(ag,n) :: sh,vs,h=>by
  simp only[GD]at h;have hv:=hr.slots x;split at h
  case h_2=>cases h
  rename_i b us ag' n' hs Q3 cW JV;split at h
  case h_2=>cases h
  rename_i cs m EV;cases hb:((ag==ag')&&Nat.beq n n'&&Nat.beq n cs.length&&(ag||Nat.beq n 1))
  case false=>simp[hb]at h
  simp only[hb,cond_true,Option.some.injEq]at h;subst h;simp only[Bool.and_eq_true,beq_iff_eq]at hb;obtain⟨⟨⟨rfl,h1⟩,h2⟩,h3⟩:=hb;have h1:=Nat.eq_of_beq_eq_true h1;have h2:=Nat.eq_of_beq_eq_true h2;subst h1;obtain⟨rv,cells,k1,k2,k3,k4,k5⟩:=dN hr rs sh us Q3;rw[hs]at hv;obtain⟨ri,hρ,PV,_⟩:=hr.heap.rows _ _ EV;obtain⟨e1,e2⟩:=DO hρ PV hv
  have HV:CD ag n cs 0 some=some (if ag then .agg cs else cs.getD 0 .undef):=by
   unfold CD;cases ag with
   | true=>
    have:Nat.ble (0+n) cs.length=true:=Nat.ble_eq_true_of_le (by omega);simp only[gB,this,if_true,List.drop_zero];rw[List.take_of_length_le (by omega)]
   | false=>
    simp only[Bool.false_or]at h3;have:=Nat.eq_of_beq_eq_true h3
    match cs,h2 with
    | [c],_=>rfl
    | [],h2=>simp at h2;omega
    | _ :: _ :: _,h2=>simp at h2;omega
  obtain⟨d,v,g1,g2,g3⟩:=XO (K:=some) cW JV e2 HV;have g1:d=if ag then V.agg cs else cs.getD 0 .undef:=Option.some.inj g1
  subst g1
  have BV:(oJ a.tmps (.cell x t)).run C.P w= .ok v w:=by
   simp only[oJ,e1,asAddr,Sem.run_bind,Sem.run_pure,Result.andThen_ok];exact g3
  cases ag with
  | true=>
   simp only[if_true]at g2;cases g2 with
   | agg _ vs R3 PW=>
   refine⟨.agg vs :: rv,vs.toList++cells, .agg vs (by omega) k1,by simp[k2],by simp[k3,R3],λj hj=>?_,λi hi EW=>?_⟩
   ·by_cases IW:j<cs.length
    ·rw[List.getElem_append_left IW,bM _ _ _ _ (by simp;omega)];have:=PW j IW;rw[Array.getD_eq_getD_getElem?]at this;rw[List.getD_eq_getElem?_getD];simpa using this
    ·have dW:j - cs.length<us.length:=by simp at hj;omega
     rw[List.getElem_append_right (by omega),gM _ _ _ _ (by simp;omega)];have:=k4 _ dW;simpa[R3]using this
   ·cases i with
    | zero=>exact BV
    | succ i=>exact k5 i (by simpa using hi) (by simpa using EW)
  | false=>
   simp only[Bool.false_or]at h3;have h3:=Nat.eq_of_beq_eq_true h3;subst h3
   match cs,h2 with
   | [c],_=>
    simp only[Bool.false_eq_true,if_false]at g2;refine⟨v :: rv,v :: cells, .one v k1,by simp[k2],by simp[k3],λj hj=>?_,λi hi EW=>?_⟩
    ·cases j with
     | zero=>exact g2
     | succ j=>exact k4 j (by simpa using hj)
    ·cases i with
     | zero=>exact BV
     | succ i=>exact k5 i (by simpa using hi) (by simpa using EW)
   | [],h2=>simp at h2
   | _ :: _ :: _,h2=>simp at h2
def aO(hr:xA C w0 outer own ρ st a w){fn:Func}{sh:List (Bool×Nat)}{vs:List V}(h:GD C.P st fn.results.toList sh=some vs):
  ∃rv cells,bF sh rv cells∧cells.length=vs.length∧(∀j (hj:j<vs.length),VR w ρ (bA outer ρ st.h) (cells.getD j undef) vs[j])∧
   (results fn a.tmps).run C.P w= .ok (if h:rv.toArray.size=1 then rv.toArray[0]else .tuple rv.toArray) w:=by
 obtain⟨rv,cells,h1,h2,h3,h4,h5⟩:=dN hr _ _ _ h;refine⟨rv,cells,h1,h3,h4,?_⟩;have:=XR (P:=C.P) (w:=w) (oJ a.tmps) fn.results.toList rv h2 h5;show((do let vs ←fn.results.mapM (oJ a.tmps);pure (if h:vs.size=1 then vs[0]else .tuple vs)):Sem Value).run C.P w=_
 rw[Array.mapM_eq_mapM_toList];simp only[Sem.run_bind,Sem.run_map,this,Result.andThen_ok,Sem.run_pure]
end
end Go.D
namespace Go.D
variable [aA]
inductive Bd:V→Prop where
 | undef:Bd .undef
 | bool (b:Bool):Bd (.bool b)
 | int (k:IntKind) (n:Int) (h:LB k n):Bd (.int k n)
 | str (s:List UInt8) (h:s.length≤maxLen):Bd (.str s)
 | nil:Bd .nil
 | sl (t:TN) (l:List (El t)) (h:l.length≤maxLen) (hv:∀i (h:i<l.length) j,j<sz t→Bd ((enc t l[i]).getD j .undef)):Bd (.sl t l)
 | ow (r:Nat):Bd (.ow r)
 | ov (r:Nat) (t:TN) (off len:Nat):Bd (.ov r t off len)
 | bp (r off:Nat):Bd (.bp r off)
 | ep (r:Nat) (t:TN) (i off:Nat):Bd (.ep r t i off)
 | fp (cs:List V) (off:Nat) (h:∀j (h:j<cs.length),Bd cs[j]):Bd (.fp cs off)
 | fn (f:Nat) (cs:List V) (h:∀j (h:j<cs.length),Bd cs[j]):Bd (.fn f cs)
 | agg (cs:List V) (h:∀j (h:j<cs.length),Bd cs[j]):Bd (.agg cs)
 | tup (cs:List V) (h:∀j (h:j<cs.length),Bd cs[j]):Bd (.tup cs)
 | nili:Bd .nili
 | ifc (b:Bool):Bd (.ifc b)
 | raw (u:Value) (d:V) (h:Bd d):Bd (.raw u d)
section
variable {w:World} {ρ:Nat→Option RI} {bad:Nat→Prop} {v:Value} {d:V}
def VR.bd(h:VR w ρ bad v d):Bd d:=by
 induction h with
 | undef=>exact .undef
 | bool=>exact .bool _
 | int _ _ h=>exact .int _ _ h
 | str _ h=>exact .str _ h
 | nil=>exact .nil
 | slE=>exact .sl _ _ (Nat.zero_le _) (λi h=>by simp at h)
 | slC t l b off cap u hb hl hc he hu hv ih=>exact .sl _ _ (Nat.le_trans hl hc) ih
 | ow=>exact .ow _
 | owN=>exact .ow _
 | ov=>exact .ov _ _ _ _
 | bp=>exact .bp _ _
 | ep=>exact .ep _ _ _ _
 | fp cs off b o u h0 hb hu hv ih=>exact .fp _ _ ih
 | fn f cs caps hs hv ih=>exact .fn _ _ ih
 | agg cs vs hs hv ih=>exact .agg _ ih
 | tup cs vs hs hv ih=>exact .tup _ ih
 | nili=>exact .nili
 | ifc=>exact .ifc _
 | ifn=>exact .ifc _
 | raw u d h ih=>exact .raw _ _ ih
def jF(t:TN)(x:El t):Prop:=∀j,j<sz t→Bd ((enc t x).getD j .undef)
def sU(t:TN)(l:List (El t)):Prop:=l.length≤maxLen∧∀x∈l,jF t x
omit [aA]in
def Bd.list{t:TN}{l:List (El t)}(h:Bd (.sl t l)):sU t l:=by
 cases h with
 | sl _ _ h hv=>
  refine⟨h,λx hx j hj=>?_⟩;obtain⟨i,hi,rfl⟩:=List.mem_iff_getElem.1 hx;exact hv i hi j hj
omit [aA]in
def Bd.len{s:List UInt8}(h:Bd (.str s)):s.length≤maxLen:=by cases h;assumption
omit [aA]in
def Bd.fits{k:IntKind}{n:Int}(h:Bd (.int k n)):LB k n:=by cases h;assumption
omit [aA]in
def pS(t:TN)(h:t.isAgg=false)(x:El t):∃c,enc t x=[c]:=by cases t<;>first | exact⟨_,rfl⟩ | simp[TN.isAgg]at h
def GP:(t:Ty)→t.T→Prop
 | .v t,x=>jF t x
 | .sl t,l=>sU t l
 | .raw,v=>Bd v
 | .cells t,x=>jF t x
 | .pt t,x=>jF t x
 | .c1 _ t,x=>jF t x
 | .p1 _ t,x=>jF t x
 | .c2 _ _ t,x=>jF t x.1∧jF t x.2
omit [aA]in
def JK{t:TN}{x:El t}(h:Bd (.fp (enc t x) 0)):jF t x:=λj hj=>by
 have dW:j<(enc t x).length:=by rw[WA];exact hj
 rw[List.getD_eq_getElem?_getD,List.getElem?_eq_getElem dW];cases h with
 | fp _ _ h=>exact h j dW
omit [aA]in
def cN{g:Nat}{c:V}{r:List V}(h:Bd (.fn g (c :: r))):Bd c:=by
 cases h with
 | fn _ _ h=>exact h 0 (by simp)
omit [aA]in
def zel{g:Nat}{c d:V}(h:Bd (.fn g [c,d])):Bd d:=by
 cases h with
 | fn _ _ h=>exact h 1 (by simp)
omit [aA]in
def ZS{c:V}(h:Bd (.fp [c] 0)):Bd c:=by
 cases h with
 | fp _ _ h=>exact h 0 (by simp)
def rA:(ts:List Ty)→LA ts→Prop
 | [],_=>True
 | [t],x=>GP t x
 | t :: d :: r,x=>GP t x.1∧rA (d :: r) x.2
omit [aA]in
def sS{t:Ty}{x:t.T}(h:Bd (rB t x)):GP t x:=by
 cases t with
 | v t=>
  intro j hj;simp only[rB,zE]at h;have dW:j<(enc t x).length:=by rw[WA];exact hj
  cases cW:t.isAgg
  ·simp only[cW,cond_false]at h;have JV:sz t=1:=by cases t<;>first | rfl | simp[TN.isAgg]at cW
   obtain⟨c,hc⟩:=pS t cW x;simp only[hc]at h⊢;have:j=0:=by omega
   subst this;exact h
  ·simp only[cW,cond_true]at h;rw[List.getD_eq_getElem?_getD,List.getElem?_eq_getElem dW];cases h with
   | agg _ h=>exact h j dW
 | sl t=>exact Bd.list h
 | raw=>exact h
 | cells t=>
  intro j hj;have dW:j<(enc t x).length:=by rw[WA];exact hj
  rw[List.getD_eq_getElem?_getD,List.getElem?_eq_getElem dW];cases h with
  | agg _ h=>exact h j dW
 | pt t=>exact JK h
 | c1 g t=>exact JK (cN h)
 | p1 g t=>exact JK (cN (ZS h))
 | c2 g h' t=>exact⟨JK (cN (ZS (cN h))),JK (zel h)⟩
omit [aA]in
def wO:∀(ts:List Ty) (x:LA ts),(∀v∈zA ts x,Bd v)→rA ts x
 | [],x,h=>trivial
 | [t],x,h=>sS (h _ (by simp[zA]))
 | t :: d :: r,x,h=>⟨sS (h _ (by simp[zA])),wO (d :: r) x.2 λv hv=>h v (by simp[zA,hv])⟩
omit [aA]in
def zbx{t:Ty}{ats:List Ty}(x:LA (t :: ats)):∃(x0:t.T) (y:LA ats),zA (t :: ats) x=rB t x0 :: zA ats y:=by
 cases ats with
 | nil=>exact⟨x,(),rfl⟩
 | cons d r=>exact⟨x.1,x.2,rfl⟩
def gP{outer:Nat→Prop}{own:Ow}{w0:World}{h:Nat→Option fA}(hh:BA w0 outer own ρ h w){r:Nat}{t:TN}{l:List (El t)}{m:aB}(hr:h r=some ⟨.arr t l,m⟩):Bd (.sl t l):=by
 obtain⟨ri,_,⟨hn,ho⟩,_⟩:=hh.rows r _ hr
 rcases ho with⟨_,rfl⟩ | ⟨_,_,h1,h2,_,h3⟩
 ·exact .sl _ _ (Nat.zero_le _) λi h=>by simp at h
 ·refine .sl _ _ (by omega) λi hi j hj=>?_;obtain⟨u,_,h4⟩:=h3 i hi j hj;exact h4.bd
omit [aA]in
def VO(ow:List Nat)(B:Nat):∀(es:List V) (p:Nat),(∀j (hj:j<(wA ow B p es).length),Bd (wA ow B p es)[j])→(∀q t l m,FA ow B (λ_=>none) p es q=some ⟨.arr t l,m⟩→Bd (.sl t l))→∀j (hj:j<es.length),Bd es[j]
 | [],p,hv,hr,j,hj=>by simp at hj
 | e :: es,p,hv,hr,j,hj=>by
  have hd:∃e',wA ow B p (e :: es)=e' :: wA ow B (p+1) es:=by cases e<;>exact⟨_,rfl⟩
  obtain⟨e',cX⟩:=hd
  have RZ:∀j (hj:j<(e' :: wA ow B (p+1) es).length),Bd (e' :: wA ow B (p+1) es)[j]:=λj hj=>by
   have:=hv j (by rw[cX];exact hj);simpa only[cX]using this
  cases j with
  | succ j=>
   refine VO ow B es (p+1) (λj hj=>by have:=RZ (j+1) (by simp;omega);simpa using this) (λq t l m hq=>?_) j (by simpa using hj);obtain⟨_,_,_,h1,_⟩:=NB _ _ _ _ _ _ hq;refine hr q t l m ?_;have:=SL ow B e es p (q - B) (by omega);rw[show B+(q - B)=q by omega]at this;rw[this];exact hq
  | zero=>
   have h0:=RZ 0 (by simp);simp only[List.getElem_cons_zero]at h0⊢;have h1:=congrArg List.head? cX;cases e<;>simp only[wA,List.head?_cons,Option.some.injEq]at h1<;>try (subst h1;exact h0)
   rename_i t l;cases hb:ow.any (Nat.beq p)
   ·simp only[hb,cond_false]at h1;subst h1;exact h0
   ·exact hr (B+p) t l (zC ow p) (by simp only[FA,hb,cond_true,qA])
def kT{outer:Nat→Prop}{own:Ow}{w0:World}{h:Nat→Option fA}(hh:BA w0 outer own ρ h w):∀(ks:List GA) (ats:List Ty) (x:LA ats) (k:Nat) (u:Nat→Value),RA ks ats=true→
  (∀q row,lA ks k (zA ats x) q=some row→h q=some row)→
  (∀j (hj:j<(UA ks k (zA ats x)).length),VR w ρ (bA outer ρ h) (u j) (UA ks k (zA ats x))[j])→∀v∈zA ats x,Bd v:=by
 intro ks;induction ks with
 | nil=>
  intro ats x k u hk hE hS v hv;cases ats with
  | nil=>simp[zA]at hv
  | cons=>simp[RA]at hk
 | cons g ks ih=>
  intro ats x k u hk hE hS v hv;cases ats with
  | nil=>cases g<;>simp[RA]at hk
  | cons t ats=>
   obtain⟨x0,y,he⟩:=zbx x;rw[he]at hE hS hv;cases g with
   | plain=>
    simp only[RA]at hk
    rcases List.mem_cons.1 hv with rfl | hv
    ·exact(hS 0 (by simp[UA])).bd
    ·exact ih ats y (k+1) (λj=>u (j+1)) hk (λq row hq=>hE q row (by simpa only[lA]using hq)) (λj hj=>hS (j+1) (by simp[UA];omega)) v hv
   | mv ow=>
    cases t with
    | v t=>
     simp only[RA,Bool.and_eq_true]at hk;obtain⟨⟨⟨cW,JV⟩,_⟩,hk⟩:=hk;have JV:=Nat.le_of_ble_eq_true JV;have mY:rB (.v t) x0= .agg (enc t x0):=by simp only[rB,zE,cW,cond_true]
     rw[mY]at hE hS hv;have WV:(enc t x0).length=sz t:=WA t x0
     rcases List.mem_cons.1 hv with rfl | hv
     ·have h0:=hS 0 (by simp[UA]);simp only[UA,List.getElem_cons_zero]at h0;generalize u 0=u0 at h0;cases h0 with
      | agg _ vsA hs PW=>
      refine .agg _ (VO ow (128 *k) _ 0 (λj hj=>(PW j hj).bd) λq t' l m hq=>?_);obtain⟨_,_,_,e1,e2⟩:=NB _ _ _ _ _ _ hq;refine gP hh (hE q ⟨.arr t' l,m⟩ ?_);simp only[lA];rw[QA,hq]
     ·refine ih ats y (k+1) (λj=>u (j+1)) hk (λq row hq=>hE q row ?_) (λj hj=>hS (j+1) (by simp[UA];omega)) v hv;have nX:=IC ks (k+1) _ q row hq;simp only[lA];rw[QA,yB _ _ _ _ _ (by omega)];exact hq
    | _=>simp[RA]at hk
   | ms=>
    cases t with
    | sl t=>
     simp only[RA]at hk;have mY:rB (.sl t) x0= .sl t x0:=rfl;rw[mY]at hE hS hv
     rcases List.mem_cons.1 hv with rfl | hv
     ·refine gP hh (hE (128 *k) ⟨.arr t x0,zC [0] 0⟩ ?_);simp only[lA,FA,List.any_cons,List.any_nil,Nat.beq,Bool.true_or,cond_true,Nat.add_zero];exact qA _ _ _
     ·refine ih ats y (k+1) (λj=>u (j+1)) hk (λq row hq=>hE q row ?_) (λj hj=>hS (j+1) (by simp[UA];omega)) v hv;have nX:=IC ks (k+1) _ q row hq;simp only[lA];rw[QA,yB _ _ _ _ _ (by simp;omega)];exact hq
    | _=>simp[RA]at hk
   | ptr ow=>
    cases t with
    | cells t=>
     simp only[RA,Bool.and_eq_true]at hk;obtain⟨⟨JV,_⟩,hk⟩:=hk;have JV:=Nat.le_of_ble_eq_true JV;simp only[rB]at hE hS hv;have WV:(enc t x0).length=sz t:=WA t x0;have EV:=hE (128 *k+127) _ (by simp only[lA];exact qA _ _ _)
     rcases List.mem_cons.1 hv with rfl | hv
     ·obtain⟨ri,_,PV,_⟩:=hh.rows _ _ EV;refine .agg _ (VO ow (128 *k) _ 0 (λj hj=>?_) λq t' l m hq=>?_)
      ·obtain⟨_,x,_,h2⟩:=PV.2 j hj;exact h2.bd
      ·obtain⟨_,_,_,e1,e2⟩:=NB _ _ _ _ _ _ hq;refine gP hh (hE q ⟨.arr t' l,m⟩ ?_);simp only[lA];rw[jA _ _ _ _ (by omega),QA,hq]
     ·refine ih ats y (k+1) (λj=>u (j+1)) hk (λq row hq=>hE q row ?_) (λj hj=>hS (j+1) (by simp[UA];omega)) v hv;have nX:=IC ks (k+1) _ q row hq;simp only[lA];rw[jA _ _ _ _ (by omega),QA,yB _ _ _ _ _ (by omega)];exact hq
    | _=>simp[RA]at hk
end
end Go.D
namespace Go.D
variable [aA]
section
variable {C:Cx} {w0:World} {outer D:Nat→Prop} {own:Ow} {R:Type} {st st1 st2:St} {ρ ρ1 ρ2:Nat→Option RI} {a a1 a2:Act} {w w1 w2:World} {j:JI}
omit [aA]in
def zbu{t:Ty}{ats:List Ty}{as:List V}{x:LA (t :: ats)}(hd:zB (t :: ats) as=some x):
  ∃v vs y,as=v :: vs∧∃(x0:t.T),pC t v=some x0∧zB ats vs=some y∧zA (t :: ats) x=rB t x0 :: zA ats y:=by
 cases ats with
 | nil=>
  cases as with
  | nil=>simp[zB]at hd
  | cons v vs=>
   cases vs with
   | nil=>exact⟨v,[],(),rfl,x,by simpa[zB]using hd,rfl,rfl⟩
   | cons=>simp[zB]at hd
 | cons d r=>
  cases as with
  | nil=>simp[zB]at hd
  | cons v vs=>
   simp only[zB]at hd;obtain⟨x0,h1,h2⟩:=Option.bind_eq_some_iff.1 hd;obtain⟨y,h3,h4⟩:=Option.bind_eq_some_iff.1 h2;cases h4;exact⟨v,vs,y,rfl,x0,h1,h3,rfl⟩
omit [aA]in
def zar:∀(ks:List GA) (ats:List Ty) (as:List V) (x:LA ats) (k:Nat),RA ks ats=true→zB ats as=some x→
  (∀bs vs h,SA ks (zA ats x) bs vs h=SA ks as bs vs h)∧∀bs q b,MA ks k bs q=some b→∃row,lA ks k as q=some row:=by
 intro ks;induction ks with
 | nil=>
  intro ats as x k hk hd;cases ats with
  | nil=>cases as with
   | nil=>exact⟨λ_ _ _=>rfl,λbs q b h=>by simp[MA]at h⟩
   | cons=>simp[zB]at hd
  | cons=>simp[RA]at hk
 | cons g ks ih=>
  intro ats as x k hk hd;cases ats with
  | nil=>cases g<;>simp[RA]at hk
  | cons t ats=>
   obtain⟨v,vs,y,rfl,x0,h1,h3,h4⟩:=zbu hd;rw[h4];cases g with
   | plain=>
    simp only[RA]at hk;obtain⟨e1,e2⟩:=ih ats vs y (k+1) hk h3;exact⟨λbs ws h=>e1 bs ws h,λbs q b h=>by simp only[MA]at h;exact e2 bs q b h⟩
   | mv ow=>
    cases t with
    | v t=>
     simp only[RA,Bool.and_eq_true]at hk;obtain⟨⟨⟨cW,JV⟩,_⟩,hk⟩:=hk;have JV:=Nat.le_of_ble_eq_true JV;obtain⟨e1,e2⟩:=ih ats vs y (k+1) hk h3;simp only[pC]at h1;split at h1
     case h_2=>simp[cW]at h1
     rename_i cs;simp only[cW,cond_true]at h1;have WV:(enc t x0).length=sz t:=WA t x0;have XZ:cs.length=sz t:=by rw[(wC t h1).len,WV]
     refine⟨λbs ws h=>e1 bs ws h,λbs q b h=>?_⟩;simp only[MA]at h;have nX:=(MC _ _ _ _ _ h).1;simp only[lA];rw[QA,yB _ _ _ _ _ (by omega)];exact e2 bs q b h
    | _=>simp[RA]at hk
   | ms=>
    cases t with
    | sl t=>
     simp only[RA]at hk;obtain⟨e1,e2⟩:=ih ats vs y (k+1) hk h3;refine⟨λbs ws h=>e1 bs ws h,λbs q b h=>?_⟩;simp only[MA]at h;have nX:=(MC _ _ _ _ _ h).1;simp only[lA];rw[QA,yB _ _ _ _ _ (by simp;omega)];exact e2 bs q b h
    | _=>simp[RA]at hk
   | ptr ow=>
    cases t with
    | cells t=>
     simp only[RA,Bool.and_eq_true]at hk;obtain⟨⟨JV,_⟩,hk⟩:=hk;have JV:=Nat.le_of_ble_eq_true JV;obtain⟨e1,e2⟩:=ih ats vs y (k+1) hk h3;simp only[pC]at h1;split at h1
     ·rename_i cs;have hl:=(wC t h1).len;refine⟨λbs ws h=>?_,λbs q b h=>?_⟩
      ·cases bs with
       | nil=>rfl
       | cons b bs=>simp only[rB,SA, ←hl,e1]
      ·cases bs with
       | nil=>simp[MA]at h
       | cons c bs=>
        simp only[MA]at h;simp only[lA]
        by_cases hq:q=128 *k+127
        ·subst hq;exact⟨_,qA _ _ _⟩
        ·rw[if_neg hq]at h;have nX:=(MC _ _ _ _ _ h).1;have WV:(enc t x0).length=sz t:=WA t x0;rw[jA _ _ _ _ hq,QA,yB _ _ _ _ _ (by omega)];exact e2 bs q b h
     ·cases h1
    | _=>simp[RA]at hk
def zcb(hh:BA w0 outer own ρ st.h w):∀(ks:List GA) (as:List V) (k:Nat) (us:List V),aD st ks as k=some us→
  ∃uc:Nat→Value,(∀j (hj:j<us.length),VR w ρ (bA outer ρ st.h) (uc j) us[j])∧
   ∀(bs:List Nat) (vs:List V) (h0:Nat→Option fA) (r:Nat) (row:fA),SA ks as bs vs h0 r=some row→h0 r=some row∨
    ∃q off n cs ri,MA ks k bs q=some r∧row=⟨.box ((vs.drop off).take n), .own⟩∧off+n≤us.length∧st.h q=some ⟨.box cs, .own⟩∧ρ q=some ri∧ri.nl=false∧
     ∀i,i<n→w.frozen? (gA ri.b i)=false∧w.cell? (gA ri.b i)=some (uc (off+i)):=by
 intro ks;induction ks with
 | nil=>
  intro as k us h;cases as with
  | nil=>
   simp only[aD,Option.some.injEq]at h;subst h;exact⟨λ_=>undef,λj hj=>by simp at hj,λbs vs h0 r row hr=> .inl (by simpa[SA]using hr)⟩
  | cons=>simp[aD]at h
 | cons g ks ih=>
  intro as k us h;cases g with
  | plain=>
   cases as with
   | nil=>simp[aD]at h
   | cons v as=>
    simp only[aD]at h;obtain⟨uc,h1,h2⟩:=ih as (k+1) us h;exact⟨uc,h1,λbs vs h0 r row hr=>by simp only[SA]at hr;simp only[MA];exact h2 bs vs h0 r row hr⟩
  | mv ow=>
   cases as with
   | nil=>simp[aD]at h
   | cons v as=>
    simp only[aD]at h;obtain⟨uc,h1,h2⟩:=ih as (k+1) us h;exact⟨uc,h1,λbs vs h0 r row hr=>by simp only[SA]at hr;simp only[MA];exact h2 bs vs h0 r row hr⟩
  | ms=>
   cases as with
   | nil=>simp[aD]at h
   | cons v as=>
    simp only[aD]at h;obtain⟨uc,h1,h2⟩:=ih as (k+1) us h;exact⟨uc,h1,λbs vs h0 r row hr=>by simp only[SA]at hr;simp only[MA];exact h2 bs vs h0 r row hr⟩
  | ptr ow=>
   cases as with
   | nil=>simp[aD]at h
   | cons v as=>
    cases v with
    | agg cs0=>
     simp only[aD]at h;split at h
     case h_2=>cases h
     rename_i cs us' EV S3;cases hb:Nat.beq cs.length cs0.length
     case false=>simp[hb]at h
     simp only[hb,cond_true,Option.some.injEq]at h;subst h;have hl:=Nat.eq_of_beq_eq_true hb;obtain⟨uc,h1,h2⟩:=ih as (k+1) us' S3;obtain⟨ri,hρ,PV,_⟩:=hh.rows _ _ EV;refine⟨λj=>if j<cs.length then(w.cell? (gA ri.b j)).getD undef else uc (j - cs.length),λj hj=>?_,λbs vs h0 r row hr=>?_⟩
     ·dsimp only
      by_cases IW:j<cs.length
      ·rw[if_pos IW,List.getElem_append_left IW];obtain⟨_,u,f1,f2⟩:=PV.2 j IW;rw[f1];exact f2
      ·rw[if_neg IW,List.getElem_append_right (by omega)];exact h1 _ _
     ·cases bs with
      | nil=>exact .inl (by simpa[SA]using hr)
      | cons b bs=>
       simp only[SA]at hr
       by_cases A8:r=b
       ·subst A8;rw[qA]at hr;cases hr;refine .inr ⟨128 *k+127,0,cs0.length,cs,ri,by simp[MA],by simp,by simp;omega,EV,hρ,PV.1,λi hi=>?_⟩;obtain⟨f0,u,f1,f2⟩:=PV.2 i (by omega);refine⟨f0,?_⟩;dsimp only;rw[if_pos (by omega)];simp[f1]
       ·rw[jA _ _ _ _ A8]at hr
        rcases h2 bs _ h0 r row hr with h3 | ⟨q,off,n,cs',ri',e1,e2,e3,e4,e5,e6,e7⟩
        ·exact .inl h3
        ·refine .inr ⟨q,cs0.length+off,n,cs',ri',?_,by rw[e2,List.drop_drop],by simp;omega,e4,e5,e6,λi hi=>?_⟩
         ·have:=(MC _ _ _ _ _ e1).1;simp only[MA];rw[if_neg (by omega)];exact e1
         ·obtain⟨g1,g2⟩:=e7 i hi;refine⟨g1,?_⟩;dsimp only;rw[g2,if_neg (by omega)];congr 2;omega
    | _=>simp[aD]at h
omit [aA]in
def zaL{h:Nat→Option fA}{v:V}{x:V×List Nat}(hf:XB h v=some x):∀r∈x.2,∃t l m,h r=some ⟨.arr t l,m⟩:=by
 unfold XB at hf;split at hf
 ·rename_i r;split at hf
  ·rename_i t l m hr;cases hm:m.isLock<;>simp[hm]at hf
   subst hf;intro q hq;simp at hq;subst hq;exact⟨_,_,_,hr⟩
  ·cases hf
 ·rename_i r t off len;split at hf
  ·rename_i t' l m hr;cases hm:m.isLock
   ·simp only[hm,cond_false]at hf;split at hf
    ·simp at hf;subst hf;intro q hq;simp at hq;subst hq;exact⟨_,_,_,hr⟩
    ·cases hf
   ·simp[hm]at hf
  ·cases hf
 ·cases hb:lD 8 v<;>simp[hb]at hf
  subst hf;simp
omit [aA]in
def MJ(ow:List Nat):∀(cs:List V) (p:Nat) (h:Nat→Option fA) (x:List V×(Nat→Option fA)) (q:Nat) (c:List V),cC ow p cs h=some x→h q=some ⟨.box c, .own⟩→x.2 q=some ⟨.box c, .own⟩
 | [],p,h,x,q,c,ht,hq=>by simp[cC]at ht;subst ht;exact hq
 | v :: cs,p,h,x,q,c,ht,hq=>by
  simp only[cC]at ht;cases hb:ow.any (Nat.beq p)
  ·simp only[hb,cond_false]at ht;split at ht
   case h_2=>cases ht
   rename_i c' ids wX;split at ht
   case h_2=>cases ht
   rename_i hr;cases ht;have hx:=MJ ow cs _ _ _ q c hr;refine hx ?_;rw[SC,if_neg]
   ·exact hq
   ·intro hm;obtain⟨t,l,m,h3⟩:=zaL wX q hm;rw[hq]at h3;cases h3
  ·simp only[hb,cond_true]at ht;split at ht
   ·split at ht
    case h_2=>cases ht
    rename_i t0 l0 m0 EV;cases QV:xB (qD ow p) t0 m0
    case false=>simp[QV]at ht
    simp only[QV,cond_true]at ht;split at ht
    case h_2=>cases ht
    rename_i hr;cases ht;have hx:=MJ ow cs _ _ _ q c hr;refine hx ?_;rw[jA _ _ _ _ (by rintro rfl;rw[EV]at hq;cases hq)];exact hq
   ·split at ht
    case h_2=>cases ht
    rename_i hr;cases ht;have hx:=MJ ow cs _ _ _ q c hr;exact hx hq
   ·split at ht
    case h_2=>cases ht
    rename_i t0 l0 m0 EV;cases QV:xB (qD ow p) t0 m0
    case false=>simp[QV]at ht
    simp only[QV,cond_true]at ht;split at ht
    case h_2=>cases ht
    rename_i hr;cases ht;have hx:=MJ ow cs _ _ _ q c hr;refine hx ?_;rw[jA _ _ _ _ (by rintro rfl;rw[EV]at hq;cases hq)];exact hq
   ·cases ht
open Classical in
theorem zd9{fn:Func}{ks:List GA}{as:List V}{bs ow:List Nat}{base:Nat}{shape:List (Bool×Nat)}{rts:List Ty}{vs us rs:List V}{h2:Nat→Option fA}{r:LA rts}
  (hr:xA C w0 outer own ρ st a w) (hf:∀q,st.nx≤q→ρ q=none) (CW:GD C.P st fn.results.toList shape=some vs) (S3:aD st ks as 0=some us)
  (XV:cC ow 0 (vs++us) st.h=some (rs,h2)) (T9:zG rts rs=some r) (FV:(fC rts r).length≤128) (Y1:bs.Nodup) (V4:∀b∈bs,Out base 128 b):
  ∃v,(results fn a.tmps).run C.P w= .ok v w∧∃ρf,BA w0 outer own ρf (RC ks as bs ow base shape (fC rts r)) w∧
   VR w ρf (bA outer ρf (RC ks as bs ow base shape (fC rts r))) v (BE shape (wA ow base 0 (fC rts r)))∧
   (∀q b,MA ks 0 bs q=some b→ρf b=ρ q)∧(∀r,ρf r≠none→(base≤r∧r<base+128)∨r∈bs):=by
 obtain⟨rv,cells,k1,k2,k3,k4⟩:=aO hr CW;obtain⟨uc,u1,u2⟩:=zcb hr.heap ks as 0 us S3;have RV:=FQ rts rs r T9;have T3:=wH ow _ _ _ _ XV;simp only at T3;generalize hR0:fC rts r=R0 at *;have hRl:R0.length=vs.length+us.length:=by rw[←RV.len,T3,List.length_append]
 have B6:KF shape=vs.length:=by rw[k1.len.1,k2]
 let M:=st.nx;let u:Nat→Value:=λj=>if j<vs.length then cells.getD j undef else uc (j - vs.length)
 have R6:∀q,st.nx≤q→st.h q=none:=λq hq=>by
  cases hg:st.h q with
  | none=>rfl
  | some row=>obtain⟨ri,h3,_⟩:=hr.heap.rows _ _ hg;rw[hf q hq]at h3;cases h3
 obtain⟨ρ2,g2,T,hTl⟩:=WI ow M 128 (vs++us) 0 st.h h2 rs R0 ρ st.h u XV RV (by rw[List.length_append];omega) hr.heap (λj hj=>by
   simp only[u]
   by_cases IW:j<vs.length
   ·rw[if_pos IW,List.getElem_append_left IW];exact k3 j IW
   ·rw[if_neg IW,List.getElem_append_right (by omega)];exact u1 _ (by simp at hj;omega)) (λ_ _ h=>h) (λq _=>R6 _ (by simp only[M];omega)) (λq _ _=>hf _ (by simp only[M];omega))
 let ρf:Nat→Option RI:=λr=>if base≤r∧r<base+128 then ρ2 (M+(r - base))else if h:∃q,MA ks 0 bs q=some r then ρ (Classical.choose h)else none
 let φ:Nat→Nat:=λr=>if base≤r∧r<base+128 then M+(r - base)else if h:∃q,MA ks 0 bs q=some r then Classical.choose h else 0
 have CX:∀q,q<128→ρf (base+q)=ρ2 (M+q)∧φ (base+q)=M+q:=λq hq=>by
  have h1:base≤base+q∧base+q<base+128:=by omega
  simp only[ρf,φ,if_pos h1];have:base+q - base=q:=by omega
  simp[this]
 have LY:∀q b,MA ks 0 bs q=some b→ρf b=ρ q∧φ b=q:=λq b hq=>by
  have h1:¬(base≤b∧b<base+128):=V4 b (MC _ _ _ _ _ hq).2.2;have h2:∃q,MA ks 0 bs q=some b:=⟨q,hq⟩;have h3:Classical.choose h2=q:=YI ks 0 bs _ _ b Y1 (Classical.choose_spec h2) hq;simp only[ρf,φ,if_neg h1,dif_pos h2,h3];exact⟨trivial,trivial⟩
 -- the rows
 have EV:∀q row,RC ks as bs ow base shape R0 q=some row→
   (∃p t l m,p<128∧q=base+p∧row=⟨.arr t l,m⟩∧g2 (M+p)=some row)∨
   ∃p off n cs ri,MA ks 0 bs p=some q∧row=⟨.box ((((wA ow base 0 R0).drop (KF shape)).drop off).take n), .own⟩∧off+n≤us.length∧g2 p=some ⟨.box cs, .own⟩∧ρ p=some ri∧ri.nl=false∧p<M∧
    ∀i,i<n→w.frozen? (gA ri.b i)=false∧w.cell? (gA ri.b i)=some (uc (off+i)):=λq row hq=>by
  rcases u2 bs _ _ q row hq with h1 | ⟨p,off,n,cs,ri,e1,e2,e3,e4,e5,e6,e7⟩
  ·obtain⟨t,l,h3,h4,h5⟩:=NB _ _ _ _ _ _ h1;refine .inl ⟨q - base,t,l,_,by omega,by omega,h3,?_⟩;rw[T.new (q - base) (by omega) (by omega), ←rI ow base M R0 0 (q - base),show base+(q - base)=q by omega];exact h1
  ·refine .inr ⟨p,off,n,cs,ri,e1,e2,e3,T.lies _ _ (MJ ow _ _ _ _ p cs XV e4),e5,e6,?_,e7⟩
   rcases Nat.lt_or_ge p st.nx with h | h
   ·exact h
   ·rw[hf p h]at e5;cases e5
 have GV:∀b,bA outer ρf (RC ks as bs ow base shape R0) b→bA outer ρ2 g2 b:=by
  rintro b (hb | ⟨q,row,ri,f1,f2,f3,f4,f5⟩)
  ·exact .inl hb
  ·rcases EV q row f1 with⟨p,t,l,m3,h1,rfl,h3,h4⟩ | ⟨p,off,n,cs,ri',e1,e2,e3,e4,e5,e6,e7,e8⟩
   ·rw[(CX p h1).1]at f3;exact .inr ⟨_,row,ri,h4,f2,f3,f4,f5⟩
   ·rw[(LY p q e1).1]at f3;exact .inr ⟨p,_,ri,e4,rfl,T.ext _ _ f3,f4,f5⟩
 have hX:∀j (hj:j<(wA ow base 0 R0).length),VR w ρf (bA outer ρf (RC ks as bs ow base shape R0)) (u j) (wA ow base 0 R0)[j]:=
  yI (w:=w) (ρ:=ρ2) (ρ2:=ρf) (bad:=bA outer ρ2 g2) (bad2:=bA outer ρf (RC ks as bs ow base shape R0)) ow M base R0 0 u (λq _ hq _ _=>(CX q (by omega)).1) (λj hj=>(T.closed j hj).1) GV T.vals
 refine⟨_,k4,ρf,?_,?_,λq b hq=>(LY q b hq).1,λq hq=>?_⟩
 ·refine T.heap.sub φ T.heap.wx T.heap.old T.heap.outLt (λq row hq=>?_) (λq q' row row' h1 h2 h3=>?_) (lB.sub T.heap φ GV (λ_ h=>h) λq t l m hq hm=>by
   rcases EV q _ hq with⟨p,t',l',m3,h1,rfl,h3,h4⟩ | ⟨_,_,_,_,_,_,e2,_⟩
   ·exact⟨⟨m,by rw[(CX p h1).2];exact h4,hm⟩,by rw[(CX p h1).2];exact(CX p h1).1⟩
   ·cases e2)
  ·rcases EV q row hq with⟨p,t,l,m3,h1,rfl,rfl,h4⟩ | ⟨p,off,n,cs,ri,e1,e2,e3,e4,e5,e6,e7,e8⟩
   ·obtain⟨ri,f1,f2,f3⟩:=T.heap.rows _ _ h4;exact⟨_,ri,by rw[(CX p h1).2];exact h4,by rw[(CX p h1).1];exact f1,by rw[(CX p h1).2];exact f1,YJ f2 GV ρf,λhn=>(f3 hn).1⟩
   ·obtain⟨ri',f1,f2,f3⟩:=T.heap.rows _ _ e4;rw[T.ext _ _ e5]at f1;cases f1;refine⟨_,ri,by rw[(LY p q e1).2];exact e4,by rw[(LY p q e1).1];exact e5,by rw[(LY p q e1).2];exact T.ext _ _ e5,?_,λhn=>⟨(f3 hn).1.1,λ_=>(f3 hn).1.2 rfl⟩⟩;rw[e2];refine⟨e6,λi hi=>?_⟩
    have gW:i<n∧vs.length+off+i<(wA ow base 0 R0).length:=by
     simp only[List.length_take,List.length_drop]at hi;omega
    obtain⟨g3,g4⟩:=e8 i gW.1;refine⟨g3,_,g4,?_⟩;have h5:=hX (vs.length+(off+i)) (by omega);simp only[u]at h5;rw[if_neg (by omega),show vs.length+(off+i) - vs.length=off+i by omega]at h5;simp only[List.getElem_take,List.getElem_drop,B6];exact h5
  ·rcases EV q row h1 with⟨p,t,l,m3,f1,rfl,f3,f4⟩ | ⟨p,off,n,cs,ri,e1,e2,e3,e4,e5,e6,e7,e8⟩<;>
   rcases EV q' row' h2 with⟨p',t',l',m3',f1',rfl,f3',f4'⟩ | ⟨p',off',n',cs',ri',e1',e2',e3',e4',e5',e6',e7',e8'⟩
   ·rw[(CX p f1).2,(CX p' f1').2]at h3;omega
   ·rw[(CX p f1).2,(LY p' q' e1').2]at h3;omega
   ·rw[(LY p q e1).2,(CX p' f1').2]at h3;omega
   ·rw[(LY p q e1).2,(LY p' q' e1').2]at h3;subst h3;rw[e1]at e1';exact Option.some.inj e1'
 ·refine zdr k1 (by rw[CC];omega) λj hj dW=>?_;have h5:=hX j hj;simp only[u]at h5;rw[if_pos (by omega)]at h5;exact h5
 ·by_cases h1:base≤q∧q<base+128
  ·exact .inl h1
  ·by_cases h2:∃p,MA ks 0 bs p=some q
   ·obtain⟨p,h2⟩:=h2;exact .inr (MC _ _ _ _ _ h2).2.2
   ·simp only[ρf,if_neg h1,dif_neg h2]at hq;exact absurd rfl hq
def zcB (hC : EC C) (hΦ : JC C) {f : Nat} {fn : Func} {body : Code} (hf : C.P.funcs[f]? = some fn) (hb : fn.body = some body) (aW : (fn.name == "runtime.NumGoroutine") = false)
  (P3:C.nt=fn.ntmps) (an:An) (ks:List GA) (ow:List Nat) (shape:List (Bool×Nat)) (ats rts:List Ty) (F:LA ats→Option (LA rts))
  (AW:RA ks ats=true) (QX:Nat.ble ks.length fn.ntmps=true)
  (HX:∀x r,rA ats x→F x=some r→IK C fn body an ks ow shape rts (zA ats x)=some r):
  oA C.P f ⟨ks,LA ats,LA rts,zB ats,F,fC rts,shape,ow,false⟩ C.g:=by
 refine⟨QG ks ats AW,?_⟩;intro w args as outer ownw ρ x r base bs JV QW hh fX VV Y1 V4 wY hF Y2 nY;simp only at JV QW hh fX VV wY hF Y2;have QX:=Nat.le_of_ble_eq_true QX;refine .inl ⟨?_,calls_of_wp hf hb ?_⟩
 ·have HW : ¬ fn.name = "runtime.NumGoroutine" := by simpa using aW
  simp[callFunc,program,hf,hb,HW,Sem.run]
 obtain⟨pb1,pb2⟩:=zar ks ats as x 0 AW wY;obtain⟨ρ2,H1,H2,H3,H4,H5⟩:=GR AW wY hh VV;obtain⟨e1,e2⟩:=aS (w:=w) (ρ:=ρ) H2 ks ats as x 0 (λj=>args.getD j undef) AW wY (λq t m h1 h2=>H5 q _ h1 h2) fX;have BZ:∀base rs,RC ks (zA ats x) bs ow base shape rs=RC ks as bs ow base shape rs:=λbase rs=>by simp only[RC,pb1]
 have cZ:xA C w outer ownw ρ2 {s:=λi=>match(UA ks 0 (zA ats x)).drop i with | v :: _=>v | []=> .undef,h:=lA ks 0 (zA ats x),nx:=128 *ks.length}
   {tmps:=args++Array.replicate (fn.ntmps - args.size) undef,defers:=[]} w:=by
  refine⟨H1,λi=>?_,by simp;omega,rfl,nY⟩;show VR w ρ2 _ _ (match(UA ks 0 (zA ats x)).drop i with | v :: _=>v | []=> .undef)
  by_cases hi:i<(UA ks 0 (zA ats x)).length
  ·rw[List.drop_eq_getElem_cons hi];have h3:=e2 i hi;have i7:i<args.size:=by omega
   rw[Array.getD_eq_getD_getElem?]at h3⊢;rw[Array.getElem?_append_left i7];exact h3
  ·rw[List.drop_eq_nil_of_le (by omega)];exact .undef _
 refine mS hC hΦ an body (λ_=>True) (zbD an body) _ _ w ρ2 _ r _ cZ (λq hq=>H4 q hq) (HX x r (wO ats x (kT H1 ks ats x 0 (λj=>args.getD j undef) AW (λ_ _ h=>h) λj hj=>e2 j hj)) hF) λe st' a' w' ρ' hg hk=>?_
 have key:(match GD C.P st' fn.results.toList shape,aD st' ks (zA ats x) 0 with
   | some vs,some us=>match cC ow 0 (vs++us) st'.h with
    | some (rs,_)=>zG rts rs
    | none=>none
   | _,_=>none)=some r→a'.defers=[]∧∃v,(results fn a'.tmps).run C.P w'= .ok v w'∧∃v',Ending.returned v= .returned v'∧∃ρf,BA w outer ownw ρf (RC ks as bs ow base shape (fC rts r)) w'∧
   VR w' ρf (bA outer ρf (RC ks as bs ow base shape (fC rts r))) v' (BE shape (wA ow base 0 (fC rts r)))∧
   (∀q b,MA ks 0 bs q=some b→ρf b=ρ q)∧(∀r,ρf r≠none→(base≤r∧r<base+128)∨r∈bs):=by
  intro hk;split at hk
  case h_2=>cases hk
  rename_i vs us CW S3;split at hk
  case h_2=>cases hk
  rename_i rs h2 XV;obtain⟨v,h3,ρf,h4,h5,h6,h7⟩:=zd9 (bs:=bs) (base:=base) hg.rel hg.fresh CW S3 XV hk Y2 Y1 V4;rw[BZ]at h4 h5;refine⟨hg.rel.defers,v,h3,v,rfl,ρf,h4,h5,λq b hq=>?_,h7⟩;rw[h6 q b hq];obtain⟨row,EV⟩:=pb2 bs q b hq;obtain⟨ri,h8,_⟩:=hh.rows _ _ EV;rw[hg.ext _ _ (H3 _ _ h8),h8]
 cases e with
 | exit id=>cases hk
 | normal=>exact key hk
 | ret=>exact key hk
end
end Go.D
namespace Go.D
inductive LK where
 | i | by | b | s
 | l (t:TN)
 deriving DecidableEq
def lk:TN→List LK
 | .byte=>[.by] | .int=>[.i] | .bool=>[.b] | .str=>[.s] | .bs=>[.l .byte]
 | .Addr=>[.i, .i]
 | .Op=>[.i, .i, .i, .l .byte]
 | .Event=>[.i, .i, .i, .i, .l .byte, .l .Op]
 | .Jar=>[.l .byte]
 | .Dice=>[.l .byte, .i]
 | .Win=>[.i, .l .int]
 | .Ep=>[.i, .l .byte, .i, .i, .l .int]
 | .Chan=>[.i, .l .byte, .i, .l .byte, .i, .i, .l .int, .i, .l .byte, .i, .i, .l .int, .b, .i, .l .byte]
 | .Cand=>[.i, .i, .l .byte, .i]
 | .Paths=>[.i, .i, .l .Cand]
 | .Sess=>[.i, .l .byte, .l .byte, .i, .l .byte, .i, .l .byte, .i, .i, .l .int, .i, .l .byte, .i, .i, .l .int, .b, .i, .l .byte, .i, .i, .l .Cand, .i, .i, .b]
 | .Tab=>[.i, .l .Sess]
 | .Credit=>[.i, .i, .i, .i]
 | .Server=>[.l .bs, .l .byte, .l .byte, .i, .i, .l .Sess, .l .Credit]
 | .Frame=>[.i, .i, .l .byte, .l .byte, .i, .l .byte, .l .byte, .i, .i, .l .byte, .l .byte]
 | .Timer=>[.b, .i, .i, .i]
 | .Client=>[.i, .l .byte, .i, .i, .i, .l .byte, .i, .i, .l .byte, .l .byte, .i, .l .byte, .l .byte, .i, .i, .l .byte, .l .byte, .i, .l .byte, .i, .l .byte, .i, .i, .l .int, .i, .l .byte, .i, .i, .l .int, .b, .i, .l .byte, .b, .i, .i, .i, .b, .i, .i, .i, .i]
 | .Wire=>[.i, .i, .i, .i, .l .byte]
 | .Note=>[.i, .i, .i, .l .byte, .l .byte, .i, .i, .l .byte, .l .byte, .i, .i, .i]
 | .World=>[.i, .l .Client, .l .bs, .l .byte, .l .byte, .i, .i, .l .Sess, .l .Credit, .l .byte, .i, .l .Wire, .l .bs, .l .Note]
 | .Cur=>[.l .byte, .i, .i]
 | .Out=>[.i, .i, .i, .i, .l .byte, .l .byte, .i, .l .byte, .l .byte, .i, .i, .l .byte, .l .byte]
 | .Form=>[.i, .s]
 | .Hash=>[.l .int, .l .byte, .i]
def EN:LK→V→Prop
 | .i,v=>∃n,sA v=some n
 | .by,v=>∃n,cF v=some n
 | .b,v=>∃n,AD v=some n
 | .s,v=>∃n,jG v=some n
 | .l t,v=>∃n,yA t v=some n
inductive XA:List LK→List V→Prop
 | nil:XA [] []
 | cons {k:LK} {v:V} {ks:List LK} {vs:List V} (h:EN k v) (r:XA ks vs):XA (k :: ks) (v :: vs)
def XA.app{a b:List LK}{x y:List V}(h:XA a x)(k:XA b y):XA (a++b) (x++y):=by
 induction h with
 | nil=>exact k
 | cons h _ ih=>exact .cons h ih
def XA.len{a:List LK}{x:List V}(h:XA a x):a.length=x.length:=by
 induction h with
 | nil=>rfl
 | cons h _ ih=>simp[ih]
def XA.take{k:LK}{ks:List LK}{x:List V}(h:XA (k :: ks) x):∃v r,x=v :: r∧EN k v∧XA ks r:=by
 cases h with | cons h r=>exact⟨_,_,rfl,h,r⟩
def DK{α β:Type}{p:V→Option α}{v:V}{a:α}(h:p v=some a)(cs:List V)(k:α→List V→Option β):tk p (v :: cs) k=k a cs:=by simp[tk,h]
def YB{β:Type}(r:β){x:List V}(h:XA [] x):∃y,cB x r=some y:=by cases h;exact⟨r,rfl⟩
def uA{β:Type}{ks:List LK}{K:Int→List V→Option β}{x:List V}(h:XA (.i :: ks) x)(hk:∀a r,XA ks r→∃y,K a r=some y):∃y,tk sA x K=some y:=by
 cases h with | cons h r=>obtain⟨a,h⟩:=h;rw[DK h];exact hk _ _ r
def DG{β:Type}{ks:List LK}{K:Bool→List V→Option β}{x:List V}(h:XA (.b :: ks) x)(hk:∀a r,XA ks r→∃y,K a r=some y):∃y,tk AD x K=some y:=by
 cases h with | cons h r=>obtain⟨a,h⟩:=h;rw[DK h];exact hk _ _ r
def yT{β:Type}{ks:List LK}{K:List UInt8→List V→Option β}{x:List V}(h:XA (.s :: ks) x)(hk:∀a r,XA ks r→∃y,K a r=some y):∃y,tk jG x K=some y:=by
 cases h with | cons h r=>obtain⟨a,h⟩:=h;rw[DK h];exact hk _ _ r
def HA{β:Type}{t:TN}{ks:List LK}{K:List (El t)→List V→Option β}{x:List V}(h:XA (.l t :: ks) x)(hk:∀a r,XA ks r→∃y,K a r=some y):∃y,tk (yA t) x K=some y:=by
 cases h with | cons h r=>obtain⟨a,h⟩:=h;rw[DK h];exact hk _ _ r
def zcK{x:List V}(h:XA (lk .Addr) x):∃y,OM x=some y:=uA h λ_ _ h=>uA h λ_ _ h=>YB _ h
def zeg{x:List V}(h:XA (lk .Op) x):∃y,tN x=some y:=uA h λ_ _ h=>uA h λ_ _ h=>uA h λ_ _ h=>HA h λ_ _ h=>YB _ h
def zbE{x:List V}(h:XA (lk .Event) x):∃y,AM x=some y:=uA h λ_ _ h=>uA h λ_ _ h=>uA h λ_ _ h=>uA h λ_ _ h=>HA h λ_ _ h=>HA h λ_ _ h=>YB _ h
def zdA{x:List V}(h:XA (lk .Jar) x):∃y,mN x=some y:=HA h λ_ _ h=>YB _ h
def zc4{x:List V}(h:XA (lk .Dice) x):∃y,SM x=some y:=HA h λ_ _ h=>uA h λ_ _ h=>YB _ h
def zdq{x:List V}(h:XA (lk .Win) x):∃y,bN x=some y:=uA h λ_ _ h=>HA h λ_ _ h=>YB _ h
def zec{x:List V}(h:XA (lk .Ep) x):∃y,rN x=some y:=uA h λ_ _ h=>HA h λ_ _ h=>uA h λ_ _ h=>uA h λ_ _ h=>HA h λ_ _ h=>YB _ h
def zcQ{x:List V}(h:XA (lk .Chan) x):∃y,WM x=some y:=uA h λ_ _ h=>HA h λ_ _ h=>uA h λ_ _ h=>HA h λ_ _ h=>uA h λ_ _ h=>uA h λ_ _ h=>HA h λ_ _ h=>uA h λ_ _ h=>HA h λ_ _ h=>uA h λ_ _ h=>uA h λ_ _ h=>HA h λ_ _ h=>DG h λ_ _ h=>uA h λ_ _ h=>HA h λ_ _ h=>YB _ h
def zcl{x:List V}(h:XA (lk .Cand) x):∃y,HM x=some y:=uA h λ_ _ h=>uA h λ_ _ h=>HA h λ_ _ h=>uA h λ_ _ h=>YB _ h
def zbI{x:List V}(h:XA (lk .Paths) x):∃y,oM x=some y:=uA h λ_ _ h=>uA h λ_ _ h=>HA h λ_ _ h=>YB _ h
def zc7{x:List V}(h:XA (lk .Sess) x):∃y,XM x=some y:=uA h λ_ _ h=>HA h λ_ _ h=>HA h λ_ _ h=>uA h λ_ _ h=>HA h λ_ _ h=>uA h λ_ _ h=>HA h λ_ _ h=>uA h λ_ _ h=>uA h λ_ _ h=>HA h λ_ _ h=>uA h λ_ _ h=>HA h λ_ _ h=>uA h λ_ _ h=>uA h λ_ _ h=>HA h λ_ _ h=>DG h λ_ _ h=>uA h λ_ _ h=>HA h λ_ _ h=>uA h λ_ _ h=>uA h λ_ _ h=>HA h λ_ _ h=>uA h λ_ _ h=>uA h λ_ _ h=>DG h λ_ _ h=>YB _ h
def zdd{x:List V}(h:XA (lk .Tab) x):∃y,iN x=some y:=uA h λ_ _ h=>HA h λ_ _ h=>YB _ h
def za8{x:List V}(h:XA (lk .Credit) x):∃y,jM x=some y:=uA h λ_ _ h=>uA h λ_ _ h=>uA h λ_ _ h=>uA h λ_ _ h=>YB _ h
def zaW{x:List V}(h:XA (lk .Server) x):∃y,fM x=some y:=HA h λ_ _ h=>HA h λ_ _ h=>HA h λ_ _ h=>uA h λ_ _ h=>uA h λ_ _ h=>HA h λ_ _ h=>HA h λ_ _ h=>YB _ h
def zbr{x:List V}(h:XA (lk .Frame) x):∃y,xM x=some y:=uA h λ_ _ h=>uA h λ_ _ h=>HA h λ_ _ h=>HA h λ_ _ h=>uA h λ_ _ h=>HA h λ_ _ h=>HA h λ_ _ h=>uA h λ_ _ h=>uA h λ_ _ h=>HA h λ_ _ h=>HA h λ_ _ h=>YB _ h
def zbN{x:List V}(h:XA (lk .Timer) x):∃y,zM x=some y:=DG h λ_ _ h=>uA h λ_ _ h=>uA h λ_ _ h=>uA h λ_ _ h=>YB _ h
def za3{x:List V}(h:XA (lk .Client) x):∃y,cM x=some y:=uA h λ_ _ h=>HA h λ_ _ h=>uA h λ_ _ h=>uA h λ_ _ h=>uA h λ_ _ h=>HA h λ_ _ h=>uA h λ_ _ h=>uA h λ_ _ h=>HA h λ_ _ h=>HA h λ_ _ h=>uA h λ_ _ h=>HA h λ_ _ h=>HA h λ_ _ h=>uA h λ_ _ h=>uA h λ_ _ h=>HA h λ_ _ h=>HA h λ_ _ h=>uA h λ_ _ h=>HA h λ_ _ h=>uA h λ_ _ h=>HA h λ_ _ h=>uA h λ_ _ h=>uA h λ_ _ h=>HA h λ_ _ h=>uA h λ_ _ h=>HA h λ_ _ h=>uA h λ_ _ h=>uA h λ_ _ h=>HA h λ_ _ h=>DG h λ_ _ h=>uA h λ_ _ h=>HA h λ_ _ h=>DG h λ_ _ h=>uA h λ_ _ h=>uA h λ_ _ h=>uA h λ_ _ h=>DG h λ_ _ h=>uA h λ_ _ h=>uA h λ_ _ h=>uA h λ_ _ h=>uA h λ_ _ h=>YB _ h
def zcJ{x:List V}(h:XA (lk .Wire) x):∃y,TM x=some y:=uA h λ_ _ h=>uA h λ_ _ h=>uA h λ_ _ h=>uA h λ_ _ h=>HA h λ_ _ h=>YB _ h
def zcF{x:List V}(h:XA (lk .Note) x):∃y,EM x=some y:=uA h λ_ _ h=>uA h λ_ _ h=>uA h λ_ _ h=>HA h λ_ _ h=>HA h λ_ _ h=>uA h λ_ _ h=>uA h λ_ _ h=>HA h λ_ _ h=>HA h λ_ _ h=>uA h λ_ _ h=>uA h λ_ _ h=>uA h λ_ _ h=>YB _ h
def zbc{x:List V}(h:XA (lk .World) x):∃y,rM x=some y:=uA h λ_ _ h=>HA h λ_ _ h=>HA h λ_ _ h=>HA h λ_ _ h=>HA h λ_ _ h=>uA h λ_ _ h=>uA h λ_ _ h=>HA h λ_ _ h=>HA h λ_ _ h=>HA h λ_ _ h=>uA h λ_ _ h=>HA h λ_ _ h=>HA h λ_ _ h=>HA h λ_ _ h=>YB _ h
def zdN{x:List V}(h:XA (lk .Cur) x):∃y,oN x=some y:=HA h λ_ _ h=>uA h λ_ _ h=>uA h λ_ _ h=>YB _ h
def zdT{x:List V}(h:XA (lk .Out) x):∃y,kN x=some y:=uA h λ_ _ h=>uA h λ_ _ h=>uA h λ_ _ h=>uA h λ_ _ h=>HA h λ_ _ h=>HA h λ_ _ h=>uA h λ_ _ h=>HA h λ_ _ h=>HA h λ_ _ h=>uA h λ_ _ h=>uA h λ_ _ h=>HA h λ_ _ h=>HA h λ_ _ h=>YB _ h
def zc5{x:List V}(h:XA (lk .Form) x):∃y,NM x=some y:=uA h λ_ _ h=>yT h λ_ _ h=>YB _ h
def zcS{x:List V}(h:XA (lk .Hash) x):∃y,ZM x=some y:=HA h λ_ _ h=>HA h λ_ _ h=>uA h λ_ _ h=>YB _ h
def nO(t:TN)(x:List V)(h:XA (lk t) x):∃y,vB t x=some y:=by
 cases t with
 | byte=>
  cases h with
  | cons h r=>
   obtain⟨a,h⟩:=h;cases r;refine⟨a,?_⟩;simp only[vB];rw[DK h];rfl
 | int=>exact uA h λ_ _ h=>YB _ h
 | bool=>exact DG h λ_ _ h=>YB _ h
 | str=>exact yT h λ_ _ h=>YB _ h
 | bs=>exact HA h λ_ _ h=>YB _ h
 | Addr=>exact zcK h
 | Op=>exact zeg h
 | Event=>exact zbE h
 | Jar=>exact zdA h
 | Dice=>exact zc4 h
 | Win=>exact zdq h
 | Ep=>exact zec h
 | Chan=>exact zcQ h
 | Cand=>exact zcl h
 | Paths=>exact zbI h
 | Sess=>exact zc7 h
 | Tab=>exact zdd h
 | Credit=>exact za8 h
 | Server=>exact zaW h
 | Frame=>exact zbr h
 | Timer=>exact zbN h
 | Client=>exact za3 h
 | Wire=>exact zcJ h
 | Note=>exact zcF h
 | World=>exact zbc h
 | Cur=>exact zdN h
 | Out=>exact zdT h
 | Form=>exact zc5 h
 | Hash=>exact zcS h
end Go.D
namespace Go.D
variable [aA]
open Go.RowKit Go.ChangeShapes
section
variable {H:Type} {encH:TypeId×Value→H} {P:Program} {W:World}
def ZE:Nat→Option RI:=λ_=>none
def MD:Nat→Prop:=λ_=>False
def uE(P:Program)(tn:TypeId→Option TN):Nat→TypeId→Option (List LK)
 | 0,_=>none
 | d+1,t=>match P.underlying t with
  | some (.int .i64)=>some [.i]
  | some (.int .u8)=>some [.by]
  | some .bool=>some [.b]
  | some .string=>some [.s]
  | some (.slice e)=>(tn e).map λt=>[.l t]
  | some (.struct fs)=>(kindsF (uE P tn d) P 0 fs.toList).bind λks=>bif Nat.beq (P.cellsOf t) ks.length then some ks else none
  | _=>none
where
 kindsF (f:TypeId→Option (List LK)) (P:Program):Nat→List Field→Option (List LK)
  | _,[]=>some []
  | k,x :: xs=>bif Nat.beq x.offset k then
    match f x.type with
    | some ks=>bif Nat.beq (P.cellsOf x.type) ks.length then(kindsF f P (k+ks.length) xs).map λr=>ks++r else none
    | none=>none
   else none
structure qG(P:Program)(tn:TypeId→Option TN)(D:Nat):Prop where
 ok:∀e t,tn e=some t→uE P tn D e=some (lk t)∧P.cellsOf e=sz t
def aE(W:World)(cs:List Value)(vs:List V):Prop:=cs.length=vs.length∧∀j (hj:j<vs.length),VR W ZE MD (cs.getD j undef) vs[j]
def aE.one{c:Value}{v:V}(h:VR W ZE MD c v):aE W [c] [v]:=⟨rfl,λj hj=>by
 have:j=0:=by simp at hj;omega
 subst this;exact h⟩
def aE.app{a b:List Value}{x y:List V}(h:aE W a x)(k:aE W b y):aE W (a++b) (x++y):=by
 refine⟨by simp[h.1,k.1],λj hj=>?_⟩
 by_cases IW:j<x.length
 ·rw[List.getElem_append_left IW,bM _ _ _ _ (by rw[h.1];exact IW)];exact h.2 j IW
 ·rw[List.getElem_append_right (by omega),gM _ _ _ _ (by rw[h.1];omega),h.1];exact k.2 _ (by simp at hj;omega)
omit [aA]in
def zdL{k:IntKind}{n:Int}(h:(Lit.int k n).wf=true):LB k n:=by
 simp only[Lit.wf,Bool.and_eq_true,decide_eq_true_eq]at h;exact h
omit [aA]in
def pO{α β:Type}{f:α→Option β}:∀{l:List α} {r:List β},l.mapM f=some r→r.length=l.length∧∀i (hi:i<l.length) (hr:i<r.length),f l[i]=some r[i]
 | [],r,h=>by simp at h;subst h;exact⟨rfl,λi hi=>by simp at hi⟩
 | x :: l,r,h=>by
  rw[List.mapM_cons]at h;cases hx:f x with
  | none=>rw[hx]at h;simp at h
  | some y=>
   rw[hx]at h;cases hl:l.mapM f with
   | none=>rw[hl]at h;simp at h
   | some ys=>
    rw[hl]at h;simp at h;subst h;obtain⟨h1,h2⟩:=pO hl;refine⟨by simp[h1],λi hi hr=>?_⟩;cases i with
    | zero=>exact hx
    | succ i=>exact h2 i (by simpa using hi) (by simpa using hr)
omit [aA]in
def pQ{α:Type}{p:Nat→α→Prop}:∀(n:Nat),(∀i,i<n→∃x,p i x)→∃l:List α,l.length=n∧∀i (hi:i<l.length),p i l[i]
 | 0,_=>⟨[],rfl,λi hi=>by simp at hi⟩
 | n+1,h=>by
  obtain⟨l,h1,h2⟩:=pQ n (λi hi=>h i (by omega));obtain⟨x,hx⟩:=h n (by omega);refine⟨l++[x],by simp[h1],λi hi=>?_⟩
  by_cases SW:i<l.length
  ·rw[List.getElem_append_left SW];exact h2 i SW
  ·have:i=n:=by simp at hi;omega
   subst this;rw[List.getElem_append_right (by omega)];simpa[h1]using hx
omit [aA]in
def eO{a:Addr}{n:Nat}{cs:List Value}(h:W.cells? 0 a n=some cs):cs.length=n∧∀i (_:i<n),W.cell? (a.add i)=some (cs.getD i undef):=by
 simp only[World.cells?,Nat.zero_le,if_true]at h;obtain⟨h1,h2⟩:=pO h;simp at h1;refine⟨h1,λi hi=>?_⟩;have:=h2 i (by simpa using hi) (by omega);simp only[List.getElem_range]at this;rw[this,List.getD_eq_getElem?_getD,List.getElem?_eq_getElem (by omega)];rfl
variable (hB:W.heap.size≤aA.base)in
include hB in
theorem JM{tn:TypeId→Option TN}{D:Nat}(hK:qG P tn D){sp:Nat→Bool}{held:Bool}:∀(fuel:Nat) (T:TypeId) (cs:List Value) (x:DataW H×List MemPlace) (d:Nat) (ks:List LK),
  DataW.trod encH P W 0 sp held fuel T cs=some x→uE P tn d T=some ks→∃vs,aE W cs vs∧XA ks vs
 | 0,T,cs,x,d,ks,h,hk=>by simp[DataW.trod]at h
 | fuel+1,T,cs,x,0,ks,h,hk=>by simp[uE]at hk
 | fuel+1,T,cs,x,d+1,ks,h,hk=>by
  have slice:∀e,P.underlying T=some (.slice e)→(tn e).map (λt=>[LK.l t])=some ks→∃vs,aE W cs vs∧XA ks vs:=λe hu hk=>by
   obtain⟨t,ht,hk⟩:=Option.map_eq_some_iff.1 hk;subst hk;obtain⟨kk,JV⟩:=hK.ok e t ht;cases cs with
   | nil=>simp[DataW.trod,hu]at h
   | cons v r=>
   cases r with
   | cons v2 r2=>cases v<;>simp[DataW.trod,hu]at h
   | nil=>
   have hv:∃ao len cap,v= .slice ao len cap:=by cases v<;>first | exact⟨_,_,_,rfl⟩ | simp[DataW.trod,hu]at h
   obtain⟨ao,len,cap,rfl⟩:=hv;cases ao with
   | none=>
    have hz:len=0∧cap=0:=by
     cases len<;>cases cap<;>simp[DataW.trod,hu]at h
     exact⟨rfl,rfl⟩
    obtain⟨rfl,rfl⟩:=hz;exact⟨[.nil],aE.one .nil, .cons ⟨[],rfl⟩ .nil⟩
   | some a=>
    simp only[DataW.trod,hu]at h;split at h
    case isFalse=>cases h
    rename_i J1;obtain⟨_,FV,EX⟩:=J1;obtain⟨elems,QW,_⟩:=Option.bind_eq_some_iff.1 h;rw[JV]at QW;obtain⟨m1,m2⟩:=pO QW;simp at m1
    have one:∀i,i<len→∃y:El t,∃u:List Value,W.cells? 0 (a.add (i *sz t)) (sz t)=some u∧∀j (_:j<sz t),VR W ZE MD (u.getD j undef) ((enc t y).getD j .undef):=λi hi=>by
     have h1:=m2 i (by simpa using hi) (by omega);simp only[List.getElem_range]at h1;obtain⟨u,h2,h3⟩:=Option.bind_eq_some_iff.1 h1;obtain⟨vs,h4,h5⟩:=JM hK fuel e u _ D (lk t) h3 kk;obtain⟨y,h6⟩:=nO t vs h5;have h7:=wC t h6;refine⟨y,u,h2,λj hj=>?_⟩;have dW:j<(enc t y).length:=by rw[WA];exact hj
     have IW:j<vs.length:=by rw[h7.len];exact dW
     rw[List.getD_eq_getElem?_getD (l:=enc t y),List.getElem?_eq_getElem dW];exact VR.sub (h7.get j IW dW) (h4.2 j IW)
    obtain⟨l,sY,dY⟩:=pQ (p:=λi y=>∃u:List Value,W.cells? 0 (a.add (i *sz t)) (sz t)=some u∧∀j (_:j<sz t),VR W ZE MD (u.getD j undef) ((enc t y).getD j .undef)) len one;refine⟨[.sl t l],aE.one ?_, .cons ⟨l,by simp[yA,TN.cast]⟩ .nil⟩;cases l with
    | nil=>
     simp at sY;subst sY;exact .slE t _ cap EX
    | cons y0 l0=>
    -- there is a cell:the address is a plain one
    obtain⟨u0,vY,_⟩:=dY 0 (by simp);have PX:=(eO vY).2 0 (wE t)
    have C0:a.spot=none:=by
     simp only[World.cell?]at PX;split at PX
     ·simp only[Addr.add,Nat.zero_mul,if_true]at PX;cases hs:a.spot with
      | none=>rfl
      | some _=>rw[hs]at PX;simp at PX
     ·cases PX
    obtain⟨b,off,spot⟩:=a;simp only at C0;subst C0;subst sY
    refine .slC t _ b off cap (λi j=>(W.cell? (gA b (off+i *sz t+j))).getD undef) (λh=>h) FV EX (λ_=> .inl (Nat.lt_of_lt_of_le (pG (show W.cell? (gA b (off+0 *sz t+0))=_ by
     have h:=PX;rw[show(⟨b,off,none⟩:Addr)=gA b off from rfl,TC,TC]at h;exact h)) hB)) (λi hi j hj=>?_) (λi hi j hj=>?_)
    ·obtain⟨u,h1,_⟩:=dY i hi;have:=(eO h1).2 j hj
     have e:((⟨b,off,none⟩:Addr).add (i *sz t)).add j=gA b (off+i *sz t+j):=by
      show((gA b off).add (i *sz t)).add j=_
      rw[TC,TC]
     rw[e]at this;rw[this];rfl
    ·obtain⟨u,h1,h2⟩:=dY i hi;have:=(eO h1).2 j hj
     have e:((⟨b,off,none⟩:Addr).add (i *sz t)).add j=gA b (off+i *sz t+j):=by
      show((gA b off).add (i *sz t)).add j=_
      rw[TC,TC]
     rw[e]at this;rw[this];exact h2 j hj
  simp only[uE]at hk;cases hu:P.underlying T with
  | none=>rw[hu]at hk;cases hk
  | some td=>
   rw[hu]at hk;cases td with
   | int k=>
    cases cs with
    | nil=>simp[DataW.trod,hu]at h
    | cons v r=>
    cases r with
    | cons v2 r2=>cases v<;>simp[DataW.trod,hu]at h
    | nil=>
    cases v with
    | int k' n=>
     simp only[DataW.trod,hu]at h;split at h
     case isFalse=>cases h
     rename_i J1;obtain⟨rfl,hw⟩:=J1;have hf:=zdL hw;refine⟨[.int k' n],aE.one (.int _ _ hf),?_⟩;cases k'<;>simp at hk<;>subst hk
     ·exact .cons ⟨n,rfl⟩ .nil
     ·exact .cons ⟨_,rfl⟩ .nil
    | _=>simp[DataW.trod,hu]at h
   | bool=>
    cases cs with
    | nil=>simp[DataW.trod,hu]at h
    | cons v r=>
    cases r with
    | cons v2 r2=>cases v<;>simp[DataW.trod,hu]at h
    | nil=>
    cases v with
    | bool b=>
     simp at hk;subst hk;exact⟨[.bool b],aE.one (.bool _), .cons ⟨b,rfl⟩ .nil⟩
    | _=>simp[DataW.trod,hu]at h
   | string=>
    cases cs with
    | nil=>simp[DataW.trod,hu]at h
    | cons v r=>
    cases r with
    | cons v2 r2=>cases v<;>simp[DataW.trod,hu]at h
    | nil=>
    cases v with
    | string s=>
     simp only[DataW.trod,hu]at h;split at h
     case isFalse=>cases h
     rename_i hs;simp at hk;subst hk;refine⟨[.str s.data.toList],aE.one ?_, .cons ⟨_,rfl⟩ .nil⟩
     have SZ:s.data.toList.length≤maxLen:=by
      rw[Array.length_toList];exact hs
     exact VR.str (w:=W) (ρ:=ZE) (bad:=MD) s.data.toList SZ
    | _=>simp[DataW.trod,hu]at h
   | slice e=>exact slice e hu hk
   | struct fs=>
    unfold DataW.trod at h;rw[hu]at h;simp only at h;split at h
    case isFalse=>cases h
    rename_i FV;obtain⟨xs,Q1,_⟩:=Option.map_eq_some_iff.1 h;clear h slice
    -- the fields
    have go:∀(l:List Field) (k:Nat) (ks:List LK) (xs:List (DataW H×List MemPlace)),uE.kindsF (uE P tn d) P k l=some ks→
      l.mapM (λf=>DataW.trod encH P W 0 sp held fuel f.type ((cs.drop f.offset).take (P.cellsOf f.type)))=some xs→
      ∃vs,XA ks vs∧k+vs.length≤max k cs.length∧aE W ((cs.drop k).take vs.length) vs:=by
     intro l;induction l with
     | nil=>
      intro k ks xs hk _;simp[uE.kindsF]at hk;subst hk;exact⟨[], .nil,by simp;omega,by simp,λj hj=>by simp at hj⟩
     | cons f l ih=>
      intro k ks xs hk hx;simp only[uE.kindsF]at hk;cases hb:Nat.beq f.offset k
      case false=>simp[hb]at hk
      have KW:=Nat.eq_of_beq_eq_true hb;simp only[hb,cond_true]at hk;split at hk
      case h_2=>cases hk
      rename_i k0 U9;cases ZY:Nat.beq (P.cellsOf f.type) k0.length
      case false=>simp[ZY]at hk
      have uZ:=Nat.eq_of_beq_eq_true ZY;simp only[ZY,cond_true]at hk;obtain⟨r,hr,rfl⟩:=Option.map_eq_some_iff.1 hk;rw[List.mapM_cons]at hx;cases h0:DataW.trod encH P W 0 sp held fuel f.type ((cs.drop f.offset).take (P.cellsOf f.type))with
      | none=>rw[h0]at hx;simp at hx
      | some y=>
       rw[h0]at hx;cases h1:l.mapM (λf=>DataW.trod encH P W 0 sp held fuel f.type ((cs.drop f.offset).take (P.cellsOf f.type)))with
       | none=>rw[h1]at hx;simp at hx
       | some ys=>
        obtain⟨v0,g1,g2⟩:=JM hK fuel f.type _ y d k0 h0 U9;have tW:v0.length=k0.length:=g2.len.symm;rw[←KW]at hr⊢;obtain⟨vs,e1,e2,e3⟩:=ih (f.offset+k0.length) r ys hr h1;have dX:=g1.1;rw[uZ]at dX g1;simp only[List.length_take,List.length_drop]at dX;refine⟨v0++vs,g2.app e1,by simp;omega,?_⟩
        have es:(cs.drop f.offset).take (v0++vs).length=(cs.drop f.offset).take k0.length++(cs.drop (f.offset+k0.length)).take vs.length:=by
         rw[List.length_append,tW,List.take_add,List.drop_drop]
        rw[es];exact g1.app e3
    obtain⟨ks',TZ,rX⟩:=Option.bind_eq_some_iff.1 hk;cases hb:Nat.beq (P.cellsOf T) ks'.length
    case false=>simp[hb]at rX
    have uZ:=Nat.eq_of_beq_eq_true hb;simp only[hb,cond_true,Option.some.injEq]at rX;subst rX;obtain⟨vs,e1,e2,e3⟩:=go fs.toList 0 ks' xs TZ Q1;have hvl:vs.length=cs.length:=by rw[←e1.len,FV,uZ]
    refine⟨vs,?_,e1⟩;rw[List.drop_zero,List.take_of_length_le (by omega)]at e3;exact e3
   | _=>simp at hk
def PK(P:Program)(tn:TypeId→Option TN)(D:Nat)(T:TypeId):Ty→Bool
 | .v t=>(match P.underlying T with
   | some (.struct _)=>t.isAgg
   | some (.int _) | some .bool | some .string=>!t.isAgg
   | _=>false)&&decide (uE P tn D T=some (lk t))
 | .sl t=>(match P.underlying T with
   | some (.slice _)=>true
   | _=>false)&&decide (uE P tn D T=some [.l t])
 | _=>false
variable (hB:W.heap.size≤aA.base)in
include hB in
theorem zd7{tn:TypeId→Option TN}{D:Nat}(hK:qG P tn D){sp:Nat→Bool}{held:Bool}{T:TypeId}{ty:Ty}(zY:PK P tn D T ty=true){v:Value}{d:DataW H}{ps:List MemPlace}
  (h:DataW.Trod encH P W 0 sp held T v d ps) {r:Reach} {b:Nat} (hw:Value.okWide P W r b T v):∃x:ty.T,VR W ZE MD v (rB ty x)∧pC ty (rB ty x)=some x:=by
 obtain⟨fuel,h⟩:=h
 -- a value of one cell
 have RY:(∀fs,P.underlying T≠some (.struct fs))→(∀n e,P.underlying T≠some (.array n e))→v.cells.toList=[v]:=λh1 h2=>by
  unfold Value.okWide at hw;split at hw
  ·rename_i fs hu;exact absurd hu (h1 _)
  ·rename_i hu;exact absurd hu (h2 _ _)
  ·cases v with
   | agg cs=>
    exfalso;unfold Cell.okWide at hw;split at hw<;>simp_all[Cell.ok]
   | _=>rfl
 cases ty with
 | v t=>
  simp only[PK,Bool.and_eq_true,decide_eq_true_eq]at zY;obtain⟨vs,h1,h2⟩:=JM hB hK fuel T _ _ D _ h zY.2;obtain⟨x,hx⟩:=nO t vs h2;have hs:=wC t hx
  have hd:vB t (enc t x)=some x:=by
   cases t<;>first | rfl | (simp[vB,enc,tk,cF,cB];done)
  refine⟨x,?_⟩;have IV:∀j (hj:j<(enc t x).length),VR W ZE MD (v.cells.toList.getD j undef) (enc t x)[j]:=λj hj=>VR.sub (hs.get j (by rw[hs.len];exact hj) hj) (h1.2 j (by rw[hs.len];exact hj));cases cW:t.isAgg
  ·obtain⟨c,hc⟩:=pS t cW x
   have hv:v.cells.toList=[v]:=by
    refine RY (λfs hu=>?_) (λn e hu=>?_)
    ·rw[hu]at zY;simp[cW]at zY
    ·rw[hu]at zY;simp at zY
   have he:rB (.v t) x=c:=by simp[rB,zE,cW,hc]
   rw[he];have h0:=IV 0 (by rw[hc];simp);simp only[hv,hc,List.getElem_cons_zero]at h0;refine⟨h0,?_⟩;rw[hc]at hd;cases c<;>first | (simp only[pC,cW,cond_false];exact hd) | skip
   exfalso;have:=rR t x;rw[hc]at this;simp[V.leaf]at this
  ·have hu:∃fs,P.underlying T=some (.struct fs):=by
    revert zY
    cases P.underlying T with
    | none=>simp
    | some td=>cases td<;>simp[cW]
   obtain⟨fs,hu⟩:=hu;unfold Value.okWide at hw;rw[hu]at hw;obtain⟨cs,rfl,JV,_⟩:=hw;have he:rB (.v t) x= .agg (enc t x):=by simp[rB,zE,cW]
   rw[he];refine⟨.agg _ _ ?_ λj hj=>?_,by simp only[pC,cW,cond_true];exact hd⟩
   ·have:=h1.1;simp only[Value.cells,Array.length_toList]at this;rw[this,hs.len]
   ·have:=IV j hj;simp only[Value.cells]at this;rw[Array.getD_eq_getD_getElem?];rw[List.getD_eq_getElem?_getD]at this;simpa using this
 | sl t=>
  simp only[PK,Bool.and_eq_true,decide_eq_true_eq]at zY;obtain⟨vs,h1,h2⟩:=JM hB hK fuel T _ _ D _ h zY.2;obtain⟨c,r,rfl,⟨l,hl⟩,hr⟩:=h2.take;cases hr
  have hv:v.cells.toList=[v]:=by
   refine RY (λfs hu=>?_) (λn e hu=>?_)
   ·rw[hu]at zY;simp at zY
   ·rw[hu]at zY;simp at zY
  refine⟨l,?_,by simp[pC,rB,yA,TN.cast]⟩;have h0:=h1.2 0 (by simp);simp only[hv]at h0;exact VR.sub (EA hl) h0
 | _=>simp[PK]at zY
def FG(P:Program)(tn:TypeId→Option TN)(D:Nat):List TypeId→List Ty→Bool
 | [],[]=>true
 | T :: Ts,t :: ts=>PK P tn D T t&&FG P tn D Ts ts
 | _,_=>false
variable (hB:W.heap.size≤aA.base)in
include hB in
theorem qS{tn:TypeId→Option TN}{D:Nat}(hK:qG P tn D){sp:Nat→Bool}{held:Bool}{r:Reach}{b:Nat}:∀(Ts:List TypeId) (ats:List Ty) (vs:List Value) (ds:List (DataW H)) (ps:List MemPlace),
  FG P tn D Ts ats=true→DataW.TrodAll encH P W 0 sp held Ts vs ds ps→(∀(j:Nat) t v,Ts[j]?=some t→vs[j]?=some v→Value.okWide P W r b t v)→
  vs.length=ats.length∧∃x:LA ats,zB ats (zA ats x)=some x∧(zA ats x).length=ats.length∧∀j (hj:j<(zA ats x).length),VR W ZE MD (vs.getD j undef) (zA ats x)[j]
 | [],[],vs,ds,ps,_,h,_=>by
  cases vs<;>cases ds<;>simp[DataW.TrodAll]at h
  exact⟨rfl,(),rfl,rfl,λj hj=>by simp[zA]at hj⟩
 | [],_ :: _,vs,ds,ps,ht,_,_=>by simp[FG]at ht
 | _ :: _,[],vs,ds,ps,ht,_,_=>by simp[FG]at ht
 | T :: Ts,t :: ts,vs,ds,ps,ht,h,hw=>by
  simp only[FG,Bool.and_eq_true]at ht;obtain⟨v,vs',d,ds',p,q,rfl,rfl,rfl,h0,h1⟩:=ChangeShapes.trodAll_cons h;obtain⟨x0,k1,k2⟩:=zd7 hB hK ht.1 h0 (hw 0 T v rfl rfl);obtain⟨e1,y,e2,e3,e4⟩:=qS hK Ts ts vs' ds' q ht.2 h1 (λj t v h1 h2=>hw (j+1) t v h1 h2);refine⟨by simp[e1],?_⟩;cases ts with
  | nil=>
   refine⟨x0,by simpa[zB,zA]using k2,rfl,λj hj=>?_⟩;have:j=0:=by simp[zA]at hj;omega
   subst this;exact k1
  | cons d r=>
   refine⟨(x0,y),?_,by simp[zA]at e3⊢;exact e3,λj hj=>?_⟩
   ·simp only[zB,zA];rw[k2];simp only[Option.bind_some];rw[e2];rfl
   ·cases j with
    | zero=>exact k1
    | succ j=>exact e4 j (by simpa[zA]using hj)
def kA(n:Nat):List GA:=List.replicate n .plain
omit [aA]in
def bO:∀(n k:Nat) (as:List V),as.length=n→UA (kA n) k as=as∧lA (kA n) k as=λ_=>none
 | 0,k,[],_=>⟨rfl,rfl⟩
 | 0,k,_ :: _,h=>by simp at h
 | n+1,k,[],h=>by simp at h
 | n+1,k,a :: as,h=>by
  obtain⟨h1,h2⟩:=bO n (k+1) as (by simpa using h);refine⟨?_,?_⟩
  ·show a :: UA (kA n) (k+1) as=_;rw[h1]
  ·show lA (kA n) (k+1) as=_;exact h2
def zbM(hB:aA.base=W.heap.size){tn:TypeId→Option TN}{D:Nat}(hK:qG P tn D){f:Nat}{ats:List Ty}{F:LA ats→Option Bool}{n:Nat}
  {g:Gl} (hg:g.p W) (hc:oA P f ⟨kA n,LA ats,LA [.v .bool],zB ats,F,fC [.v .bool],[(false,1)],[],false⟩ g) (hn:ats.length=n) (hF:∀x,F x=some true) {Ts:List TypeId} (ht:FG P tn D Ts ats=true)
  {sp:Nat→Bool} {held:Bool} {r:Reach} {b:Nat} {args:Array Value} {ds:List (DataW H)} {ps:List MemPlace} (h:DataW.TrodAll encH P W 0 sp held Ts args.toList ds ps)
  (hw:∀(j:Nat) t v,Ts[j]?=some t→args[j]?=some v→Value.okWide P W r b t v) (iZ:(callFunc f args).run P W= .ok (.enter f args) W):
  Calls P f args W λe W'=>e= .returned (.bool true)∧Below W.heap.size W W':=by
 obtain⟨h1,x,h2,h3,h4⟩:=qS (Nat.le_of_eq hB.symm) hK Ts ats args.toList ds ps ht h (λj t v h5 h6=>hw j t v h5 (by simpa using h6));have FV:(zA ats x).length=n:=by rw[h3,hn]
 obtain⟨e1,e2⟩:=bO n 0 (zA ats x) FV;have hp:(kA n).length=n:=by simp[kA]
 have GV:∀b,bA MD ZE (lA (kA n) 0 (zA ats x)) b→MD b:=by
  rintro b (h | ⟨q,row,ri,h,_⟩)
  ·exact h
  ·rw[e2]at h;cases h
 have MZ:∀h:Nat→Option fA,h=(λ_=>none)→BA W MD (Ow.of MD) ZE h W:=λh he=>by
  subst he;exact⟨Wx.refl _,λ_ _ _=>rfl,λb hb=>hb.elim,λr row hr=>(by cases hr),λq q' row row' qi qi' hq=>(by cases hq),lB.zero λr t l m hr=>(by cases hr)⟩
 have G:=hc.2 W args (zA ats x) MD (Ow.of MD) ZE x true 0 [] (by simp at h1;rw[hp];omega) (by rw[e1,hp,FV])
  (MZ (lA (kA n) 0 (zA ats x)) e2)
  (fun j hj=>by
   have dW:j<(zA ats x).length:=by rw[←e1];exact hj
   have h5:=h4 j dW;have h6:(UA (kA n) 0 (zA ats x))[j]=(zA ats x)[j]:=by simp only[e1]
   rw[h6];rw[Array.getD_eq_getD_getElem?];rw[List.getD_eq_getElem?_getD]at h5;rw[Array.getElem?_toList]at h5;exact h5.mono (λ_ _ h=>h) (λ_ _ _=>rfl) λb hb=> .inl (GV b hb))
  (λ_ _=>rfl) (by simp) (λb hb=>by simp at hb) h2 (hF x) (by simp[fC,nN,enc]) ⟨hg,λ_ _ h=>h,Nat.le_of_eq hB,λ_ _ h=>h⟩
 rcases G with⟨_,G⟩ | ⟨v,w',G,_⟩
 ·refine Calls.mono' G λe w' ⟨v,he,ρ',g1,g2,_⟩=>?_;subst he;refine⟨?_,g1.wx.os,g1.wx.tape,g1.wx.output,g1.wx.size,λk hk=>g1.old k hk λh=>h⟩;have g3:VR w' ρ' (bA MD ρ' (TB ⟨kA n,LA ats,LA [.v .bool],zB ats,F,fC [.v .bool],[(false,1)],[],false⟩ (zA ats x) [] 0 (fC [.v .bool] true))) v (.bool true):=g2;cases g3;rfl
 ·rw[iZ]at G;cases G
omit [aA]in
def zau{W W':World}(hb:Below W.heap.size W W'){b off:Nat}(h:b<W.heap.size):W'.frozen? ⟨b,off,none⟩=W.frozen? ⟨b,off,none⟩:=by
 simp only[World.frozen?,hb.block b h]
omit [aA]in
def dQ(hl:laidOutB P=true){W':World}(hb:Below W.heap.size W W'){sp':Nat→Bool}:∀(ts:List TypeId) (vs:List Value) (ds:List (DataW H)) (ps:List MemPlace),
  (∀t∈ts,P.readableRec t=true∧t<P.types.size)→DataW.TrodAll encH P W 0 (λ_=>true) true ts vs ds ps→(∀x∈ps,x.block<W.heap.size)→(∀x∈ps,sp' x.block=true)→DataW.TrodAll encH P W' 0 sp' true ts vs ds ps
 | [],vs,ds,ps,hr,h,HV,hs=>by
  cases vs<;>cases ds<;>simp[DataW.TrodAll]at h⊢
  exact h
 | t :: ts,vs,ds,ps,hr,h,HV,hs=>by
  obtain⟨v,vs',d,ds',p,q,rfl,rfl,rfl,h0,h1⟩:=ChangeShapes.trodAll_cons h
  refine⟨p,q,WideElems.Trod_stays hl (hr t (by simp)).1 (hr t (by simp)).2 h0 (λx hx=>hb.same (HV x (by simp[hx]))) (λx hx=>hs x (by simp[hx])),
   dQ hl hb ts vs' ds' q (λt ht=>hr t (List.mem_cons_of_mem _ ht)) h1 (λx hx=>HV x (by simp[hx])) (λx hx=>hs x (by simp[hx])),rfl⟩
omit [aA]in
def zcI(hl:laidOutB P=true){f:Func}{s:ChangeSpec}{apart fresh NW again:Bool}{W':World}{args:Array Value}{ds gs:List (DataW H)}{before:List MemPlace}
  (U3:∀t∈f.params.toList,P.readableRec t=true∧t<P.types.size) (kX:s.vars=[]) (hW:DataW.Whole encH P f.params.toList s.vars apart W args.toList ds gs before) (hb:Below W.heap.size W W')
  {T:TypeId} (hT:f.resultTypes= #[T]) (DX:P.underlying T=some .bool) (CX:s.fn H (ds++gs)={results:=[.lit (.bool true)],args:=ds}):
  s.post encH P f apart fresh NW again W args (.bool true) W':=by
 obtain⟨p,q,h1,h2,rfl,h3,h4⟩:=id hW;rw[kX]at h2;have hq:gs=[]∧q=[]:=by cases gs<;>simp[DataW.TrodVars]at h2;exact⟨rfl,h2⟩
 obtain⟨rfl,rfl⟩:=hq;have HV:∀x∈p,x.block<W.heap.size:=λx hx=>hW.lt x (by simp[hx])
 have bW:∀sp:Nat→Bool,(∀x∈p,sp x.block=true)→DataW.TrodAll encH P W' 0 sp true f.params.toList args.toList (s.fn H (ds++[])).args p:=λsp hs=>by
  rw[CX];exact dQ hl hb _ _ _ _ U3 h1 HV hs
 have CW:∀(b:Nat) (sp:Nat→Bool) (hd:Bool),DataW.TrodAll encH P W' b sp hd f.resultTypes.toList ((Value.bool true).resultList f.resultTypes.size) (s.fn H (ds++[])).results []:=λb sp hd=>by
  rw[CX,hT];refine⟨[],[],RowKit.shut_bool DX _,rfl,rfl⟩
 have PW:∀sp:Nat→Bool,DataW.TrodVars encH P W' sp s.vars (s.fn H (ds++[])).vars []:=λsp=>by
  rw[CX,kX];rfl
 have oW:∀x∈p,(λb=>decide (b<W.heap.size)) x.block=true:=λx hx=>by simpa using HV x hx
 refine⟨ds,[],p++[],[],p,[],hW,CW _ _ _,bW _ oW,PW _,?_,λ_=>⟨?_,_,_,([]++p)++[],⟨[]++p,[],trodAll_append (bW _ (λ_ _=>rfl)) (CW _ _ _),PW _,rfl,?_,?_⟩,?_⟩⟩
 ·refine⟨hb.os,hb.output,λi hi=>?_⟩;rw[hb.block i hi];exact(World.keptBut_refl W (λx=>x∈p++[]∧(x∈[]∨x∈p∨x∈[]))).2.2 i hi
 ·exact ok_one hT rfl (okWide_bool_mk DX _)
 ·intro c off hp;have v6:MemPlace.cell c off∈p++[]:=by simpa using hp
  have:=HV (.cell c off) (by simpa using v6);rw[zau (b:=c) (off:=off) hb this];exact h3 c off v6
 ·intro ha;have:=h4 ha;simpa using this
 ·intro x hx _;simpa using hx
omit [aA]in
def zc2 {f : Nat} {fn : Func} {body : Code} (hf : P.funcs[f]? = some fn) (hb : fn.body = some body) (aW : (fn.name == "runtime.NumGoroutine") = false) (args : Array Value) :
  (callFunc f args).run P W= .ok (.enter f args) W:=by
 have HW : ¬ fn.name = "runtime.NumGoroutine" := by simpa using aW
 simp[callFunc,program,hf,hb,HW,Sem.run]
omit [aA]in
def zcO{g:Gl}(hg:g.p W){tn:TypeId→Option TN}{D:Nat}(hK:qG P tn D){f:Nat}{fn:Func}{body:Code}{ats:List Ty}{F:LA ats→Option Bool}{n:Nat}
  {tns:TypeId→Option TN} (hc:∀m:Nat,@oA ⟨tns,m⟩ P f ⟨kA n,LA ats,LA [.v .bool],zB ats,F,fC [.v .bool],[(false,1)],[],false⟩ g) (hn:ats.length=n) (hF:∀x,F x=some true)
  (hf : P.funcs[f]? = some fn) (hb : fn.body = some body) (aW : (fn.name == "runtime.NumGoroutine") = false) (ht : FG P tn D fn.params.toList ats = true)
  (hl:laidOutB P=true) (U3:(fn.params.toList.all λt=>P.readableRec t&&Nat.blt t P.types.size)=true) {T:TypeId} (hT:fn.resultTypes= #[T]) (DX:P.underlying T=some .bool)
  {s:ChangeSpec} (kX:s.vars=[]) {apart fresh NW again:Bool} {args:Array Value} {ds gs:List (DataW H)} {before:List MemPlace} {r:Reach} {b:Nat}
  (hW:DataW.Whole encH P fn.params.toList s.vars apart W args.toList ds gs before) (CX:gs=[]→s.fn H (ds++gs)={results:=[.lit (.bool true)],args:=ds})
  (BW:∀(j:Nat) t v,fn.params[j]?=some t→args[j]?=some v→Value.okWide P W r b t v):
  Calls P f args W λe W'=>∃v,e= .returned v∧s.post encH P fn apart fresh NW again W args v W':=by
 obtain⟨p,q,h1,h2,h3⟩:=id hW
 have V9:gs=[]:=by
  rw[kX]at h2;cases gs
  ·rfl
  ·simp[DataW.TrodVars]at h2
 letI:aA:=⟨tns,W.heap.size⟩
 refine Calls.mono' (zbM rfl hK hg (hc W.heap.size) hn hF ht h1 (λj t v h5 h6=>BW j t v (by simpa using h5) h6) (zc2 hf hb aW args)) λe W' ⟨he,hb⟩=>⟨_,he,zcI hl (λt ht=>?_) kX hW hb hT DX (CX V9)⟩;have:=List.all_eq_true.1 U3 t ht;simpa using this
omit [aA]in
def zdv{tn:TypeId→Option TN}{D:Nat}(hK:qG P tn D){f:Nat}{fn:Func}{body:Code}{ats:List Ty}{F:LA ats→Option Bool}{n:Nat}
  {tns:TypeId→Option TN} (hc:∀m:Nat,@oA ⟨tns,m⟩ P f ⟨kA n,LA ats,LA [.v .bool],zB ats,F,fC [.v .bool],[(false,1)],[],false⟩ CB) (hn:ats.length=n) (hF:∀x,F x=some true)
  (hf : P.funcs[f]? = some fn) (hb : fn.body = some body) (aW : (fn.name == "runtime.NumGoroutine") = false) (ht : FG P tn D fn.params.toList ats = true)
  (hl:laidOutB P=true) (U3:(fn.params.toList.all λt=>P.readableRec t&&Nat.blt t P.types.size)=true) {T:TypeId} (hT:fn.resultTypes= #[T]) (DX:P.underlying T=some .bool)
  {s:ChangeSpec} (kX:s.vars=[]) {apart fresh NW again:Bool} {args:Array Value} {ds gs:List (DataW H)} {before:List MemPlace} {r:Reach} {b:Nat}
  (hW:DataW.Whole encH P fn.params.toList s.vars apart W args.toList ds gs before) (CX:gs=[]→s.fn H (ds++gs)={results:=[.lit (.bool true)],args:=ds})
  (BW:∀(j:Nat) t v,fn.params[j]?=some t→args[j]?=some v→Value.okWide P W r b t v):
  Calls P f args W λe W'=>∃v,e= .returned v∧s.post encH P fn apart fresh NW again W args v W':=
 zcO (g:=CB) trivial hK hc hn hF hf hb aW ht hl U3 hT DX kX hW CX BW
end
end Go.D

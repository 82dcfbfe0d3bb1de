/-
 A body's end: what the function gives.
-/
import Derived.Test.YtfipojlaeaeedaaGreatL6
import Derived.Test.YtfipojlaeaeedaaGreatL5
import Derived.Carry
import Derived.WideKeyArgs
import Derived.ChangeSame
set_option linter.all false
namespace Go.D
variable [fA]
omit [fA]in
def mB.app{a b c d:List V}(h:mB a b)(k:mB c d):mB (a++c) (b++d):=by
 induction h with
 | nil=>exact k
 | cons h1 _ ih=>exact .cons h1 ih
omit [fA]in
def zcL(t:Ty)(vs:List V)(x:t.T×List V)(h:HF t vs=some x):∃us,vs=us++x.2∧mB us (GU t x.1):=by
 cases t with
 | v t=>
  simp only[HF]at h;obtain⟨a,h1,h2⟩:=Option.bind_eq_some_iff.1 h;cases h2;exact⟨_,(List.take_append_drop _ _).symm,ZD t h1⟩
 | cells t=>
  simp only[HF]at h;obtain⟨a,h1,h2⟩:=Option.bind_eq_some_iff.1 h;cases h2;exact⟨_,(List.take_append_drop _ _).symm,ZD t h1⟩
 | sl t=>
  cases vs with
  | nil=>simp[HF]at h
  | cons v vs=>
   simp only[HF]at h;obtain⟨a,h1,h2⟩:=Option.bind_eq_some_iff.1 h;cases h2;exact⟨[v],rfl, .cons (MA h1) .nil⟩
 | raw=>
  cases vs with
  | nil=>simp[HF]at h
  | cons v vs=>simp only[HF,Option.some.injEq]at h;subst h;exact⟨[v],rfl, .cons (.refl _) .nil⟩
 | pt=>simp[HF]at h
 | c1=>simp[HF]at h
 | p1=>simp[HF]at h
 | c2=>simp[HF]at h
omit [fA]in
def zaw:∀(ts:List Ty) (vs:List V) (x:RA ts),IG ts vs=some x→mB vs (XC ts x)
 | [],[],x,h=> .nil
 | [],_ :: _,x,h=>by simp[IG]at h
 | [t],vs,x,h=>by
  simp only[IG]at h;obtain⟨y,h1,h2⟩:=Option.bind_eq_some_iff.1 h;obtain⟨us,h3,h4⟩:=zcL t vs y h1;split at h2
  ·rename_i h5;cases h2;rw[h5,List.append_nil]at h3;subst h3;exact h4
  ·cases h2
 | t :: d :: r,vs,x,h=>by
  simp only[IG]at h;obtain⟨y,h1,h2⟩:=Option.bind_eq_some_iff.1 h;obtain⟨z,h3,h4⟩:=Option.bind_eq_some_iff.1 h2;cases h4;obtain⟨us,h5,h6⟩:=zcL t vs y h1;rw[h5];exact h6.app (zaw (d :: r) _ z h3)
section
variable {C:Cx} {w0:World} {outer own D:Nat→Prop} {R:Type} {st st1 st2:St} {ρ ρ1 ρ2:Nat→Option RI} {a a1 a2:Act} {w w1 w2:World} {j:JI}
omit [fA]in
def zdZ(an:An):∀c:Code,kG an (λ_=>True) c:=by
 have jd:∀o,JD (λ_=>True) o:=λo=>by cases o<;>simp[JD]
 intro c;induction c with
 | region id ops d=>exact⟨λ_ _ _ _=>trivial,jd _⟩
 | seq x y hx hy=>exact⟨hx,hy⟩
 | cond c x y hx hy=>cases c<;>first | exact⟨hx,hy,jd _⟩ | exact⟨hx,hy⟩
 | block id x hx=>exact⟨hx,jd _⟩
 | loop x hx=>
  refine⟨hx,?_⟩;split
  ·exact jd _
  ·trivial
 | scope x hx=>exact hx
 | _=>trivial
omit [fA]in
def dS(ow:List Nat)(B:Nat)(e:V)(es:List V)(p q:Nat)(h:q≠p):PA ow B (λ_=>none) p (e :: es) (B+q)=PA ow B (λ_=>none) (p+1) es (B+q):=by
 cases e<;>simp only[PA]
 cases hb:ow.any (Nat.beq p)
 ·rfl
 ·simp only[cond_true];rw[tA _ _ _ _ (by omega)]
omit [fA]in
def zaU(ow:List Nat)(B:Nat):∀(cs es:List V) (p q:Nat) (row:kA),mB cs es→PA ow B (λ_=>none) p es (B+q)=some row→
  PA ow B (λ_=>none) p cs (B+q)=some row∨(PA ow B (λ_=>none) p cs (B+q)=none∧∃t,row=⟨.arr t [], .own⟩)
 | [],_,p,q,row,hs,h=>by cases hs;simp[PA]at h
 | c :: cs,_,p,q,row,hs,h=>by
  cases hs with
  | cons KX bX=>
  rename_i e es
  by_cases hq:q=p
  ·subst hq;cases KX with
   | refl=>
    have hn:∀l:List V,PA ow B (λ_=>none) (q+1) l (B+q)=none:=λl=>EC _ _ _ _ _ (by omega);left;cases c<;>simp only[PA]at h⊢ <;>try (rw[hn]at h;cases h)
    cases hb:ow.any (Nat.beq q)
    ·simp only[hb,cond_false]at h;rw[hn]at h;cases h
    ·simp only[hb,cond_true,EA]at h⊢;exact h
   | byte n=>simp only[PA]at h;rw[EC _ _ _ _ _ (by omega)]at h;cases h
   | nil t=>
    right;simp only[PA]at h⊢;refine⟨EC _ _ _ _ _ (by omega),?_⟩;cases hb:ow.any (Nat.beq q)
    ·simp only[hb,cond_false]at h;rw[EC _ _ _ _ _ (by omega)]at h;cases h
    ·simp only[hb,cond_true,EA]at h;cases h;exact⟨t,rfl⟩
  ·rw[dS _ _ _ _ _ _ hq]at h⊢;exact zaU ow B cs es (p+1) q row bX h
def zaM(ow:List Nat)(B:Nat){bad bad2:Nat→Prop}{ρ2:Nat→Option RI}(hk:∀u d,VR w ρ bad u d→VR w ρ2 bad2 u d):∀(cs es:List V) (p:Nat) (u:Nat→Value),mB cs es→
  (∀q t,p≤q→PA ow B (λ_=>none) p cs (B+q)=none→PA ow B (λ_=>none) p es (B+q)=some ⟨.arr t [], .own⟩→ρ2 (B+q)=some ⟨0,0,0,true⟩)→
  (∀j (hj:j<(HA ow B p cs).length),VR w ρ bad (u j) (HA ow B p cs)[j])→∀j (hj:j<(HA ow B p es).length),VR w ρ2 bad2 (u j) (HA ow B p es)[j]
 | [],_,p,u,hs,hn,hv,j,hj=>by cases hs;simp[HA]at hj
 | c :: cs,_,p,u,hs,hn,hv,j,hj=>by
  cases hs with
  | cons KX bX=>
  rename_i e es;have hd:∀(c:V) (cs:List V),∃c',HA ow B p (c :: cs)=c' :: HA ow B (p+1) cs:=λc cs=>by cases c<;>exact⟨_,rfl⟩
  obtain⟨c',yY⟩:=hd c cs;obtain⟨e',VW⟩:=hd e es
  have G0:∀j (hj:j<(c' :: HA ow B (p+1) cs).length),VR w ρ bad (u j) (c' :: HA ow B (p+1) cs)[j]:=λj hj=>by
   have:=hv j (by rw[yY];exact hj);simpa only[yY]using this
  have ih:=zaM ow B hk cs es (p+1) (λj=>u (j+1)) bX (λq t h1 h2 h3=>hn q t (by omega) (by rw[dS _ _ _ _ _ _ (by omega)];exact h2) (by rw[dS _ _ _ _ _ _ (by omega)];exact h3))
   (λj hj=>by have:=G0 (j+1) (by simp;omega);simpa using this)
  have PW:=G0 0 (by simp);simp only[List.getElem_cons_zero]at PW
  have goal0:VR w ρ2 bad2 (u 0) e':=by
   cases KX with
   | refl=>
    have:e'=c':=by
     have h1:=congrArg List.head? yY;have h2:=congrArg List.head? VW;cases c<;>simp[HA]at h1 h2<;>rw[←h1, ←h2]
    rw[this];exact hk _ _ PW
   | byte n=>
    have h1:=congrArg List.head? yY;have h2:=congrArg List.head? VW;simp only[HA,List.head?_cons,Option.some.injEq]at h1 h2;subst h1;subst h2;exact hk _ _ (VR.sub (.byte n) PW)
   | nil t=>
    have h1:=congrArg List.head? yY;have h2:=congrArg List.head? VW;simp only[HA,List.head?_cons,Option.some.injEq]at h1 h2;subst h1;have TY:u 0= .slice none 0 0:=by generalize u 0=x at PW;cases PW;rfl
    cases hb:ow.any (Nat.beq p)
    ·simp only[hb,cond_false]at h2;subst h2;rw[TY];exact .slE _ _ _ (Nat.zero_le _)
    ·simp only[hb,cond_true]at h2;subst h2;rw[TY];refine .owN _ ⟨0,0,0,true⟩ none (hn p t (Nat.le_refl _) ?_ ?_) rfl rfl
     ·simp only[PA];exact EC _ _ _ _ _ (by omega)
     ·simp only[PA,hb,cond_true,EA]
  cases j with
  | zero=>simp only[VW,List.getElem_cons_zero];exact goal0
  | succ j=>simp only[VW,List.getElem_cons_succ];exact ih j (by rw[VW]at hj;simpa using hj)
omit [fA]in
def zdl{t:Ty}{ats:List Ty}{as:List V}{x:RA (t :: ats)}(hd:kC (t :: ats) as=some x):
  ∃v vs y,as=v :: vs∧∃(x0:t.T),QC t v=some x0∧kC ats vs=some y∧SA (t :: ats) x=WB t x0 :: SA ats y:=by
 cases ats with
 | nil=>
  cases as with
  | nil=>simp[kC]at hd
  | cons v vs=>
   cases vs with
   | nil=>exact⟨v,[],(),rfl,x,by simpa[kC]using hd,rfl,rfl⟩
   | cons=>simp[kC]at hd
 | cons d r=>
  cases as with
  | nil=>simp[kC]at hd
  | cons v vs=>
   simp only[kC]at hd;obtain⟨x0,h1,h2⟩:=Option.bind_eq_some_iff.1 hd;obtain⟨y,h3,h4⟩:=Option.bind_eq_some_iff.1 h2;cases h4;exact⟨v,vs,y,rfl,x0,h1,h3,rfl⟩
omit [fA]in
def NE:∀(ks:List WA) (k:Nat) (as:List V) (q:Nat) (row:kA),yA ks k as q=some row→128 *k≤q
  | [],k,as,q,row,h=>by cases as<;>simp[yA]at h
  | .plain :: ks,k,[],q,row,h=>by simp[yA]at h
  | .plain :: ks,k,a :: as,q,row,h=>by
   have:=NE ks (k+1) as q row (by simpa only[yA]using h);omega
  | .mv ow :: ks,k,[],q,row,h=>by simp[yA]at h
  | .mv ow :: ks,k,a :: as,q,row,h=>by
   cases a<;>simp only[yA]at h<;>try (cases h;done)
   rw[AB]at h;split at h
   ·rename_i x hx;obtain⟨_,_,_,h1,_⟩:=gD _ _ _ _ _ _ hx;omega
   ·have:=NE ks (k+1) as q row h;omega
  | .ptr ow :: ks,k,[],q,row,h=>by simp[yA]at h
  | .ptr ow :: ks,k,a :: as,q,row,h=>by
   cases a<;>simp only[yA]at h<;>try (cases h;done)
   by_cases hq:q=128 *k+127
   ·omega
   ·rw[tA _ _ _ _ hq,AB]at h;split at h
    ·rename_i x hx;obtain⟨_,_,_,h1,_⟩:=gD _ _ _ _ _ _ hx;omega
    ·have:=NE ks (k+1) as q row h;omega
def zeQ{bad bad2:Nat→Prop}{ρ2:Nat→Option RI}(lX:∀u d,VR w ρ bad u d→VR w ρ2 bad2 u d):∀(ks:List WA) (ats:List Ty) (as:List V) (x:RA ats) (k:Nat) (u:Nat→Value),GB ks ats=true→kC ats as=some x→
  (∀q t,yA ks k as q=none→yA ks k (SA ats x) q=some ⟨.arr t [], .own⟩→ρ2 q=some ⟨0,0,0,true⟩)→
  (∀j (hj:j<(fB ks k as).length),VR w ρ bad (u j) (fB ks k as)[j])→
  (fB ks k (SA ats x)).length=(fB ks k as).length∧∀j (hj:j<(fB ks k (SA ats x)).length),VR w ρ2 bad2 (u j) (fB ks k (SA ats x))[j]:=by
 intro ks;induction ks with
 | nil=>
  intro ats as x k u hk hd hn hv;cases ats with
  | nil=>cases as with
   | nil=>exact⟨rfl,λj hj=>by simp[fB]at hj⟩
   | cons=>simp[kC]at hd
  | cons=>simp[GB]at hk
 | cons q ks ih=>
  intro ats as x k u hk hd hn hv;cases ats with
  | nil=>cases q<;>simp[GB]at hk
  | cons t ats=>
   obtain⟨v,vs,y,rfl,x0,h1,h3,h4⟩:=zdl hd;rw[h4]at hn⊢;cases q with
   | plain=>
    simp only[GB]at hk;obtain⟨e1,e2⟩:=ih ats vs y (k+1) (λj=>u (j+1)) hk h3 (λq t a b=>hn q t a b) (λj hj=>hv (j+1) (by simp[fB];omega));refine⟨by simp[fB,e1],λj hj=>?_⟩;cases j with
    | zero=>exact lX _ _ (zeE t v x0 h1 (hv 0 (by simp[fB])))
    | succ j=>exact e2 j (by simpa[fB]using hj)
   | ptr ow=>
    cases t with
    | cells t=>
     simp only[GB,Bool.and_eq_true]at hk;have RV:=Nat.le_of_ble_eq_true hk.1;simp only[QC]at h1;split at h1
     case h_2=>cases h1
     rename_i cs;have cW:(enc t x0).length=sz t:=fC t x0;have K0:cs.length=sz t:=by rw[(ZD t h1).len,cW]
     obtain⟨e1,e2⟩:=ih ats vs y (k+1) (λj=>u (j+1)) hk.2 h3 (λq t' a b=>by
      have AX:=NE ks (k+1) _ q _ b;refine hn q t' ?_ ?_
      ·simp only[yA];rw[tA _ _ _ _ (by omega),AB,EC _ _ _ _ _ (by omega)];exact a
      ·simp only[yA,WB];rw[tA _ _ _ _ (by omega),AB,EC _ _ _ _ _ (by omega)];exact b) (λj hj=>hv (j+1) (by simp[fB];omega))
     refine⟨by simp[fB,e1],λj hj=>?_⟩;cases j with
     | zero=>exact lX _ _ (hv 0 (by simp[fB]))
     | succ j=>exact e2 j (by simpa[fB]using hj)
    | _=>simp[GB]at hk
   | mv ow=>
    cases t with
    | v t=>
     simp only[GB,Bool.and_eq_true]at hk;obtain⟨⟨eW,RV⟩,hk⟩:=hk;have RV:=Nat.le_of_ble_eq_true RV;simp only[QC]at h1;split at h1
     case h_2=>simp[eW]at h1
     rename_i cs;simp only[eW,cond_true]at h1;have fW:=ZD t h1;have cW:(enc t x0).length=sz t:=fC t x0;have K0:cs.length=sz t:=by rw[fW.len,cW]
     have Q4:WB (.v t) x0= .agg (enc t x0):=by simp only[WB,wH,eW,cond_true]
     rw[Q4]at hn⊢
     obtain⟨e1,e2⟩:=ih ats vs y (k+1) (λj=>u (j+1)) hk h3 (λq t' a b=>by
      have AX:=NE ks (k+1) _ q _ b;refine hn q t' ?_ ?_
      ·simp only[yA];rw[AB,EC _ _ _ _ _ (by omega)];exact a
      ·simp only[yA];rw[AB,EC _ _ _ _ _ (by omega)];exact b) (λj hj=>hv (j+1) (by simp[fB];omega))
     refine⟨by simp[fB,e1],λj hj=>?_⟩;cases j with
     | zero=>
      have PW:=hv 0 (by simp[fB]);simp only[fB,List.getElem_cons_zero]at PW⊢;generalize u 0=u0 at PW;cases PW with
      | agg _ vsA hs XW=>
      rw[UD]at hs;refine .agg _ vsA (by rw[UD,hs,cW,K0]) ?_;refine zaM ow (128 *k) lX cs (enc t x0) 0 (λj=>vsA.getD j undef) fW (λp t' _ h5 h6=>?_) XW;obtain⟨_,_,_,e3,e4⟩:=gD _ _ _ _ _ _ h6;refine hn _ t' ?_ ?_
      ·simp only[yA];rw[AB,h5];show yA ks (k+1) vs (128 *k+p)=none
       cases hr:yA ks (k+1) vs (128 *k+p)with
       | none=>rfl
       | some z=>have:=NE ks (k+1) vs _ z hr;omega
      ·simp only[yA];rw[AB,h6]
     | succ j=>exact e2 j (by simpa[fB]using hj)
    | _=>simp[GB]at hk
omit [fA]in
def zmc:∀(ks:List WA) (ats:List Ty) (as:List V) (x:RA ats) (k:Nat),GB ks ats=true→kC ats as=some x→
  (∀q row,yA ks k as q=some row→q<128 *(k+ks.length))∧
  ∀q row',yA ks k (SA ats x) q=some row'→q<128 *(k+ks.length)∧(yA ks k as q=some row'∨(yA ks k as q=none∧∃t,row'=⟨.arr t [], .own⟩)∨
   ∃ow B cs es,yA ks k as q=some ⟨.box (HA ow B 0 cs), .own⟩∧row'=⟨.box (HA ow B 0 es), .own⟩∧mB cs es∧
    ∀p t,PA ow B (λ_=>none) 0 cs (B+p)=none→PA ow B (λ_=>none) 0 es (B+p)=some ⟨.arr t [], .own⟩→yA ks k as (B+p)=none∧yA ks k (SA ats x) (B+p)=some ⟨.arr t [], .own⟩):=by
 intro ks;induction ks with
 | nil=>
  intro ats as x k hk hd;refine⟨λq row h=>by cases as<;>simp[yA]at h,λq row' h=>?_⟩;cases ats with
  | nil=>simp[yA]at h
  | cons=>simp[GB]at hk
 | cons g ks ih=>
  intro ats as x k hk hd;cases ats with
  | nil=>cases g<;>simp[GB]at hk
  | cons t ats=>
   obtain⟨v,vs,y,rfl,x0,h1,h3,h4⟩:=zdl hd;rw[h4];cases g with
   | plain=>
    simp only[GB]at hk;obtain⟨i1,i2⟩:=ih ats vs y (k+1) hk h3;refine⟨λq row h=>?_,λq row' h=>?_⟩
    ·simp only[yA]at h;have:=i1 q row h;simp only[List.length_cons];omega
    ·simp only[yA]at h⊢;obtain⟨j1,j2⟩:=i2 q row' h;exact⟨by simp only[List.length_cons];omega,j2⟩
   | ptr ow=>
    cases t with
    | cells t=>
     simp only[GB,Bool.and_eq_true]at hk;obtain⟨RV,hk⟩:=hk;have RV:=Nat.le_of_ble_eq_true RV;simp only[QC]at h1;split at h1
     case h_2=>cases h1
     rename_i cs;obtain⟨i1,i2⟩:=ih ats vs y (k+1) hk h3;have fW:=ZD t h1;have cW:(enc t x0).length=sz t:=fC t x0;have K0:cs.length=sz t:=by rw[fW.len,cW]
     refine⟨λq row h=>?_,λq row' h=>?_⟩
     ·simp only[List.length_cons];simp only[yA]at h
      by_cases hq:q=128 *k+127
      ·omega
      ·rw[tA _ _ _ _ hq,AB]at h;split at h
       ·rename_i z hz;obtain⟨_,_,_,e1,e2⟩:=gD _ _ _ _ _ _ hz;omega
       ·have:=i1 q row h;omega
     ·simp only[List.length_cons];simp only[WB,yA]at h
      by_cases hq:q=128 *k+127
      ·subst hq;rw[EA]at h;cases h;refine⟨by omega, .inr (.inr ⟨ow,128 *k,cs,enc t x0,by simp only[yA];exact EA _ _ _,rfl,fW,λp t' e1 e2=>?_⟩)⟩;obtain⟨_,_,_,e3,e4⟩:=gD _ _ _ _ _ _ e2;have MX:128 *k+p≠128 *k+127:=by omega
       simp only[yA,WB];rw[tA _ _ _ _ MX,tA _ _ _ _ MX,AB,AB ow (128 *k) (yA ks (k+1) (SA ats y)),e1,e2];refine⟨?_,rfl⟩;cases hr:yA ks (k+1) vs (128 *k+p)with
       | none=>rfl
       | some z=>have:=NE ks (k+1) vs _ z hr;omega
      ·rw[tA _ _ _ _ hq,AB]at h;split at h
       ·rename_i z hz;cases h;obtain⟨_,_,_,e1,e2⟩:=gD _ _ _ _ _ _ hz;refine⟨by omega,?_⟩;have dY:=hz;rw[show q=128 *k+(q - 128 *k) by omega]at dY
        rcases zaU ow (128 *k) cs (enc t x0) 0 _ _ fW dY with h5 | ⟨h5,h6⟩<;>rw[show 128 *k+(q - 128 *k)=q by omega]at h5
        ·left;simp only[yA];rw[tA _ _ _ _ hq,AB,h5]
        ·right;left;refine⟨?_,h6⟩;simp only[yA];rw[tA _ _ _ _ hq,AB,h5];show yA ks (k+1) vs q=none
         cases hr:yA ks (k+1) vs q with
         | none=>rfl
         | some z=>have:=NE ks (k+1) vs _ z hr;omega
       ·rename_i hz;obtain⟨j1,j2⟩:=i2 q row' h;have AX:=NE ks (k+1) _ q row' h
        have lift:∀q',128 *(k+1)≤q'→yA (.ptr ow :: ks) k (.agg cs :: vs) q'=yA ks (k+1) vs q'∧yA (.ptr ow :: ks) k (.agg (enc t x0) :: SA ats y) q'=yA ks (k+1) (SA ats y) q':=λq' vX=>by
         simp only[yA];rw[tA _ _ _ _ (by omega),tA _ _ _ _ (by omega),AB,AB ow (128 *k) (yA ks (k+1) (SA ats y)),EC _ _ _ _ _ (by omega),EC _ _ _ _ _ (by omega)];exact⟨rfl,rfl⟩
        obtain⟨l1,l2⟩:=lift q (by omega);refine⟨by omega,?_⟩;rw[l1]
        rcases j2 with j2 | j2 | ⟨ow',B,cs',es',j2,j3,j4,j5⟩
        ·exact .inl j2
        ·exact .inr (.inl j2)
        ·refine .inr (.inr ⟨ow',B,cs',es',j2,j3,j4,λp t' e1 e2=>?_⟩);obtain⟨j6,j7⟩:=j5 p t' e1 e2;have:=NE ks (k+1) _ _ _ j7;obtain⟨l3,l4⟩:=lift (B+p) (by omega);show yA (.ptr ow :: ks) k (.agg cs :: vs) (B+p)=none∧yA (.ptr ow :: ks) k (.agg (enc t x0) :: SA ats y) (B+p)=_
         rw[l3,l4];exact⟨j6,j7⟩
    | _=>simp[GB]at hk
   | mv ow=>
    cases t with
    | v t=>
     simp only[GB,Bool.and_eq_true]at hk;obtain⟨⟨eW,RV⟩,hk⟩:=hk;have RV:=Nat.le_of_ble_eq_true RV;simp only[QC]at h1;split at h1
     case h_2=>simp[eW]at h1
     rename_i cs;simp only[eW,cond_true]at h1;obtain⟨i1,i2⟩:=ih ats vs y (k+1) hk h3;have fW:=ZD t h1;have cW:(enc t x0).length=sz t:=fC t x0;have K0:cs.length=sz t:=by rw[fW.len,cW]
     have Q4:WB (.v t) x0= .agg (enc t x0):=by simp only[WB,wH,eW,cond_true]
     rw[Q4];refine⟨λq row h=>?_,λq row' h=>?_⟩
     ·simp only[List.length_cons];simp only[yA]at h;rw[AB]at h;split at h
      ·rename_i z hz;obtain⟨_,_,_,e1,e2⟩:=gD _ _ _ _ _ _ hz;omega
      ·have:=i1 q row h;omega
     ·simp only[List.length_cons];simp only[yA]at h;rw[AB]at h;split at h
      ·rename_i z hz;cases h;obtain⟨_,_,_,e1,e2⟩:=gD _ _ _ _ _ _ hz;refine⟨by omega,?_⟩;have dY:=hz;rw[show q=128 *k+(q - 128 *k) by omega]at dY
       rcases zaU ow (128 *k) cs (enc t x0) 0 _ _ fW dY with h5 | ⟨h5,h6⟩<;>rw[show 128 *k+(q - 128 *k)=q by omega]at h5
       ·left;simp only[yA];rw[AB,h5]
       ·right;left;refine⟨?_,h6⟩;simp only[yA];rw[AB,h5];show yA ks (k+1) vs q=none
        cases hr:yA ks (k+1) vs q with
        | none=>rfl
        | some z=>have:=NE ks (k+1) vs _ z hr;omega
      ·rename_i hz;obtain⟨j1,j2⟩:=i2 q row' h;have AX:=NE ks (k+1) _ q row' h
       have lift:∀q',128 *(k+1)≤q'→yA (.mv ow :: ks) k (.agg cs :: vs) q'=yA ks (k+1) vs q'∧yA (.mv ow :: ks) k (.agg (enc t x0) :: SA ats y) q'=yA ks (k+1) (SA ats y) q':=λq' vX=>by
        simp only[yA];rw[AB,AB ow (128 *k) (yA ks (k+1) (SA ats y)),EC _ _ _ _ _ (by omega),EC _ _ _ _ _ (by omega)];exact⟨rfl,rfl⟩
       obtain⟨l1,l2⟩:=lift q (by omega);refine⟨by omega,?_⟩;rw[l1]
       rcases j2 with j2 | j2 | ⟨ow',B,cs',es',j2,j3,j4,j5⟩
       ·exact .inl j2
       ·exact .inr (.inl j2)
       ·refine .inr (.inr ⟨ow',B,cs',es',j2,j3,j4,λp t' e1 e2=>?_⟩);obtain⟨j6,j7⟩:=j5 p t' e1 e2;have:=NE ks (k+1) _ _ _ j7;obtain⟨l3,l4⟩:=lift (B+p) (by omega);rw[l3,l4];exact⟨j6,j7⟩
    | _=>simp[GB]at hk
def zey{ks:List WA}{ats:List Ty}{as:List V}{x:RA ats}(EX:GB ks ats=true)(hd:kC ats as=some x)(hh:VA w0 outer own ρ (yA ks 0 as) w)(qW:∀q,yA ks 0 as q=none→ρ q=none):
  ∃ρ2,VA w0 outer own ρ2 (yA ks 0 (SA ats x)) w∧(∀u d,VR w ρ (jA outer ρ (yA ks 0 as)) u d→VR w ρ2 (jA outer ρ2 (yA ks 0 (SA ats x))) u d)∧
   (∀q ri,ρ q=some ri→ρ2 q=some ri)∧(∀q,128 *ks.length≤q→ρ2 q=none)∧∀q row,yA ks 0 as q=none→yA ks 0 (SA ats x) q=some row→ρ2 q=some ⟨0,0,0,true⟩:=by
 have hEE:∀q row,yA ks 0 as q=none→yA ks 0 (SA ats x) q=some row→ρ q=none:=λq _ h _=>qW q h;obtain⟨r1,r2⟩:=zmc ks ats as x 0 EX hd;generalize hE:yA ks 0 as=h at *;generalize hE2:yA ks 0 (SA ats x)=h2 at *
 let ρ2:Nat→Option RI:=λq=>match ρ q with
  | some ri=>some ri
  | none=>if(h2 q).isSome=true then some ⟨0,0,0,true⟩else none
 have e1:∀q ri,ρ q=some ri→ρ2 q=some ri:=λq ri hq=>by simp only[ρ2,hq]
 have e2:∀q row,ρ q=none→h2 q=some row→ρ2 q=some ⟨0,0,0,true⟩:=λq row hq hr=>by simp only[ρ2,hq,hr];rfl
 have e3:∀q,ρ q=none→h2 q=none→ρ2 q=none:=λq hq hr=>by simp only[ρ2,hq,hr];rfl
 have ZV:∀b,jA outer ρ2 h2 b→jA outer ρ h b:=by
  rintro b (hb | ⟨q,row,ri,f1,f2,f3,f4,f5⟩)
  ·exact .inl hb
  ·rcases(r2 q row f1).2 with g | ⟨g,_⟩ | ⟨ow,B,cs,es,g,_⟩
   ·obtain⟨ri',k1,_⟩:=hh.rows q _ g;rw[e1 _ _ k1]at f3;cases f3;exact .inr ⟨q,row,_,g,f2,k1,f4,f5⟩
   ·rw[e2 q row (qW q g) f1]at f3;cases f3;cases f4
   ·obtain⟨ri',k1,_⟩:=hh.rows q _ g;rw[e1 _ _ k1]at f3;cases f3;exact .inr ⟨q,_,_,g,rfl,k1,f4,f5⟩
 have hk:∀u d,VR w ρ (jA outer ρ h) u d→VR w ρ2 (jA outer ρ2 h2) u d:=λu d hu=>hu.mono e1 (λ_ _ _=>rfl) λb hb=> .inl (ZV b hb)
 have IY:∀q row' ri,h2 q=some row'→ρ2 q=some ri→ri.nl=false→∃row,h q=some row∧ρ q=some ri:=λq row' ri f1 f3 f4=>by
  rcases(r2 q row' f1).2 with g | ⟨g,_⟩ | ⟨ow,B,cs,es,g,_⟩
  ·obtain⟨ri',k1,_⟩:=hh.rows q _ g;rw[e1 _ _ k1]at f3;cases f3;exact⟨_,g,k1⟩
  ·rw[e2 q row' (qW q g) f1]at f3;cases f3;cases f4
  ·obtain⟨ri',k1,_⟩:=hh.rows q _ g;rw[e1 _ _ k1]at f3;cases f3;exact⟨_,g,k1⟩
 refine⟨ρ2,⟨hh.wx,hh.old,hh.outLt,λr row' hr=>?_,λq q' row row' qi qi' h1 h2 h3 h4 h5 h6 h7=>?_⟩,hk,e1,λq hq=>?_,λq row h1 h2=>e2 q row (qW q h1) h2⟩
 ·rcases(r2 r row' hr).2 with g | ⟨g,t,rfl⟩ | ⟨ow,B,cs,es,g,rfl,g2,g3⟩
  ·obtain⟨ri,k1,k2,k3⟩:=hh.rows r _ g;exact⟨ri,e1 _ _ k1,k2.keep (λ_=>rfl) hk,k3⟩
  ·exact⟨⟨0,0,0,true⟩,e2 r _ (qW r g) hr,⟨rfl, .inl ⟨rfl,rfl⟩⟩,λhn=>by cases hn⟩
  ·obtain⟨ri,k1,k2,k3⟩:=hh.rows r _ g;refine⟨ri,e1 _ _ k1,⟨k2.1,λj hj=>?_⟩,k3⟩;have hl:(HA ow B 0 es).length=(HA ow B 0 cs).length:=by rw[UD,UD,g2.len]
   obtain⟨f1,u,f2,f3⟩:=k2.2 j (by rw[←hl];exact hj);refine⟨f1,u,f2,?_⟩
   have:=zaM (w:=w) (ρ:=ρ) ow B hk cs es 0 (λj=>(w.cell? (wA ri.b j)).getD undef) g2 (λq t _ h5 h6=>by
    obtain⟨g4,g5⟩:=g3 q t h5 h6;exact e2 _ _ (qW _ g4) g5) (λj hj=>by
    obtain⟨_,u,f2,f3⟩:=k2.2 j hj;rw[f2];exact f3) j hj
   rw[f2]at this;exact this
 ·obtain⟨_,g1,g2⟩:=IY _ _ _ h1 h3 h5;obtain⟨_,g3,g4⟩:=IY _ _ _ h2 h4 h6;exact hh.inj q q' _ _ qi qi' g1 g3 g2 g4 h5 h6 h7
 ·refine e3 q (qW q ?_) ?_
  ·cases Y8:h q with
   | none=>rfl
   | some row=>have:=r1 q row Y8;omega
  ·cases Y8:h2 q with
   | none=>rfl
   | some row=>have:=(r2 q row Y8).1;omega
end
end Go.D
namespace Go.D
variable [fA]
section
variable {C:Cx} {w0:World} {outer own D:Nat→Prop} {R:Type} {st st1 st2:St} {ρ ρ1 ρ2:Nat→Option RI} {a a1 a2:Act} {w w1 w2:World} {j:JI}
omit [fA]in
def JS{α:Type}(l m:List α)(i:Nat)(d:α)(h:i<l.length):(l++m).getD i d=l.getD i d:=by
 rw[List.getD_eq_getElem?_getD,List.getD_eq_getElem?_getD,List.getElem?_append_left h]
omit [fA]in
def NS{α:Type}(l m:List α)(i:Nat)(d:α)(h:l.length≤i):(l++m).getD i d=m.getD (i - l.length) d:=by
 rw[List.getD_eq_getElem?_getD,List.getD_eq_getElem?_getD,List.getElem?_append_right h]
inductive OG:List (Bool×Nat)→List Value→List Value→Prop
 | nil:OG [] [] []
 | agg {n:Nat} {sh:List (Bool×Nat)} {rv cells:List Value} (vs:Array Value) (h:vs.size=n) (hr:OG sh rv cells):OG ((true,n) :: sh) (.agg vs :: rv) (vs.toList++cells)
 | one {sh:List (Bool×Nat)} {rv cells:List Value} (v:Value) (hr:OG sh rv cells):OG ((false,1) :: sh) (v :: rv) (v :: cells)
omit [fA]in
def OG.len{sh:List (Bool×Nat)}{rv cells:List Value}(h:OG sh rv cells):RH sh=cells.length∧rv.length=sh.length:=by
 induction h with
 | nil=>exact⟨rfl,rfl⟩
 | agg vs h hr ih=>simp only[RH,List.map_cons,List.sum_cons,List.length_append,Array.length_toList,List.length_cons]at ih⊢;omega
 | one v hr ih=>simp only[RH,List.map_cons,List.sum_cons,List.length_cons]at ih⊢;omega
def zlb{bad:Nat→Prop}{sh:List (Bool×Nat)}{rv cells:List Value}(h:OG sh rv cells):∀X:List V,cells.length≤X.length→(∀j (hj:j<X.length),j<cells.length→VR w ρ bad (cells.getD j undef) X[j])→
  (pD sh X).length=rv.length∧∀i (hi:i<(pD sh X).length),VR w ρ bad (rv.getD i undef) (pD sh X)[i]:=by
 induction h with
 | nil=>intro X _ _;exact⟨rfl,λi hi=>by simp[pD]at hi⟩
 | agg vs RV hr ih=>
  rename_i n sh rv cells;intro X hX hv;simp only[List.length_append,Array.length_toList]at hX
  obtain⟨h1,h2⟩:=ih (X.drop n) (by simp;omega) (λj hj sW=>by
   have:=hv (n+j) (by simp at hj;omega) (by simp;omega);rw[List.getElem_drop];rw[NS _ _ _ _ (by simp;omega)]at this;simpa[RV]using this)
  refine⟨by simp[pD,h1],λi hi=>?_⟩;cases i with
  | zero=>
   show VR w ρ bad (.agg vs) (.agg (X.take n))
   refine .agg _ _ (by simp;omega) λj hj=>?_;have Q7:j<n:=by simp at hj;omega
   have:=hv j (by simp at hj;omega) (by simp;omega);rw[JS _ _ _ _ (by simp;omega)]at this;rw[List.getElem_take];rw[Array.getD_eq_getD_getElem?];rw[List.getD_eq_getElem?_getD]at this;simpa using this
  | succ i=>exact h2 i (by simpa[pD]using hi)
 | one v hr ih=>
  rename_i sh rv cells;intro X hX hv;cases X with
  | nil=>simp at hX
  | cons x X=>
   simp only[List.length_cons]at hX;obtain⟨h1,h2⟩:=ih X (by omega) (λj hj sW=>hv (j+1) (by simp;omega) (by simp;omega));refine⟨by simp[pD,h1],λi hi=>?_⟩;cases i with
   | zero=>exact hv 0 (by simp) (by simp)
   | succ i=>exact h2 i (by simpa[pD]using hi)
omit [fA]in
def zlk{sh:List (Bool×Nat)}{X:List V}{v:V}(h:pD sh X=[v]):rG sh X=v:=by simp[rG,h]
omit [fA]in
def zkX{sh:List (Bool×Nat)}{X:List V}(h:∀v,pD sh X≠[v]):rG sh X= .tup (pD sh X):=by
 unfold rG;split
 ·rename_i v hv;exact absurd hv (h v)
 ·rfl
def zmn{bad:Nat→Prop}{sh:List (Bool×Nat)}{rv cells:List Value}(h:OG sh rv cells){X:List V}(hX:cells.length≤X.length)(hv:∀j (hj:j<X.length),j<cells.length→VR w ρ bad (cells.getD j undef) X[j]):
  VR w ρ bad (if h:rv.toArray.size=1 then rv.toArray[0]else .tuple rv.toArray) (rG sh X):=by
 obtain⟨h1,h2⟩:=zlb h X hX hv
 by_cases hY:∃v,pD sh X=[v]
 ·obtain⟨v,hY⟩:=hY;rw[zlk hY];rw[hY]at h1;have hl:rv.toArray.size=1:=by simpa using h1.symm
  rw[dif_pos hl];have h3:=h2 0 (by rw[hY];simp);simp only[hY,List.getElem_cons_zero]at h3;rw[List.getD_eq_getElem?_getD,List.getElem?_eq_getElem (by simp at hl;omega)]at h3;simpa using h3
 ·have hl:¬rv.toArray.size=1:=λhl=>by
   have YY:(pD sh X).length=1:=by rw[h1];simpa using hl
   exact hY (List.length_eq_one_iff.1 YY)
  rw[dif_neg hl,zkX λv hv=>hY ⟨v,hv⟩];refine .tup _ _ (by simp[h1]) λi hi=>?_;have:=h2 i hi;rw[Array.getD_eq_getD_getElem?];rw[List.getD_eq_getElem?_getD]at this;simpa using this
omit [fA]in
def zba{α β:Type}{P:Program}{w:World}(f:α→Sem β):∀(l:List α) (r:List β),l.length=r.length→(∀i (hi:i<l.length) (hr:i<r.length),(f l[i]).run P w= .ok r[i] w)→(l.mapM f).run P w= .ok r w
 | [],[],_,_=>by simp
 | [],_ :: _,h,_=>by simp at h
 | _ :: _,[],h,_=>by simp at h
 | x :: l,y :: r,h,hf=>by
  have h0:=hf 0 (by simp) (by simp);simp only[List.getElem_cons_zero]at h0;have h1:=zba f l r (by simpa using h) (λi hi hr=>hf (i+1) (by simp;omega) (by simp;omega));simp[List.mapM_cons,h0,h1,Result.andThen]
def hI(tmps:Array Value):ResultVar→Sem Value
 | .tmp t=>pure (tmps.getD t undef)
 | .cell x t=>do loadVar t (←asAddr (tmps.getD x undef))
def xU(hr:NA C w0 outer own ρ st a w):∀(rs:List ResultVar) (sh:List (Bool×Nat)) (vs:List V),BF C.P st rs sh=some vs→
  ∃rv cells,OG sh rv cells∧rs.length=rv.length∧cells.length=vs.length∧(∀j (hj:j<vs.length),VR w ρ (jA outer ρ st.h) (cells.getD j undef) vs[j])∧
   ∀i (hi:i<rs.length) (h2:i<rv.length),(hI a.tmps rs[i]).run C.P w= .ok rv[i] w
 | [],[],vs,h=>by
  simp only[BF,Option.some.injEq]at h;subst h;exact⟨[],[], .nil,rfl,rfl,λj hj=>by simp at hj,λi hi=>by simp at hi⟩
 | [],_ :: _,vs,h=>by simp[BF]at h
 | .tmp t :: _,[],vs,h=>by simp[BF]at h
 | .cell .. :: _,[],vs,h=>by simp[BF]at h
 | .tmp t :: rs,(ag,n) :: sh,vs,h=>by
  simp only[BF]at h;have hv:=hr.slots t;split at h
  ·rename_i cs us hs R4;cases hb:(ag&&Nat.beq n cs.length)
   case false=>simp[hb]at h
   simp only[hb,cond_true,Option.some.injEq]at h;subst h;simp only[Bool.and_eq_true]at hb;obtain⟨rfl,hn⟩:=hb;have hn:=Nat.eq_of_beq_eq_true hn;obtain⟨rv,cells,h1,h2,h3,h4,h5⟩:=xU hr rs sh us R4;rw[hs]at hv;generalize hA:a.tmps.getD t undef=A at hv;cases hv with
   | agg _ vs RV XW=>
   refine⟨.agg vs :: rv,vs.toList++cells, .agg vs (by omega) h1,by simp[h2],by simp[h3,RV],λj hj=>?_,λi hi hi2=>?_⟩
   ·by_cases GW:j<cs.length
    ·rw[List.getElem_append_left GW,JS _ _ _ _ (by simp;omega)];have:=XW j GW;rw[Array.getD_eq_getD_getElem?]at this;rw[List.getD_eq_getElem?_getD];simpa using this
    ·have sW:j - cs.length<us.length:=by simp at hj;omega
     rw[List.getElem_append_right (by omega),NS _ _ _ _ (by simp;omega)];have:=h4 _ sW;simpa[RV]using this
   ·cases i with
    | zero=>simp only[List.getElem_cons_zero,hI,hA];rfl
    | succ i=>exact h5 i (by simpa using hi) (by simpa using hi2)
  ·rename_i us R4 YW;cases hb:(!ag&&Nat.beq n 1&&(st.s t).leaf)
   case false=>simp[hb]at h
   simp only[hb,cond_true,Option.some.injEq]at h;subst h;simp only[Bool.and_eq_true,Bool.not_eq_true']at hb;obtain⟨⟨rfl,hn⟩,hlf⟩:=hb;have hn:=Nat.eq_of_beq_eq_true hn;subst hn;obtain⟨rv,cells,h1,h2,h3,h4,h5⟩:=xU hr rs sh us R4;refine⟨a.tmps.getD t undef :: rv,a.tmps.getD t undef :: cells, .one _ h1,by simp[h2],by simp[h3],λj hj=>?_,λi hi hi2=>?_⟩
   ·cases j with
    | zero=>exact hv
    | succ j=>exact h4 j (by simpa using hj)
   ·cases i with
    | zero=>rfl
    | succ i=>exact h5 i (by simpa using hi) (by simpa using hi2)
  ·cases h
 | .cell x t :: rs,(ag,n) :: sh,vs,h=>by
  simp only[BF]at h;have hv:=hr.slots x;split at h
  case h_2=>cases h
  rename_i b us ag' n' hs R4 eW RV;split at h
  case h_2=>cases h
  rename_i cs m JV;cases hb:((ag==ag')&&Nat.beq n n'&&Nat.beq n cs.length&&(ag||Nat.beq n 1))
  case false=>simp[hb]at h
  simp only[hb,cond_true,Option.some.injEq]at h;subst h;simp only[Bool.and_eq_true,beq_iff_eq]at hb;obtain⟨⟨⟨rfl,h1⟩,h2⟩,h3⟩:=hb;have h1:=Nat.eq_of_beq_eq_true h1;have h2:=Nat.eq_of_beq_eq_true h2;subst h1;obtain⟨rv,cells,k1,k2,k3,k4,k5⟩:=xU hr rs sh us R4;rw[hs]at hv;obtain⟨ri,hρ,QV,_⟩:=hr.heap.rows _ _ JV;obtain⟨e1,e2⟩:=za1 hρ QV hv
  have NV:yE ag n cs 0 some=some (if ag then .agg cs else cs.getD 0 .undef):=by
   unfold yE;cases ag with
   | true=>
    have:Nat.ble (0+n) cs.length=true:=Nat.ble_eq_true_of_le (by omega);simp only[XB,this,if_true,List.drop_zero];rw[List.take_of_length_le (by omega)]
   | false=>
    simp only[Bool.false_or]at h3;have:=Nat.eq_of_beq_eq_true h3
    match cs,h2 with
    | [c],_=>rfl
    | [],h2=>simp at h2;omega
    | _ :: _ :: _,h2=>simp at h2;omega
  obtain⟨d,v,g1,g2,g3⟩:=zfe (K:=some) eW RV e2 NV;have g1:d=if ag then V.agg cs else cs.getD 0 .undef:=Option.some.inj g1
  subst g1
  have IV:(hI a.tmps (.cell x t)).run C.P w= .ok v w:=by
   simp only[hI,e1,asAddr,Sem.run_bind,Sem.run_pure,Result.andThen_ok];exact g3
  cases ag with
  | true=>
   simp only[if_true]at g2;cases g2 with
   | agg _ vs S4 XW=>
   refine⟨.agg vs :: rv,vs.toList++cells, .agg vs (by omega) k1,by simp[k2],by simp[k3,S4],λj hj=>?_,λi hi hi2=>?_⟩
   ·by_cases GW:j<cs.length
    ·rw[List.getElem_append_left GW,JS _ _ _ _ (by simp;omega)];have:=XW j GW;rw[Array.getD_eq_getD_getElem?]at this;rw[List.getD_eq_getElem?_getD];simpa using this
    ·have sW:j - cs.length<us.length:=by simp at hj;omega
     rw[List.getElem_append_right (by omega),NS _ _ _ _ (by simp;omega)];have:=k4 _ sW;simpa[S4]using this
   ·cases i with
    | zero=>exact IV
    | succ i=>exact k5 i (by simpa using hi) (by simpa using hi2)
  | false=>
   simp only[Bool.false_or]at h3;have h3:=Nat.eq_of_beq_eq_true h3;subst h3
   match cs,h2 with
   | [c],_=>
    simp only[Bool.false_eq_true,if_false]at g2;refine⟨v :: rv,v :: cells, .one v k1,by simp[k2],by simp[k3],λj hj=>?_,λi hi hi2=>?_⟩
    ·cases j with
     | zero=>exact g2
     | succ j=>exact k4 j (by simpa using hj)
    ·cases i with
     | zero=>exact IV
     | succ i=>exact k5 i (by simpa using hi) (by simpa using hi2)
   | [],h2=>simp at h2
   | _ :: _ :: _,h2=>simp at h2
def zjP(hr:NA C w0 outer own ρ st a w){fn:Func}{sh:List (Bool×Nat)}{vs:List V}(h:BF C.P st fn.results.toList sh=some vs):
  ∃rv cells,OG sh rv cells∧cells.length=vs.length∧(∀j (hj:j<vs.length),VR w ρ (jA outer ρ st.h) (cells.getD j undef) vs[j])∧
   (results fn a.tmps).run C.P w= .ok (if h:rv.toArray.size=1 then rv.toArray[0]else .tuple rv.toArray) w:=by
 obtain⟨rv,cells,h1,h2,h3,h4,h5⟩:=xU hr _ _ _ h;refine⟨rv,cells,h1,h3,h4,?_⟩;have:=zba (P:=C.P) (w:=w) (hI a.tmps) fn.results.toList rv h2 h5;show((do let vs ←fn.results.mapM (hI a.tmps);pure (if h:vs.size=1 then vs[0]else .tuple vs)):Sem Value).run C.P w=_
 rw[Array.mapM_eq_mapM_toList];simp only[Sem.run_bind,Sem.run_map,this,Result.andThen_ok,Sem.run_pure]
end
end Go.D
namespace Go.D
variable [fA]
inductive Bd:V→Prop where
 | undef:Bd .undef
 | bool (b:Bool):Bd (.bool b)
 | int (k:IntKind) (n:Int) (h:ZC k n):Bd (.int k n)
 | str (s:List UInt8) (h:s.length≤maxLen):Bd (.str s)
 | nil:Bd .nil
 | sl (t:TN) (l:List (El t)) (h:l.length≤maxLen) (hv:∀i (h:i<l.length) j,j<sz t→Bd ((enc t l[i]).getD j .undef)):Bd (.sl t l)
 | ow (r:Nat):Bd (.ow r)
 | ov (r:Nat) (t:TN) (off len:Nat):Bd (.ov r t off len)
 | bp (r off:Nat):Bd (.bp r off)
 | ep (r:Nat) (t:TN) (i off:Nat):Bd (.ep r t i off)
 | fp (cs:List V) (off:Nat) (h:∀j (h:j<cs.length),Bd cs[j]):Bd (.fp cs off)
 | fn (f:Nat) (cs:List V) (h:∀j (h:j<cs.length),Bd cs[j]):Bd (.fn f cs)
 | agg (cs:List V) (h:∀j (h:j<cs.length),Bd cs[j]):Bd (.agg cs)
 | tup (cs:List V) (h:∀j (h:j<cs.length),Bd cs[j]):Bd (.tup cs)
 | nili:Bd .nili
 | ifc (b:Bool):Bd (.ifc b)
section
variable {w:World} {ρ:Nat→Option RI} {bad:Nat→Prop} {v:Value} {d:V}
def VR.bd(h:VR w ρ bad v d):Bd d:=by
 induction h with
 | undef=>exact .undef
 | bool=>exact .bool _
 | int _ _ h=>exact .int _ _ h
 | str _ h=>exact .str _ h
 | nil=>exact .nil
 | slE=>exact .sl _ _ (Nat.zero_le _) (λi h=>by simp at h)
 | slC t l b off cap u hb hl hc he hu hv ih=>exact .sl _ _ (Nat.le_trans hl hc) ih
 | ow=>exact .ow _
 | owN=>exact .ow _
 | ov=>exact .ov _ _ _ _
 | bp=>exact .bp _ _
 | ep=>exact .ep _ _ _ _
 | fp cs off b o u h0 hb hu hv ih=>exact .fp _ _ ih
 | fn f cs caps hs hv ih=>exact .fn _ _ ih
 | agg cs vs hs hv ih=>exact .agg _ ih
 | tup cs vs hs hv ih=>exact .tup _ ih
 | nili=>exact .nili
 | ifc=>exact .ifc _
 | ifn=>exact .ifc _
def uG(t:TN)(x:El t):Prop:=∀j,j<sz t→Bd ((enc t x).getD j .undef)
def bdl(t:TN)(l:List (El t)):Prop:=l.length≤maxLen∧∀x∈l,uG t x
omit [fA]in
def Bd.list{t:TN}{l:List (El t)}(h:Bd (.sl t l)):bdl t l:=by
 cases h with
 | sl _ _ h hv=>
  refine⟨h,λx hx j hj=>?_⟩;obtain⟨i,hi,rfl⟩:=List.mem_iff_getElem.1 hx;exact hv i hi j hj
omit [fA]in
def Bd.len{s:List UInt8}(h:Bd (.str s)):s.length≤maxLen:=by cases h;assumption
omit [fA]in
def Bd.fits{k:IntKind}{n:Int}(h:Bd (.int k n)):ZC k n:=by cases h;assumption
omit [fA]in
def zeZ(t:TN)(h:t.isAgg=false)(x:El t):∃c,enc t x=[c]:=by cases t<;>first | exact⟨_,rfl⟩ | simp[TN.isAgg]at h
def zb0:(t:Ty)→t.T→Prop
 | .v t,x=>uG t x
 | .sl t,l=>bdl t l
 | .raw,v=>Bd v
 | .cells t,x=>uG t x
 | .pt t,x=>uG t x
 | .c1 _ t,x=>uG t x
 | .p1 _ t,x=>uG t x
 | .c2 _ _ t,x=>uG t x.1∧uG t x.2
omit [fA]in
def QP{t:TN}{x:El t}(h:Bd (.fp (enc t x) 0)):uG t x:=λj hj=>by
 have sW:j<(enc t x).length:=by rw[fC];exact hj
 rw[List.getD_eq_getElem?_getD,List.getElem?_eq_getElem sW];cases h with
 | fp _ _ h=>exact h j sW
omit [fA]in
def vU{g:Nat}{c:V}{r:List V}(h:Bd (.fn g (c :: r))):Bd c:=by
 cases h with
 | fn _ _ h=>exact h 0 (by simp)
omit [fA]in
def znm{g:Nat}{c d:V}(h:Bd (.fn g [c,d])):Bd d:=by
 cases h with
 | fn _ _ h=>exact h 1 (by simp)
omit [fA]in
def zfo{c:V}(h:Bd (.fp [c] 0)):Bd c:=by
 cases h with
 | fp _ _ h=>exact h 0 (by simp)
def rA:(ts:List Ty)→RA ts→Prop
 | [],_=>True
 | [t],x=>zb0 t x
 | t :: d :: r,x=>zb0 t x.1∧rA (d :: r) x.2
omit [fA]in
def ze2{t:Ty}{x:t.T}(h:Bd (WB t x)):zb0 t x:=by
 cases t with
 | v t=>
  intro j hj;simp only[WB,wH]at h;have sW:j<(enc t x).length:=by rw[fC];exact hj
  cases eW:t.isAgg
  ·simp only[eW,cond_false]at h;have RV:sz t=1:=by cases t<;>first | rfl | simp[TN.isAgg]at eW
   obtain⟨c,hc⟩:=zeZ t eW x;simp only[hc]at h⊢;have:j=0:=by omega
   subst this;exact h
  ·simp only[eW,cond_true]at h;rw[List.getD_eq_getElem?_getD,List.getElem?_eq_getElem sW];cases h with
   | agg _ h=>exact h j sW
 | sl t=>exact Bd.list h
 | raw=>exact h
 | cells t=>
  intro j hj;have sW:j<(enc t x).length:=by rw[fC];exact hj
  rw[List.getD_eq_getElem?_getD,List.getElem?_eq_getElem sW];cases h with
  | agg _ h=>exact h j sW
 | pt t=>exact QP h
 | c1 g t=>exact QP (vU h)
 | p1 g t=>exact QP (vU (zfo h))
 | c2 g h' t=>exact⟨QP (vU (zfo (vU h))),QP (znm h)⟩
omit [fA]in
def zaW:∀(ts:List Ty) (x:RA ts),(∀v∈SA ts x,Bd v)→rA ts x
 | [],x,h=>trivial
 | [t],x,h=>ze2 (h _ (by simp[SA]))
 | t :: d :: r,x,h=>⟨ze2 (h _ (by simp[SA])),zaW (d :: r) x.2 λv hv=>h v (by simp[SA,hv])⟩
omit [fA]in
def zkt{t:Ty}{ats:List Ty}(x:RA (t :: ats)):∃(x0:t.T) (y:RA ats),SA (t :: ats) x=WB t x0 :: SA ats y:=by
 cases ats with
 | nil=>exact⟨x,(),rfl⟩
 | cons d r=>exact⟨x.1,x.2,rfl⟩
def zfn{outer own:Nat→Prop}{w0:World}{h:Nat→Option kA}(hh:VA w0 outer own ρ h w){r:Nat}{t:TN}{l:List (El t)}{m:wF}(hr:h r=some ⟨.arr t l,m⟩):Bd (.sl t l):=by
 obtain⟨ri,_,⟨hn,ho⟩,_⟩:=hh.rows r _ hr
 rcases ho with⟨_,rfl⟩ | ⟨_,_,h1,h2,_,h3⟩
 ·exact .sl _ _ (Nat.zero_le _) λi h=>by simp at h
 ·refine .sl _ _ (by omega) λi hi j hj=>?_;obtain⟨u,_,h4⟩:=h3 i hi j hj;exact h4.bd
omit [fA]in
def zbp(ow:List Nat)(B:Nat):∀(es:List V) (p:Nat),(∀j (hj:j<(HA ow B p es).length),Bd (HA ow B p es)[j])→(∀q t l,PA ow B (λ_=>none) p es q=some ⟨.arr t l, .own⟩→Bd (.sl t l))→∀j (hj:j<es.length),Bd es[j]
 | [],p,hv,hr,j,hj=>by simp at hj
 | e :: es,p,hv,hr,j,hj=>by
  have hd:∃e',HA ow B p (e :: es)=e' :: HA ow B (p+1) es:=by cases e<;>exact⟨_,rfl⟩
  obtain⟨e',VW⟩:=hd
  have G0:∀j (hj:j<(e' :: HA ow B (p+1) es).length),Bd (e' :: HA ow B (p+1) es)[j]:=λj hj=>by
   have:=hv j (by rw[VW];exact hj);simpa only[VW]using this
  cases j with
  | succ j=>
   refine zbp ow B es (p+1) (λj hj=>by have:=G0 (j+1) (by simp;omega);simpa using this) (λq t l hq=>?_) j (by simpa using hj);obtain⟨_,_,_,h1,_⟩:=gD _ _ _ _ _ _ hq;refine hr q t l ?_;have:=dS ow B e es p (q - B) (by omega);rw[show B+(q - B)=q by omega]at this;rw[this];exact hq
  | zero=>
   have h0:=G0 0 (by simp);simp only[List.getElem_cons_zero]at h0⊢;have h1:=congrArg List.head? VW;cases e<;>simp only[HA,List.head?_cons,Option.some.injEq]at h1<;>try (subst h1;exact h0)
   rename_i t l;cases hb:ow.any (Nat.beq p)
   ·simp only[hb,cond_false]at h1;subst h1;exact h0
   ·exact hr (B+p) t l (by simp only[PA,hb,cond_true,EA])
def zfv{outer own:Nat→Prop}{w0:World}{h:Nat→Option kA}(hh:VA w0 outer own ρ h w):∀(ks:List WA) (ats:List Ty) (x:RA ats) (k:Nat) (u:Nat→Value),GB ks ats=true→
  (∀q row,yA ks k (SA ats x) q=some row→h q=some row)→
  (∀j (hj:j<(fB ks k (SA ats x)).length),VR w ρ (jA outer ρ h) (u j) (fB ks k (SA ats x))[j])→∀v∈SA ats x,Bd v:=by
 intro ks;induction ks with
 | nil=>
  intro ats x k u hk hE hS v hv;cases ats with
  | nil=>simp[SA]at hv
  | cons=>simp[GB]at hk
 | cons g ks ih=>
  intro ats x k u hk hE hS v hv;cases ats with
  | nil=>cases g<;>simp[GB]at hk
  | cons t ats=>
   obtain⟨x0,y,he⟩:=zkt x;rw[he]at hE hS hv;cases g with
   | plain=>
    simp only[GB]at hk
    rcases List.mem_cons.1 hv with rfl | hv
    ·exact(hS 0 (by simp[fB])).bd
    ·exact ih ats y (k+1) (λj=>u (j+1)) hk (λq row hq=>hE q row (by simpa only[yA]using hq)) (λj hj=>hS (j+1) (by simp[fB];omega)) v hv
   | mv ow=>
    cases t with
    | v t=>
     simp only[GB,Bool.and_eq_true]at hk;obtain⟨⟨eW,RV⟩,hk⟩:=hk;have RV:=Nat.le_of_ble_eq_true RV;have Q4:WB (.v t) x0= .agg (enc t x0):=by simp only[WB,wH,eW,cond_true]
     rw[Q4]at hE hS hv;have cW:(enc t x0).length=sz t:=fC t x0
     rcases List.mem_cons.1 hv with rfl | hv
     ·have h0:=hS 0 (by simp[fB]);simp only[fB,List.getElem_cons_zero]at h0;generalize u 0=u0 at h0;cases h0 with
      | agg _ vsA hs XW=>
      refine .agg _ (zbp ow (128 *k) _ 0 (λj hj=>(XW j hj).bd) λq t' l hq=>?_);obtain⟨_,_,_,e1,e2⟩:=gD _ _ _ _ _ _ hq;refine zfn hh (hE q ⟨.arr t' l, .own⟩ ?_);simp only[yA];rw[AB,hq]
     ·refine ih ats y (k+1) (λj=>u (j+1)) hk (λq row hq=>hE q row ?_) (λj hj=>hS (j+1) (by simp[fB];omega)) v hv;have AX:=NE ks (k+1) _ q row hq;simp only[yA];rw[AB,EC _ _ _ _ _ (by omega)];exact hq
    | _=>simp[GB]at hk
   | ptr ow=>
    cases t with
    | cells t=>
     simp only[GB,Bool.and_eq_true]at hk;obtain⟨RV,hk⟩:=hk;have RV:=Nat.le_of_ble_eq_true RV;simp only[WB]at hE hS hv;have cW:(enc t x0).length=sz t:=fC t x0;have JV:=hE (128 *k+127) _ (by simp only[yA];exact EA _ _ _)
     rcases List.mem_cons.1 hv with rfl | hv
     ·obtain⟨ri,_,QV,_⟩:=hh.rows _ _ JV;refine .agg _ (zbp ow (128 *k) _ 0 (λj hj=>?_) λq t' l hq=>?_)
      ·obtain⟨_,x,_,h2⟩:=QV.2 j hj;exact h2.bd
      ·obtain⟨_,_,_,e1,e2⟩:=gD _ _ _ _ _ _ hq;refine zfn hh (hE q ⟨.arr t' l, .own⟩ ?_);simp only[yA];rw[tA _ _ _ _ (by omega),AB,hq]
     ·refine ih ats y (k+1) (λj=>u (j+1)) hk (λq row hq=>hE q row ?_) (λj hj=>hS (j+1) (by simp[fB];omega)) v hv;have AX:=NE ks (k+1) _ q row hq;simp only[yA];rw[tA _ _ _ _ (by omega),AB,EC _ _ _ _ _ (by omega)];exact hq
    | _=>simp[GB]at hk
end
end Go.D
namespace Go.D
variable [fA]
section
variable {C:Cx} {w0:World} {outer own D:Nat→Prop} {R:Type} {st st1 st2:St} {ρ ρ1 ρ2:Nat→Option RI} {a a1 a2:Act} {w w1 w2:World} {j:JI}
omit [fA]in
def zkq{t:Ty}{ats:List Ty}{as:List V}{x:RA (t :: ats)}(hd:kC (t :: ats) as=some x):
  ∃v vs y,as=v :: vs∧∃(x0:t.T),QC t v=some x0∧kC ats vs=some y∧SA (t :: ats) x=WB t x0 :: SA ats y:=by
 cases ats with
 | nil=>
  cases as with
  | nil=>simp[kC]at hd
  | cons v vs=>
   cases vs with
   | nil=>exact⟨v,[],(),rfl,x,by simpa[kC]using hd,rfl,rfl⟩
   | cons=>simp[kC]at hd
 | cons d r=>
  cases as with
  | nil=>simp[kC]at hd
  | cons v vs=>
   simp only[kC]at hd;obtain⟨x0,h1,h2⟩:=Option.bind_eq_some_iff.1 hd;obtain⟨y,h3,h4⟩:=Option.bind_eq_some_iff.1 h2;cases h4;exact⟨v,vs,y,rfl,x0,h1,h3,rfl⟩
omit [fA]in
def ziG:∀(ks:List WA) (ats:List Ty) (as:List V) (x:RA ats) (k:Nat),GB ks ats=true→kC ats as=some x→
  (∀bs vs h,lB ks (SA ats x) bs vs h=lB ks as bs vs h)∧∀bs q b,ZA ks k bs q=some b→∃row,yA ks k as q=some row:=by
 intro ks;induction ks with
 | nil=>
  intro ats as x k hk hd;cases ats with
  | nil=>cases as with
   | nil=>exact⟨λ_ _ _=>rfl,λbs q b h=>by simp[ZA]at h⟩
   | cons=>simp[kC]at hd
  | cons=>simp[GB]at hk
 | cons g ks ih=>
  intro ats as x k hk hd;cases ats with
  | nil=>cases g<;>simp[GB]at hk
  | cons t ats=>
   obtain⟨v,vs,y,rfl,x0,h1,h3,h4⟩:=zkq hd;rw[h4];cases g with
   | plain=>
    simp only[GB]at hk;obtain⟨e1,e2⟩:=ih ats vs y (k+1) hk h3;exact⟨λbs ws h=>e1 bs ws h,λbs q b h=>by simp only[ZA]at h;exact e2 bs q b h⟩
   | mv ow=>
    cases t with
    | v t=>
     simp only[GB,Bool.and_eq_true]at hk;obtain⟨⟨eW,RV⟩,hk⟩:=hk;have RV:=Nat.le_of_ble_eq_true RV;obtain⟨e1,e2⟩:=ih ats vs y (k+1) hk h3;simp only[QC]at h1;split at h1
     case h_2=>simp[eW]at h1
     rename_i cs;simp only[eW,cond_true]at h1;have cW:(enc t x0).length=sz t:=fC t x0;have K0:cs.length=sz t:=by rw[(ZD t h1).len,cW]
     refine⟨λbs ws h=>e1 bs ws h,λbs q b h=>?_⟩;simp only[ZA]at h;have AX:=(WD _ _ _ _ _ h).1;simp only[yA];rw[AB,EC _ _ _ _ _ (by omega)];exact e2 bs q b h
    | _=>simp[GB]at hk
   | ptr ow=>
    cases t with
    | cells t=>
     simp only[GB,Bool.and_eq_true]at hk;obtain⟨RV,hk⟩:=hk;have RV:=Nat.le_of_ble_eq_true RV;obtain⟨e1,e2⟩:=ih ats vs y (k+1) hk h3;simp only[QC]at h1;split at h1
     ·rename_i cs;have hl:=(ZD t h1).len;refine⟨λbs ws h=>?_,λbs q b h=>?_⟩
      ·cases bs with
       | nil=>rfl
       | cons b bs=>simp only[WB,lB, ←hl,e1]
      ·cases bs with
       | nil=>simp[ZA]at h
       | cons c bs=>
        simp only[ZA]at h;simp only[yA]
        by_cases hq:q=128 *k+127
        ·subst hq;exact⟨_,EA _ _ _⟩
        ·rw[if_neg hq]at h;have AX:=(WD _ _ _ _ _ h).1;have cW:(enc t x0).length=sz t:=fC t x0;rw[tA _ _ _ _ hq,AB,EC _ _ _ _ _ (by omega)];exact e2 bs q b h
     ·cases h1
    | _=>simp[GB]at hk
def zk8(hh:VA w0 outer own ρ st.h w):∀(ks:List WA) (as:List V) (k:Nat) (us:List V),xE st ks as k=some us→
  ∃uc:Nat→Value,(∀j (hj:j<us.length),VR w ρ (jA outer ρ st.h) (uc j) us[j])∧
   ∀(bs:List Nat) (vs:List V) (h0:Nat→Option kA) (r:Nat) (row:kA),lB ks as bs vs h0 r=some row→h0 r=some row∨
    ∃q off n cs ri,ZA ks k bs q=some r∧row=⟨.box ((vs.drop off).take n), .own⟩∧off+n≤us.length∧st.h q=some ⟨.box cs, .own⟩∧ρ q=some ri∧ri.nl=false∧
     ∀i,i<n→w.frozen? (wA ri.b i)=false∧w.cell? (wA ri.b i)=some (uc (off+i)):=by
 intro ks;induction ks with
 | nil=>
  intro as k us h;cases as with
  | nil=>
   simp only[xE,Option.some.injEq]at h;subst h;exact⟨λ_=>undef,λj hj=>by simp at hj,λbs vs h0 r row hr=> .inl (by simpa[lB]using hr)⟩
  | cons=>simp[xE]at h
 | cons g ks ih=>
  intro as k us h;cases g with
  | plain=>
   cases as with
   | nil=>simp[xE]at h
   | cons v as=>
    simp only[xE]at h;obtain⟨uc,h1,h2⟩:=ih as (k+1) us h;exact⟨uc,h1,λbs vs h0 r row hr=>by simp only[lB]at hr;simp only[ZA];exact h2 bs vs h0 r row hr⟩
  | mv ow=>
   cases as with
   | nil=>simp[xE]at h
   | cons v as=>
    simp only[xE]at h;obtain⟨uc,h1,h2⟩:=ih as (k+1) us h;exact⟨uc,h1,λbs vs h0 r row hr=>by simp only[lB]at hr;simp only[ZA];exact h2 bs vs h0 r row hr⟩
  | ptr ow=>
   cases as with
   | nil=>simp[xE]at h
   | cons v as=>
    cases v with
    | agg cs0=>
     simp only[xE]at h;split at h
     case h_2=>cases h
     rename_i cs us' JV T4;cases hb:Nat.beq cs.length cs0.length
     case false=>simp[hb]at h
     simp only[hb,cond_true,Option.some.injEq]at h;subst h;have hl:=Nat.eq_of_beq_eq_true hb;obtain⟨uc,h1,h2⟩:=ih as (k+1) us' T4;obtain⟨ri,hρ,QV,_⟩:=hh.rows _ _ JV;refine⟨λj=>if j<cs.length then(w.cell? (wA ri.b j)).getD undef else uc (j - cs.length),λj hj=>?_,λbs vs h0 r row hr=>?_⟩
     ·dsimp only
      by_cases GW:j<cs.length
      ·rw[if_pos GW,List.getElem_append_left GW];obtain⟨_,u,f1,f2⟩:=QV.2 j GW;rw[f1];exact f2
      ·rw[if_neg GW,List.getElem_append_right (by omega)];exact h1 _ _
     ·cases bs with
      | nil=>exact .inl (by simpa[lB]using hr)
      | cons b bs=>
       simp only[lB]at hr
       by_cases hrb:r=b
       ·subst hrb;rw[EA]at hr;cases hr;refine .inr ⟨128 *k+127,0,cs0.length,cs,ri,by simp[ZA],by simp,by simp;omega,JV,hρ,QV.1,λi hi=>?_⟩;obtain⟨f0,u,f1,f2⟩:=QV.2 i (by omega);refine⟨f0,?_⟩;dsimp only;rw[if_pos (by omega)];simp[f1]
       ·rw[tA _ _ _ _ hrb]at hr
        rcases h2 bs _ h0 r row hr with h3 | ⟨q,off,n,cs',ri',e1,e2,e3,e4,e5,e6,e7⟩
        ·exact .inl h3
        ·refine .inr ⟨q,cs0.length+off,n,cs',ri',?_,by rw[e2,List.drop_drop],by simp;omega,e4,e5,e6,λi hi=>?_⟩
         ·have:=(WD _ _ _ _ _ e1).1;simp only[ZA];rw[if_neg (by omega)];exact e1
         ·obtain⟨g1,g2⟩:=e7 i hi;refine⟨g1,?_⟩;dsimp only;rw[g2,if_neg (by omega)];congr 2;omega
    | _=>simp[xE]at h
omit [fA]in
def zjj{h:Nat→Option kA}{v:V}{x:V×List Nat}(hf:ME h v=some x):∀r∈x.2,∃t l m,h r=some ⟨.arr t l,m⟩:=by
 unfold ME at hf;split at hf
 ·rename_i r;split at hf
  ·rename_i t l m hr;cases hm:m.isLock<;>simp[hm]at hf
   subst hf;intro q hq;simp at hq;subst hq;exact⟨_,_,_,hr⟩
  ·cases hf
 ·rename_i r t off len;split at hf
  ·rename_i t' l m hr;cases hm:m.isLock
   ·simp only[hm,cond_false]at hf;split at hf
    ·simp at hf;subst hf;intro q hq;simp at hq;subst hq;exact⟨_,_,_,hr⟩
    ·cases hf
   ·simp[hm]at hf
  ·cases hf
 ·cases hb:CE 8 v<;>simp[hb]at hf
  subst hf;simp
omit [fA]in
def UN(ow:List Nat):∀(cs:List V) (p:Nat) (h:Nat→Option kA) (x:List V×(Nat→Option kA)) (q:Nat) (c:List V),DC ow p cs h=some x→h q=some ⟨.box c, .own⟩→x.2 q=some ⟨.box c, .own⟩
 | [],p,h,x,q,c,ht,hq=>by simp[DC]at ht;subst ht;exact hq
 | v :: cs,p,h,x,q,c,ht,hq=>by
  simp only[DC]at ht;cases hb:ow.any (Nat.beq p)
  ·simp only[hb,cond_false]at ht;split at ht
   case h_2=>cases ht
   rename_i c' ids qY;split at ht
   case h_2=>cases ht
   rename_i hr;cases ht;have hx:=UN ow cs _ _ _ q c hr;refine hx ?_;rw[SD,if_neg]
   ·exact hq
   ·intro hm;obtain⟨t,l,m,h3⟩:=zjj qY q hm;rw[hq]at h3;cases h3
  ·simp only[hb,cond_true]at ht;split at ht
   ·split at ht
    case h_2=>cases ht
    rename_i JV;split at ht
    case h_2=>cases ht
    rename_i hr;cases ht;have hx:=UN ow cs _ _ _ q c hr;refine hx ?_;rw[tA _ _ _ _ (by rintro rfl;rw[JV]at hq;cases hq)];exact hq
   ·split at ht
    case h_2=>cases ht
    rename_i hr;cases ht;have hx:=UN ow cs _ _ _ q c hr;exact hx hq
   ·split at ht
    case h_2=>cases ht
    rename_i JV;split at ht
    case h_2=>cases ht
    rename_i hr;cases ht;have hx:=UN ow cs _ _ _ q c hr;refine hx ?_;rw[tA _ _ _ _ (by rintro rfl;rw[JV]at hq;cases hq)];exact hq
   ·cases ht
open Classical in
theorem zm9{fn:Func}{ks:List WA}{as:List V}{bs ow:List Nat}{base:Nat}{shape:List (Bool×Nat)}{rts:List Ty}{vs us rs:List V}{h2:Nat→Option kA}{r:RA rts}
  (hr:NA C w0 outer own ρ st a w) (hf:∀q,st.nx≤q→ρ q=none) (RW:BF C.P st fn.results.toList shape=some vs) (T4:xE st ks as 0=some us)
  (oW:DC ow 0 (vs++us) st.h=some (rs,h2)) (Z8:IG rts rs=some r) (LV:(XC rts r).length≤128) (D2:bs.Nodup) (A7:∀b∈bs,Out base 128 b):
  ∃v,(results fn a.tmps).run C.P w= .ok v w∧∃ρf,VA w0 outer own ρf (BD ks as bs ow base shape (XC rts r)) w∧
   VR w ρf (jA outer ρf (BD ks as bs ow base shape (XC rts r))) v (rG shape (HA ow base 0 (XC rts r)))∧
   (∀q b,ZA ks 0 bs q=some b→ρf b=ρ q)∧(∀r,ρf r≠none→(base≤r∧r<base+128)∨r∈bs):=by
 obtain⟨rv,cells,k1,k2,k3,k4⟩:=zjP hr RW;obtain⟨uc,u1,u2⟩:=zk8 hr.heap ks as 0 us T4;have fW:=zaw rts rs r Z8;have U4:=IK ow _ _ _ _ oW;simp only at U4;generalize hR0:XC rts r=R0 at *;have hRl:R0.length=vs.length+us.length:=by rw[←fW.len,U4,List.length_append]
 have v8:RH shape=vs.length:=by rw[k1.len.1,k2]
 let M:=st.nx;let u:Nat→Value:=λj=>if j<vs.length then cells.getD j undef else uc (j - vs.length)
 have N8:∀q,st.nx≤q→st.h q=none:=λq hq=>by
  cases hg:st.h q with
  | none=>rfl
  | some row=>obtain⟨ri,h3,_⟩:=hr.heap.rows _ _ hg;rw[hf q hq]at h3;cases h3
 obtain⟨ρ2,g2,T,hTl⟩:=bP ow M 128 (vs++us) 0 st.h h2 rs R0 ρ st.h u oW fW (by rw[List.length_append];omega) hr.heap (λj hj=>by
   simp only[u]
   by_cases GW:j<vs.length
   ·rw[if_pos GW,List.getElem_append_left GW];exact k3 j GW
   ·rw[if_neg GW,List.getElem_append_right (by omega)];exact u1 _ (by simp at hj;omega)) (λ_ _ h=>h) (λq _=>N8 _ (by simp only[M];omega)) (λq _ _=>hf _ (by simp only[M];omega))
 let ρf:Nat→Option RI:=λr=>if base≤r∧r<base+128 then ρ2 (M+(r - base))else if h:∃q,ZA ks 0 bs q=some r then ρ (Classical.choose h)else none
 let φ:Nat→Nat:=λr=>if base≤r∧r<base+128 then M+(r - base)else if h:∃q,ZA ks 0 bs q=some r then Classical.choose h else 0
 have PX:∀q,q<128→ρf (base+q)=ρ2 (M+q)∧φ (base+q)=M+q:=λq hq=>by
  have h1:base≤base+q∧base+q<base+128:=by omega
  simp only[ρf,φ,if_pos h1];have:base+q - base=q:=by omega
  simp[this]
 have UY:∀q b,ZA ks 0 bs q=some b→ρf b=ρ q∧φ b=q:=λq b hq=>by
  have h1:¬(base≤b∧b<base+128):=A7 b (WD _ _ _ _ _ hq).2.2;have h2:∃q,ZA ks 0 bs q=some b:=⟨q,hq⟩;have h3:Classical.choose h2=q:=gP ks 0 bs _ _ b D2 (Classical.choose_spec h2) hq;simp only[ρf,φ,if_neg h1,dif_pos h2,h3];exact⟨trivial,trivial⟩
 -- the rows
 have JV:∀q row,BD ks as bs ow base shape R0 q=some row→
   (∃p t l,p<128∧q=base+p∧row=⟨.arr t l, .own⟩∧g2 (M+p)=some row)∨
   ∃p off n cs ri,ZA ks 0 bs p=some q∧row=⟨.box ((((HA ow base 0 R0).drop (RH shape)).drop off).take n), .own⟩∧off+n≤us.length∧g2 p=some ⟨.box cs, .own⟩∧ρ p=some ri∧ri.nl=false∧p<M∧
    ∀i,i<n→w.frozen? (wA ri.b i)=false∧w.cell? (wA ri.b i)=some (uc (off+i)):=λq row hq=>by
  rcases u2 bs _ _ q row hq with h1 | ⟨p,off,n,cs,ri,e1,e2,e3,e4,e5,e6,e7⟩
  ·obtain⟨t,l,h3,h4,h5⟩:=gD _ _ _ _ _ _ h1;refine .inl ⟨q - base,t,l,by omega,by omega,h3,?_⟩;rw[T.new (q - base) (by omega) (by omega), ←HO ow base M R0 0 (q - base),show base+(q - base)=q by omega];exact h1
  ·refine .inr ⟨p,off,n,cs,ri,e1,e2,e3,T.lies _ _ (UN ow _ _ _ _ p cs oW e4),e5,e6,?_,e7⟩
   rcases Nat.lt_or_ge p st.nx with h | h
   ·exact h
   ·rw[hf p h]at e5;cases e5
 have ZV:∀b,jA outer ρf (BD ks as bs ow base shape R0) b→jA outer ρ2 g2 b:=by
  rintro b (hb | ⟨q,row,ri,f1,f2,f3,f4,f5⟩)
  ·exact .inl hb
  ·rcases JV q row f1 with⟨p,t,l,h1,rfl,h3,h4⟩ | ⟨p,off,n,cs,ri',e1,e2,e3,e4,e5,e6,e7,e8⟩
   ·rw[(PX p h1).1]at f3;exact .inr ⟨_,row,ri,h4,f2,f3,f4,f5⟩
   ·rw[(UY p q e1).1]at f3;exact .inr ⟨p,_,ri,e4,rfl,T.ext _ _ f3,f4,f5⟩
 have hX:∀j (hj:j<(HA ow base 0 R0).length),VR w ρf (jA outer ρf (BD ks as bs ow base shape R0)) (u j) (HA ow base 0 R0)[j]:=
  LO (w:=w) (ρ:=ρ2) (ρ2:=ρf) (bad:=jA outer ρ2 g2) (bad2:=jA outer ρf (BD ks as bs ow base shape R0)) ow M base R0 0 u (λq _ hq _ _=>(PX q (by omega)).1) (λj hj=>(T.closed j hj).1) ZV T.vals
 refine⟨_,k4,ρf,?_,?_,λq b hq=>(UY q b hq).1,λq hq=>?_⟩
 ·refine T.heap.sub φ T.heap.wx T.heap.old T.heap.outLt (λq row hq=>?_) (λq q' row row' h1 h2 h3=>?_)
  ·rcases JV q row hq with⟨p,t,l,h1,rfl,rfl,h4⟩ | ⟨p,off,n,cs,ri,e1,e2,e3,e4,e5,e6,e7,e8⟩
   ·obtain⟨ri,f1,f2,f3⟩:=T.heap.rows _ _ h4;exact⟨_,ri,by rw[(PX p h1).2];exact h4,by rw[(PX p h1).1];exact f1,by rw[(PX p h1).2];exact f1,kR f2 ZV ρf,λhn=>(f3 hn).1⟩
   ·obtain⟨ri',f1,f2,f3⟩:=T.heap.rows _ _ e4;rw[T.ext _ _ e5]at f1;cases f1;refine⟨_,ri,by rw[(UY p q e1).2];exact e4,by rw[(UY p q e1).1];exact e5,by rw[(UY p q e1).2];exact T.ext _ _ e5,?_,λhn=>⟨(f3 hn).1.1,λ_=>(f3 hn).1.2 rfl⟩⟩;rw[e2];refine⟨e6,λi hi=>?_⟩
    have lW:i<n∧vs.length+off+i<(HA ow base 0 R0).length:=by
     simp only[List.length_take,List.length_drop]at hi;omega
    obtain⟨g3,g4⟩:=e8 i lW.1;refine⟨g3,_,g4,?_⟩;have h5:=hX (vs.length+(off+i)) (by omega);simp only[u]at h5;rw[if_neg (by omega),show vs.length+(off+i) - vs.length=off+i by omega]at h5;simp only[List.getElem_take,List.getElem_drop,v8];exact h5
  ·rcases JV q row h1 with⟨p,t,l,f1,rfl,f3,f4⟩ | ⟨p,off,n,cs,ri,e1,e2,e3,e4,e5,e6,e7,e8⟩<;>
   rcases JV q' row' h2 with⟨p',t',l',f1',rfl,f3',f4'⟩ | ⟨p',off',n',cs',ri',e1',e2',e3',e4',e5',e6',e7',e8'⟩
   ·rw[(PX p f1).2,(PX p' f1').2]at h3;omega
   ·rw[(PX p f1).2,(UY p' q' e1').2]at h3;omega
   ·rw[(UY p q e1).2,(PX p' f1').2]at h3;omega
   ·rw[(UY p q e1).2,(UY p' q' e1').2]at h3;subst h3;rw[e1]at e1';exact Option.some.inj e1'
 ·refine zmn k1 (by rw[UD];omega) λj hj sW=>?_;have h5:=hX j hj;simp only[u]at h5;rw[if_pos (by omega)]at h5;exact h5
 ·by_cases h1:base≤q∧q<base+128
  ·exact .inl h1
  ·by_cases h2:∃p,ZA ks 0 bs p=some q
   ·obtain⟨p,h2⟩:=h2;exact .inr (WD _ _ _ _ _ h2).2.2
   ·simp only[ρf,if_neg h1,dif_neg h2]at hq;exact absurd rfl hq
def zlu (hC : iE C) (hΦ : rE C) {f : Nat} {fn : Func} {body : Code} (hf : C.P.funcs[f]? = some fn) (hb : fn.body = some body) (nW : (fn.name == "runtime.NumGoroutine") = false)
  (hnt:C.nt=fn.ntmps) (an:An) (ks:List WA) (ow:List Nat) (shape:List (Bool×Nat)) (ats rts:List Ty) (F:RA ats→Option (RA rts))
  (EX:GB ks ats=true) (o3:Nat.ble ks.length fn.ntmps=true)
  (B7:∀x r,rA ats x→F x=some r→PP C fn body an ks ow shape rts (SA ats x)=some r):
  cB C.P f ⟨ks,RA ats,RA rts,kC ats,F,XC rts,shape,ow,false⟩ C.g:=by
 intro w args as outer ownw ρ x r base bs RV ZX hh iX qW D2 A7 uY hF C7 b9;simp only at RV ZX hh iX qW uY hF C7;have o3:=Nat.le_of_ble_eq_true o3;refine .inl ⟨?_,calls_of_wp hf hb ?_⟩
 ·have oX : ¬ fn.name = "runtime.NumGoroutine" := by simpa using nW
  simp[callFunc,program,hf,hb,oX,Sem.run]
 obtain⟨pb1,pb2⟩:=ziG ks ats as x 0 EX uY;obtain⟨ρ2,H1,H2,H3,H4,H5⟩:=zey EX uY hh qW;obtain⟨e1,e2⟩:=zeQ (w:=w) (ρ:=ρ) H2 ks ats as x 0 (λj=>args.getD j undef) EX uY (λq t h1 h2=>H5 q _ h1 h2) iX;have P7:∀base rs,BD ks (SA ats x) bs ow base shape rs=BD ks as bs ow base shape rs:=λbase rs=>by simp only[BD,pb1]
 have kY:NA C w outer ownw ρ2 {s:=λi=>match(fB ks 0 (SA ats x)).drop i with | v :: _=>v | []=> .undef,h:=yA ks 0 (SA ats x),nx:=128 *ks.length}
   {tmps:=args++Array.replicate (fn.ntmps - args.size) undef,defers:=[]} w:=by
  refine⟨H1,λi=>?_,by simp;omega,rfl,b9⟩;show VR w ρ2 _ _ (match(fB ks 0 (SA ats x)).drop i with | v :: _=>v | []=> .undef)
  by_cases hi:i<(fB ks 0 (SA ats x)).length
  ·rw[List.drop_eq_getElem_cons hi];have h3:=e2 i hi;have d9:i<args.size:=by omega
   rw[Array.getD_eq_getD_getElem?]at h3⊢;rw[Array.getElem?_append_left d9];exact h3
  ·rw[List.drop_eq_nil_of_le (by omega)];exact .undef _
 refine zeW hC hΦ an body (λ_=>True) (zdZ an body) _ _ w ρ2 _ r _ kY (λq hq=>H4 q hq) (B7 x r (zaW ats x (zfv H1 ks ats x 0 (λj=>args.getD j undef) EX (λ_ _ h=>h) λj hj=>e2 j hj)) hF) λe st' a' w' ρ' hg hk=>?_
 have key:(match BF C.P st' fn.results.toList shape,xE st' ks (SA ats x) 0 with
   | some vs,some us=>match DC ow 0 (vs++us) st'.h with
    | some (rs,_)=>IG rts rs
    | none=>none
   | _,_=>none)=some r→a'.defers=[]∧∃v,(results fn a'.tmps).run C.P w'= .ok v w'∧∃v',Ending.returned v= .returned v'∧∃ρf,VA w outer ownw ρf (BD ks as bs ow base shape (XC rts r)) w'∧
   VR w' ρf (jA outer ρf (BD ks as bs ow base shape (XC rts r))) v' (rG shape (HA ow base 0 (XC rts r)))∧
   (∀q b,ZA ks 0 bs q=some b→ρf b=ρ q)∧(∀r,ρf r≠none→(base≤r∧r<base+128)∨r∈bs):=by
  intro hk;split at hk
  case h_2=>cases hk
  rename_i vs us RW T4;split at hk
  case h_2=>cases hk
  rename_i rs h2 oW;obtain⟨v,h3,ρf,h4,h5,h6,h7⟩:=zm9 (bs:=bs) (base:=base) hg.rel hg.fresh RW T4 oW hk C7 D2 A7;rw[P7]at h4 h5;refine⟨hg.rel.defers,v,h3,v,rfl,ρf,h4,h5,λq b hq=>?_,h7⟩;rw[h6 q b hq];obtain⟨row,JV⟩:=pb2 bs q b hq;obtain⟨ri,h8,_⟩:=hh.rows _ _ JV;rw[hg.ext _ _ (H3 _ _ h8),h8]
 cases e with
 | exit id=>cases hk
 | normal=>exact key hk
 | ret=>exact key hk
noncomputable def KU(C:Cx)(fn:Func)(body:Code)(an:An)(ks:List WA)(ts:List Ty)(as:List V):Option (RA ts):=
 rD C an body {s:=λi=>match(fB ks 0 as).drop i with | v :: _=>v | []=> .undef,h:=yA ks 0 as,nx:=128 *ks.length} λe st=>
  match e with
  | .exit _=>none
  | _=>match fn.results.toList with
   | [.tmp t]=>match st.s t with
    | .bp b 0=>match st.h b with
     | some ⟨.box cs, .own⟩=>bif cs.all (CE 8)then IG ts cs else none
     | _=>none
    | _=>none
   | _=>none
def zmJ{fn:Func}{ks:List WA}{as:List V}{bs:List Nat}{base t b:Nat}{rts:List Ty}{cs:List V}{r:RA rts}
  (hr:NA C w0 outer own ρ st a w) (RW:fn.results.toList=[.tmp t]) (hs:st.s t= .bp b 0) (JV:st.h b=some ⟨.box cs, .own⟩) (YW:cs.all (CE 8)=true) (Z8:IG rts cs=some r):
  ∃v,(results fn a.tmps).run C.P w= .ok v w∧∃ρf,VA w0 outer own ρf (sA (λ_=>none) base (some ⟨.box (XC rts r), .own⟩)) w∧
   VR w ρf (jA outer ρf (sA (λ_=>none) base (some ⟨.box (XC rts r), .own⟩))) v (.bp base 0)∧(∀q,ρf q≠none→q=base):=by
 have hv:=hr.slots t;rw[hs]at hv;obtain⟨ri,hρ,QV,Z0⟩:=hr.heap.rows _ _ JV;have fW:=zaw rts cs r Z8;generalize XC rts r=es at fW;generalize hA:a.tmps.getD t undef=A at hv;cases hv with
 | bp _ _ ri' h1 h2=>
 rw[hρ]at h1;cases h1;let ρf:Nat→Option RI:=λq=>if q=base then some ri else none
 have ZV:∀c,jA outer ρf (sA (λ_=>none) base (some ⟨.box es, .own⟩)) c→jA outer ρ st.h c:=by
  rintro c (hb | ⟨q,row,ri',f1,f2,f3,f4,f5⟩)
  ·exact .inl hb
  ·by_cases hq:q=base
   ·subst hq;simp only[ρf,if_true,Option.some.injEq]at f3;subst f3;exact .inr ⟨b,_,ri,JV,rfl,hρ,f4,f5⟩
   ·rw[tA _ _ _ _ hq]at f1;cases f1
 refine⟨.pointer (some (wA ri.b 0)),?_,ρf,?_, .bp _ _ ri (by simp[ρf]) h2,λq hq=>?_⟩
 ·have:=zba (P:=C.P) (w:=w) (hI a.tmps) fn.results.toList [.pointer (some (wA ri.b 0))] (by rw[RW];rfl) (λi hi hi2=>by
   simp only[RW]at hi⊢;have:i=0:=by simp at hi;omega
   subst this;simp only[List.getElem_cons_zero,hI,hA];rfl)
  show((do let vs ←fn.results.mapM (hI a.tmps);pure (if h:vs.size=1 then vs[0]else .tuple vs)):Sem Value).run C.P w=_
  rw[Array.mapM_eq_mapM_toList];simp only[Sem.run_bind,Sem.run_map,this,Result.andThen_ok,Sem.run_pure];rfl
 ·refine hr.heap.sub (λ_=>b) hr.heap.wx hr.heap.old hr.heap.outLt (λq row hq=>?_) (λq q' row row' g1 g2 _=>?_)
  ·by_cases M0:q=base
   ·subst M0;rw[EA]at hq;cases hq;refine⟨_,ri,JV,by simp[ρf],hρ,⟨h2,λj hj=>?_⟩,λhn=>⟨(Z0 hn).1.1,λ_=>(Z0 hn).1.2 rfl⟩⟩;have sW:j<cs.length:=by rw[fW.len];exact hj
    obtain⟨e1,u,e2,e3⟩:=QV.2 j sW;refine⟨e1,u,e2,VR.sub (fW.get j sW hj) ?_⟩;have hn:=(ES 8 _ (List.all_eq_true.1 YW _ (List.getElem_mem sW))).1;exact(e3.noRef hn ρf).mono (λ_ _ h=>h) (λ_ _ _=>rfl) λc hc=> .inl (ZV c hc)
   ·rw[tA _ _ _ _ M0]at hq;cases hq
  ·have k1:q=base:=by
    rcases Nat.decEq q base with h | h
    ·rw[tA _ _ _ _ h]at g1;cases g1
    ·exact h
   have k2:q'=base:=by
    rcases Nat.decEq q' base with h | h
    ·rw[tA _ _ _ _ h]at g2;cases g2
    ·exact h
   rw[k1,k2]
 ·by_cases h:q=base
  ·exact h
  ·simp only[ρf,if_neg h]at hq;exact absurd rfl hq
omit [fA]in
def zc5:∀(n k:Nat) (bs:List Nat) (q:Nat),ZA (List.replicate n .plain) k bs q=none
 | 0,k,bs,q=>by simp[ZA]
 | n+1,k,bs,q=>by simp only[List.replicate_succ,ZA];exact zc5 n (k+1) bs q
def zl1 (hC : iE C) (hΦ : rE C) {f : Nat} {fn : Func} {body : Code} (hf : C.P.funcs[f]? = some fn) (hb : fn.body = some body) (nW : (fn.name == "runtime.NumGoroutine") = false)
  (hnt:C.nt=fn.ntmps) (an:An) (n:Nat) (shape:List (Bool×Nat)) (ats rts:List Ty) (F:RA ats→Option (RA rts))
  (EX:GB (List.replicate n .plain) ats=true) (o3:Nat.ble n fn.ntmps=true)
  (B7:∀x r,rA ats x→F x=some r→KU C fn body an (List.replicate n WA.plain) rts (SA ats x)=some r):
  cB C.P f ⟨List.replicate n .plain,RA ats,RA rts,kC ats,F,XC rts,shape,[],true⟩ C.g:=by
 generalize V4:List.replicate n WA.plain=ks at EX B7⊢;have hkn:ks.length=n:=by rw[←V4];simp
 intro w args as outer ownw ρ x r base bs RV ZX hh iX qW D2 A7 uY hF C7 b9;simp only at RV ZX hh iX qW uY hF C7;have o3:=Nat.le_of_ble_eq_true o3;refine .inl ⟨?_,calls_of_wp hf hb ?_⟩
 ·have oX : ¬ fn.name = "runtime.NumGoroutine" := by simpa using nW
  simp[callFunc,program,hf,hb,oX,Sem.run]
 obtain⟨ρ2,H1,H2,H3,H4,H5⟩:=zey EX uY hh qW;obtain⟨e1,e2⟩:=zeQ (w:=w) (ρ:=ρ) H2 ks ats as x 0 (λj=>args.getD j undef) EX uY (λq t h1 h2=>H5 q _ h1 h2) iX
 have kY:NA C w outer ownw ρ2 {s:=λi=>match(fB ks 0 (SA ats x)).drop i with | v :: _=>v | []=> .undef,h:=yA ks 0 (SA ats x),nx:=128 *ks.length}
   {tmps:=args++Array.replicate (fn.ntmps - args.size) undef,defers:=[]} w:=by
  refine⟨H1,λi=>?_,by simp;omega,rfl,b9⟩;show VR w ρ2 _ _ (match(fB ks 0 (SA ats x)).drop i with | v :: _=>v | []=> .undef)
  by_cases hi:i<(fB ks 0 (SA ats x)).length
  ·rw[List.drop_eq_getElem_cons hi];have h3:=e2 i hi;have d9:i<args.size:=by omega
   rw[Array.getD_eq_getD_getElem?]at h3⊢;rw[Array.getElem?_append_left d9];exact h3
  ·rw[List.drop_eq_nil_of_le (by omega)];exact .undef _
 refine zeW hC hΦ an body (λ_=>True) (zdZ an body) _ _ w ρ2 _ r _ kY (λq hq=>H4 q hq) (B7 x r (zaW ats x (zfv H1 ks ats x 0 (λj=>args.getD j undef) EX (λ_ _ h=>h) λj hj=>e2 j hj)) hF) λe st' a' w' ρ' hg hk=>?_
 have key:(match fn.results.toList with
   | [.tmp t]=>match st'.s t with
    | .bp b 0=>match st'.h b with
     | some ⟨.box cs, .own⟩=>bif cs.all (CE 8)then IG rts cs else none
     | _=>none
    | _=>none
   | _=>none)=some r→a'.defers=[]∧∃v,(results fn a'.tmps).run C.P w'= .ok v w'∧∃v',Ending.returned v= .returned v'∧∃ρf,VA w outer ownw ρf (sA (λ_=>none) base (some ⟨.box (XC rts r), .own⟩)) w'∧
   VR w' ρf (jA outer ρf (sA (λ_=>none) base (some ⟨.box (XC rts r), .own⟩))) v' (.bp base 0)∧
   (∀q b,ZA ks 0 bs q=some b→ρf b=ρ q)∧(∀r,ρf r≠none→(base≤r∧r<base+128)∨r∈bs):=by
  intro hk;split at hk
  case h_2=>cases hk
  rename_i t RW;split at hk
  case h_2=>cases hk
  rename_i b hs;split at hk
  case h_2=>cases hk
  rename_i cs JV;cases YW:cs.all (CE 8)
  case false=>simp[YW]at hk
  simp only[YW,cond_true]at hk;obtain⟨v,h3,ρf,h4,h5,h6⟩:=zmJ (ks:=ks) (as:=as) (bs:=bs) (base:=base) hg.rel RW hs JV YW hk;refine⟨hg.rel.defers,v,h3,v,rfl,ρf,h4,h5,λq b hq=>?_,λq hq=>?_⟩
  ·rw[←V4,zc5]at hq;cases hq
  ·rw[h6 q hq];exact .inl ⟨Nat.le_refl _,by omega⟩
 cases e with
 | exit id=>cases hk
 | normal=>exact key hk
 | ret=>exact key hk
end
end Go.D
namespace Go.D
inductive LK where
 | i | by | b | s
 | l (t:TN)
 deriving DecidableEq
def lk:TN→List LK
 | .byte=>[.by] | .int=>[.i] | .bool=>[.b] | .str=>[.s] | .bs=>[.l .byte]
 | .Addr=>[.i, .i]
 | .Op=>[.i, .i, .i, .l .byte]
 | .Event=>[.i, .i, .i, .i, .l .byte, .l .Op]
 | .Jar=>[.l .byte]
 | .Dice=>[.l .byte, .i]
 | .Win=>[.i, .l .int]
 | .Ep=>[.i, .l .byte, .i, .i, .l .int]
 | .Chan=>[.i, .l .byte, .i, .l .byte, .i, .i, .l .int, .i, .l .byte, .i, .i, .l .int, .b, .i, .l .byte]
 | .Cand=>[.i, .i, .l .byte, .i]
 | .Paths=>[.i, .i, .l .Cand]
 | .Sess=>[.i, .l .byte, .l .byte, .i, .l .byte, .i, .l .byte, .i, .i, .l .int, .i, .l .byte, .i, .i, .l .int, .b, .i, .l .byte, .i, .i, .l .Cand, .i, .i, .b]
 | .Tab=>[.i, .l .Sess]
 | .Credit=>[.i, .i, .i, .i]
 | .Server=>[.l .bs, .l .byte, .l .byte, .i, .i, .l .Sess, .l .Credit]
 | .Frame=>[.i, .i, .l .byte, .l .byte, .i, .l .byte, .l .byte, .i, .i, .l .byte, .l .byte]
 | .Timer=>[.b, .i, .i, .i]
 | .Client=>[.i, .l .byte, .i, .i, .i, .l .byte, .i, .i, .l .byte, .l .byte, .i, .l .byte, .l .byte, .i, .i, .l .byte, .l .byte, .i, .l .byte, .i, .l .byte, .i, .i, .l .int, .i, .l .byte, .i, .i, .l .int, .b, .i, .l .byte, .b, .i, .i, .i, .b, .i, .i, .i, .i]
 | .Wire=>[.i, .i, .i, .i, .l .byte]
 | .Note=>[.i, .i, .i, .l .byte, .l .byte, .i, .i, .l .byte, .l .byte, .i, .i, .i]
 | .World=>[.i, .l .Client, .l .bs, .l .byte, .l .byte, .i, .i, .l .Sess, .l .Credit, .l .byte, .i, .l .Wire, .l .bs, .l .Note]
 | .Cur=>[.l .byte, .i, .i]
 | .Out=>[.i, .i, .i, .i, .l .byte, .l .byte, .i, .l .byte, .l .byte, .i, .i, .l .byte, .l .byte]
 | .Form=>[.i, .s]
 | .Hash=>[.l .int, .l .byte, .i]
def Mat:LK→V→Prop
 | .i,v=>∃n,zA v=some n
 | .by,v=>∃n,EN v=some n
 | .b,v=>∃n,VF v=some n
 | .s,v=>∃n,BK v=some n
 | .l t,v=>∃n,JA t v=some n
inductive qB:List LK→List V→Prop
 | nil:qB [] []
 | cons {k:LK} {v:V} {ks:List LK} {vs:List V} (h:Mat k v) (r:qB ks vs):qB (k :: ks) (v :: vs)
def qB.app{a b:List LK}{x y:List V}(h:qB a x)(k:qB b y):qB (a++b) (x++y):=by
 induction h with
 | nil=>exact k
 | cons h _ ih=>exact .cons h ih
def qB.len{a:List LK}{x:List V}(h:qB a x):a.length=x.length:=by
 induction h with
 | nil=>rfl
 | cons h _ ih=>simp[ih]
def qB.take{k:LK}{ks:List LK}{x:List V}(h:qB (k :: ks) x):∃v r,x=v :: r∧Mat k v∧qB ks r:=by
 cases h with | cons h r=>exact⟨_,_,rfl,h,r⟩
def EP{α β:Type}{p:V→Option α}{v:V}{a:α}(h:p v=some a)(cs:List V)(k:α→List V→Option β):tk p (v :: cs) k=k a cs:=by simp[tk,h]
def yC{β:Type}(r:β){x:List V}(h:qB [] x):∃y,oB x r=some y:=by cases h;exact⟨r,rfl⟩
def CA{β:Type}{ks:List LK}{K:Int→List V→Option β}{x:List V}(h:qB (.i :: ks) x)(hk:∀a r,qB ks r→∃y,K a r=some y):∃y,tk zA x K=some y:=by
 cases h with | cons h r=>obtain⟨a,h⟩:=h;rw[EP h];exact hk _ _ r
def hJ{β:Type}{ks:List LK}{K:Bool→List V→Option β}{x:List V}(h:qB (.b :: ks) x)(hk:∀a r,qB ks r→∃y,K a r=some y):∃y,tk VF x K=some y:=by
 cases h with | cons h r=>obtain⟨a,h⟩:=h;rw[EP h];exact hk _ _ r
def zfK{β:Type}{ks:List LK}{K:List UInt8→List V→Option β}{x:List V}(h:qB (.s :: ks) x)(hk:∀a r,qB ks r→∃y,K a r=some y):∃y,tk BK x K=some y:=by
 cases h with | cons h r=>obtain⟨a,h⟩:=h;rw[EP h];exact hk _ _ r
def QA{β:Type}{t:TN}{ks:List LK}{K:List (El t)→List V→Option β}{x:List V}(h:qB (.l t :: ks) x)(hk:∀a r,qB ks r→∃y,K a r=some y):∃y,tk (JA t) x K=some y:=by
 cases h with | cons h r=>obtain⟨a,h⟩:=h;rw[EP h];exact hk _ _ r
def zlG{x:List V}(h:qB (lk .Addr) x):∃y,cU x=some y:=CA h λ_ _ h=>CA h λ_ _ h=>yC _ h
def zni{x:List V}(h:qB (lk .Op) x):∃y,QU x=some y:=CA h λ_ _ h=>CA h λ_ _ h=>CA h λ_ _ h=>QA h λ_ _ h=>yC _ h
def zkA{x:List V}(h:qB (lk .Event) x):∃y,IT x=some y:=CA h λ_ _ h=>CA h λ_ _ h=>CA h λ_ _ h=>CA h λ_ _ h=>QA h λ_ _ h=>QA h λ_ _ h=>yC _ h
def zmz{x:List V}(h:qB (lk .Jar) x):∃y,EU x=some y:=QA h λ_ _ h=>yC _ h
def zl0{x:List V}(h:qB (lk .Dice) x):∃y,hU x=some y:=QA h λ_ _ h=>CA h λ_ _ h=>yC _ h
def zmm{x:List V}(h:qB (lk .Win) x):∃y,uU x=some y:=CA h λ_ _ h=>QA h λ_ _ h=>yC _ h
def znd{x:List V}(h:qB (lk .Ep) x):∃y,OU x=some y:=CA h λ_ _ h=>QA h λ_ _ h=>CA h λ_ _ h=>CA h λ_ _ h=>QA h λ_ _ h=>yC _ h
def zlN{x:List V}(h:qB (lk .Chan) x):∃y,lU x=some y:=CA h λ_ _ h=>QA h λ_ _ h=>CA h λ_ _ h=>QA h λ_ _ h=>CA h λ_ _ h=>CA h λ_ _ h=>QA h λ_ _ h=>CA h λ_ _ h=>QA h λ_ _ h=>CA h λ_ _ h=>CA h λ_ _ h=>QA h λ_ _ h=>hJ h λ_ _ h=>CA h λ_ _ h=>QA h λ_ _ h=>yC _ h
def zlf{x:List V}(h:qB (lk .Cand) x):∃y,XT x=some y:=CA h λ_ _ h=>CA h λ_ _ h=>QA h λ_ _ h=>CA h λ_ _ h=>yC _ h
def zkE{x:List V}(h:qB (lk .Paths) x):∃y,iT x=some y:=CA h λ_ _ h=>CA h λ_ _ h=>QA h λ_ _ h=>yC _ h
def zl5{x:List V}(h:qB (lk .Sess) x):∃y,nU x=some y:=CA h λ_ _ h=>QA h λ_ _ h=>QA h λ_ _ h=>CA h λ_ _ h=>QA h λ_ _ h=>CA h λ_ _ h=>QA h λ_ _ h=>CA h λ_ _ h=>CA h λ_ _ h=>QA h λ_ _ h=>CA h λ_ _ h=>QA h λ_ _ h=>CA h λ_ _ h=>CA h λ_ _ h=>QA h λ_ _ h=>hJ h λ_ _ h=>CA h λ_ _ h=>QA h λ_ _ h=>CA h λ_ _ h=>CA h λ_ _ h=>QA h λ_ _ h=>CA h λ_ _ h=>CA h λ_ _ h=>hJ h λ_ _ h=>yC _ h
def zl9{x:List V}(h:qB (lk .Tab) x):∃y,yU x=some y:=CA h λ_ _ h=>QA h λ_ _ h=>yC _ h
def zjX{x:List V}(h:qB (lk .Credit) x):∃y,QS x=some y:=CA h λ_ _ h=>CA h λ_ _ h=>CA h λ_ _ h=>CA h λ_ _ h=>yC _ h
def zjy{x:List V}(h:qB (lk .Server) x):∃y,MS x=some y:=QA h λ_ _ h=>QA h λ_ _ h=>QA h λ_ _ h=>CA h λ_ _ h=>CA h λ_ _ h=>QA h λ_ _ h=>QA h λ_ _ h=>yC _ h
def zko{x:List V}(h:qB (lk .Frame) x):∃y,xT x=some y:=CA h λ_ _ h=>CA h λ_ _ h=>QA h λ_ _ h=>QA h λ_ _ h=>CA h λ_ _ h=>QA h λ_ _ h=>QA h λ_ _ h=>CA h λ_ _ h=>CA h λ_ _ h=>QA h λ_ _ h=>QA h λ_ _ h=>yC _ h
def zkL{x:List V}(h:qB (lk .Timer) x):∃y,BT x=some y:=hJ h λ_ _ h=>CA h λ_ _ h=>CA h λ_ _ h=>CA h λ_ _ h=>yC _ h
def zjL{x:List V}(h:qB (lk .Client) x):∃y,KS x=some y:=CA h λ_ _ h=>QA h λ_ _ h=>CA h λ_ _ h=>CA h λ_ _ h=>CA h λ_ _ h=>QA h λ_ _ h=>CA h λ_ _ h=>CA h λ_ _ h=>QA h λ_ _ h=>QA h λ_ _ h=>CA h λ_ _ h=>QA h λ_ _ h=>QA h λ_ _ h=>CA h λ_ _ h=>CA h λ_ _ h=>QA h λ_ _ h=>QA h λ_ _ h=>CA h λ_ _ h=>QA h λ_ _ h=>CA h λ_ _ h=>QA h λ_ _ h=>CA h λ_ _ h=>CA h λ_ _ h=>QA h λ_ _ h=>CA h λ_ _ h=>QA h λ_ _ h=>CA h λ_ _ h=>CA h λ_ _ h=>QA h λ_ _ h=>hJ h λ_ _ h=>CA h λ_ _ h=>QA h λ_ _ h=>hJ h λ_ _ h=>CA h λ_ _ h=>CA h λ_ _ h=>CA h λ_ _ h=>hJ h λ_ _ h=>CA h λ_ _ h=>CA h λ_ _ h=>CA h λ_ _ h=>CA h λ_ _ h=>yC _ h
def zlF{x:List V}(h:qB (lk .Wire) x):∃y,jU x=some y:=CA h λ_ _ h=>CA h λ_ _ h=>CA h λ_ _ h=>CA h λ_ _ h=>QA h λ_ _ h=>yC _ h
def zlz{x:List V}(h:qB (lk .Note) x):∃y,ST x=some y:=CA h λ_ _ h=>CA h λ_ _ h=>CA h λ_ _ h=>QA h λ_ _ h=>QA h λ_ _ h=>CA h λ_ _ h=>CA h λ_ _ h=>QA h λ_ _ h=>QA h λ_ _ h=>CA h λ_ _ h=>CA h λ_ _ h=>CA h λ_ _ h=>yC _ h
def zj5{x:List V}(h:qB (lk .World) x):∃y,lT x=some y:=CA h λ_ _ h=>QA h λ_ _ h=>QA h λ_ _ h=>QA h λ_ _ h=>QA h λ_ _ h=>CA h λ_ _ h=>CA h λ_ _ h=>QA h λ_ _ h=>QA h λ_ _ h=>QA h λ_ _ h=>CA h λ_ _ h=>QA h λ_ _ h=>QA h λ_ _ h=>QA h λ_ _ h=>yC _ h
def zmR{x:List V}(h:qB (lk .Cur) x):∃y,IU x=some y:=QA h λ_ _ h=>CA h λ_ _ h=>CA h λ_ _ h=>yC _ h
def zmV{x:List V}(h:qB (lk .Out) x):∃y,AU x=some y:=CA h λ_ _ h=>CA h λ_ _ h=>CA h λ_ _ h=>CA h λ_ _ h=>QA h λ_ _ h=>QA h λ_ _ h=>CA h λ_ _ h=>QA h λ_ _ h=>QA h λ_ _ h=>CA h λ_ _ h=>CA h λ_ _ h=>QA h λ_ _ h=>QA h λ_ _ h=>yC _ h
def zl3{x:List V}(h:qB (lk .Form) x):∃y,aU x=some y:=CA h λ_ _ h=>zfK h λ_ _ h=>yC _ h
def zlO{x:List V}(h:qB (lk .Hash) x):∃y,pU x=some y:=QA h λ_ _ h=>QA h λ_ _ h=>CA h λ_ _ h=>yC _ h
def zd2(t:TN)(x:List V)(h:qB (lk t) x):∃y,AD t x=some y:=by
 cases t with
 | byte=>
  cases h with
  | cons h r=>
   obtain⟨a,h⟩:=h;cases r;refine⟨a,?_⟩;simp only[AD];rw[EP h];rfl
 | int=>exact CA h λ_ _ h=>yC _ h
 | bool=>exact hJ h λ_ _ h=>yC _ h
 | str=>exact zfK h λ_ _ h=>yC _ h
 | bs=>exact QA h λ_ _ h=>yC _ h
 | Addr=>exact zlG h
 | Op=>exact zni h
 | Event=>exact zkA h
 | Jar=>exact zmz h
 | Dice=>exact zl0 h
 | Win=>exact zmm h
 | Ep=>exact znd h
 | Chan=>exact zlN h
 | Cand=>exact zlf h
 | Paths=>exact zkE h
 | Sess=>exact zl5 h
 | Tab=>exact zl9 h
 | Credit=>exact zjX h
 | Server=>exact zjy h
 | Frame=>exact zko h
 | Timer=>exact zkL h
 | Client=>exact zjL h
 | Wire=>exact zlF h
 | Note=>exact zlz h
 | World=>exact zj5 h
 | Cur=>exact zmR h
 | Out=>exact zmV h
 | Form=>exact zl3 h
 | Hash=>exact zlO h
end Go.D
namespace Go.D
variable [fA]
open Go.RowKit Go.ChangeShapes
section
variable {H:Type} {encH:TypeId×Value→H} {P:Program} {W:World}
def NG:Nat→Option RI:=λ_=>none
def WE:Nat→Prop:=λ_=>False
def eG(P:Program)(tn:TypeId→Option TN):Nat→TypeId→Option (List LK)
 | 0,_=>none
 | d+1,t=>match P.underlying t with
  | some (.int .i64)=>some [.i]
  | some (.int .u8)=>some [.by]
  | some .bool=>some [.b]
  | some .string=>some [.s]
  | some (.slice e)=>(tn e).map λt=>[.l t]
  | some (.struct fs)=>(kindsF (eG P tn d) P 0 fs.toList).bind λks=>bif Nat.beq (P.cellsOf t) ks.length then some ks else none
  | _=>none
where
 kindsF (f:TypeId→Option (List LK)) (P:Program):Nat→List Field→Option (List LK)
  | _,[]=>some []
  | k,x :: xs=>bif Nat.beq x.offset k then
    match f x.type with
    | some ks=>bif Nat.beq (P.cellsOf x.type) ks.length then(kindsF f P (k+ks.length) xs).map λr=>ks++r else none
    | none=>none
   else none
structure WI(P:Program)(tn:TypeId→Option TN)(D:Nat):Prop where
 ok:∀e t,tn e=some t→eG P tn D e=some (lk t)∧P.cellsOf e=sz t
def AF(W:World)(cs:List Value)(vs:List V):Prop:=cs.length=vs.length∧∀j (hj:j<vs.length),VR W NG WE (cs.getD j undef) vs[j]
def AF.one{c:Value}{v:V}(h:VR W NG WE c v):AF W [c] [v]:=⟨rfl,λj hj=>by
 have:j=0:=by simp at hj;omega
 subst this;exact h⟩
def AF.app{a b:List Value}{x y:List V}(h:AF W a x)(k:AF W b y):AF W (a++b) (x++y):=by
 refine⟨by simp[h.1,k.1],λj hj=>?_⟩
 by_cases GW:j<x.length
 ·rw[List.getElem_append_left GW,JS _ _ _ _ (by rw[h.1];exact GW)];exact h.2 j GW
 ·rw[List.getElem_append_right (by omega),NS _ _ _ _ (by rw[h.1];omega),h.1];exact k.2 _ (by simp at hj;omega)
omit [fA]in
def zmO{k:IntKind}{n:Int}(h:(Lit.int k n).wf=true):ZC k n:=by
 simp only[Lit.wf,Bool.and_eq_true,decide_eq_true_eq]at h;exact h
omit [fA]in
def zaJ{α β:Type}{f:α→Option β}:∀{l:List α} {r:List β},l.mapM f=some r→r.length=l.length∧∀i (hi:i<l.length) (hr:i<r.length),f l[i]=some r[i]
 | [],r,h=>by simp at h;subst h;exact⟨rfl,λi hi=>by simp at hi⟩
 | x :: l,r,h=>by
  rw[List.mapM_cons]at h;cases hx:f x with
  | none=>rw[hx]at h;simp at h
  | some y=>
   rw[hx]at h;cases hl:l.mapM f with
   | none=>rw[hl]at h;simp at h
   | some ys=>
    rw[hl]at h;simp at h;subst h;obtain⟨h1,h2⟩:=zaJ hl;refine⟨by simp[h1],λi hi hr=>?_⟩;cases i with
    | zero=>exact hx
    | succ i=>exact h2 i (by simpa using hi) (by simpa using hr)
omit [fA]in
def zc7{α:Type}{p:Nat→α→Prop}:∀(n:Nat),(∀i,i<n→∃x,p i x)→∃l:List α,l.length=n∧∀i (hi:i<l.length),p i l[i]
 | 0,_=>⟨[],rfl,λi hi=>by simp at hi⟩
 | n+1,h=>by
  obtain⟨l,h1,h2⟩:=zc7 n (λi hi=>h i (by omega));obtain⟨x,hx⟩:=h n (by omega);refine⟨l++[x],by simp[h1],λi hi=>?_⟩
  grind
omit [fA]in
def zaA{a:Addr}{n:Nat}{cs:List Value}(h:W.cells? 0 a n=some cs):cs.length=n∧∀i (_:i<n),W.cell? (a.add i)=some (cs.getD i undef):=by
 simp only[World.cells?,Nat.zero_le,if_true]at h;obtain⟨h1,h2⟩:=zaJ h
 grind
variable (hB:W.heap.size≤fA.base)in
include hB in
theorem ZT{tn:TypeId→Option TN}{D:Nat}(hK:WI P tn D){sp:Nat→Bool}{zX:Bool}:∀(fuel:Nat) (T:TypeId) (cs:List Value) (x:DataW H×List MemPlace) (d:Nat) (ks:List LK),
  DataW.trod encH P W 0 sp zX fuel T cs=some x→eG P tn d T=some ks→∃vs,AF W cs vs∧qB ks vs
 | 0,T,cs,x,d,ks,h,hk=>by simp[DataW.trod]at h
 | fuel+1,T,cs,x,0,ks,h,hk=>by simp[eG]at hk
 | fuel+1,T,cs,x,d+1,ks,h,hk=>by
  have slice:∀e,P.underlying T=some (.slice e)→(tn e).map (λt=>[LK.l t])=some ks→∃vs,AF W cs vs∧qB ks vs:=λe hu hk=>by
   obtain⟨t,ht,hk⟩:=Option.map_eq_some_iff.1 hk;subst hk;obtain⟨kk,RV⟩:=hK.ok e t ht;cases cs with
   | nil=>simp[DataW.trod,hu]at h
   | cons v r=>
   cases r with
   | cons v2 r2=>cases v<;>simp[DataW.trod,hu]at h
   | nil=>
   have hv:∃ao len cap,v= .slice ao len cap:=by cases v<;>first | exact⟨_,_,_,rfl⟩ | simp[DataW.trod,hu]at h
   obtain⟨ao,len,cap,rfl⟩:=hv;cases ao with
   | none=>
    have hz:len=0∧cap=0:=by
     cases len<;>cases cap<;>simp[DataW.trod,hu]at h
     exact⟨rfl,rfl⟩
    obtain⟨rfl,rfl⟩:=hz;exact⟨[.nil],AF.one .nil, .cons ⟨[],rfl⟩ .nil⟩
   | some a=>
    simp only[DataW.trod,hu]at h;split at h
    case isFalse=>cases h
    rename_i E2;obtain⟨_,LV,WY⟩:=E2;obtain⟨elems,ZX,_⟩:=Option.bind_eq_some_iff.1 h;rw[RV]at ZX;obtain⟨m1,m2⟩:=zaJ ZX;simp at m1
    have one:∀i,i<len→∃y:El t,∃u:List Value,W.cells? 0 (a.add (i *sz t)) (sz t)=some u∧∀j (_:j<sz t),VR W NG WE (u.getD j undef) ((enc t y).getD j .undef):=λi hi=>by
     have h1:=m2 i (by simpa using hi) (by omega);simp only[List.getElem_range]at h1;obtain⟨u,h2,h3⟩:=Option.bind_eq_some_iff.1 h1;obtain⟨vs,h4,h5⟩:=ZT hK fuel e u _ D (lk t) h3 kk;obtain⟨y,h6⟩:=zd2 t vs h5;have h7:=ZD t h6;refine⟨y,u,h2,λj hj=>?_⟩;have sW:j<(enc t y).length:=by rw[fC];exact hj
     have GW:j<vs.length:=by rw[h7.len];exact sW
     rw[List.getD_eq_getElem?_getD (l:=enc t y),List.getElem?_eq_getElem sW];exact VR.sub (h7.get j GW sW) (h4.2 j GW)
    obtain⟨l,D0,YY⟩:=zc7 (p:=λi y=>∃u:List Value,W.cells? 0 (a.add (i *sz t)) (sz t)=some u∧∀j (_:j<sz t),VR W NG WE (u.getD j undef) ((enc t y).getD j .undef)) len one;refine⟨[.sl t l],AF.one ?_, .cons ⟨l,by simp[JA,TN.cast]⟩ .nil⟩;cases l with
    | nil=>
     simp at D0;subst D0;exact .slE t _ cap WY
    | cons y0 l0=>
    -- there is a cell:the address is a plain one
    obtain⟨u0,TY,_⟩:=YY 0 (by simp);have F2:=(zaA TY).2 0 (eK t)
    have U0:a.spot=none:=by
     simp only[World.cell?]at F2;split at F2
     ·simp only[Addr.add,Nat.zero_mul,if_true]at F2;cases hs:a.spot with
      | none=>rfl
      | some _=>rw[hs]at F2;simp at F2
     ·cases F2
    obtain⟨b,off,spot⟩:=a;simp only at U0;subst U0;subst D0
    refine .slC t _ b off cap (λi j=>(W.cell? (wA b (off+i *sz t+j))).getD undef) (λh=>h) LV WY (λ_=> .inl (Nat.lt_of_lt_of_le (rP (show W.cell? (wA b (off+0 *sz t+0))=_ by
     have h:=F2;rw[show(⟨b,off,none⟩:Addr)=wA b off from rfl,BE,BE]at h;exact h)) hB)) (λi hi j hj=>?_) (λi hi j hj=>?_)
    ·obtain⟨u,h1,_⟩:=YY i hi;have:=(zaA h1).2 j hj
     have e:((⟨b,off,none⟩:Addr).add (i *sz t)).add j=wA b (off+i *sz t+j):=by
      show((wA b off).add (i *sz t)).add j=_
      rw[BE,BE]
     rw[e]at this;rw[this];rfl
    ·obtain⟨u,h1,h2⟩:=YY i hi;have:=(zaA h1).2 j hj
     have e:((⟨b,off,none⟩:Addr).add (i *sz t)).add j=wA b (off+i *sz t+j):=by
      show((wA b off).add (i *sz t)).add j=_
      rw[BE,BE]
     rw[e]at this;rw[this];exact h2 j hj
  simp only[eG]at hk;cases hu:P.underlying T with
  | none=>rw[hu]at hk;cases hk
  | some td=>
   rw[hu]at hk;cases td with
   | int k=>
    cases cs with
    | nil=>simp[DataW.trod,hu]at h
    | cons v r=>
    cases r with
    | cons v2 r2=>cases v<;>simp[DataW.trod,hu]at h
    | nil=>
    cases v with
    | int k' n=>
     simp only[DataW.trod,hu]at h;split at h
     case isFalse=>cases h
     rename_i E2;obtain⟨rfl,hw⟩:=E2;have hf:=zmO hw;refine⟨[.int k' n],AF.one (.int _ _ hf),?_⟩;cases k'<;>simp at hk<;>subst hk
     ·exact .cons ⟨n,rfl⟩ .nil
     ·exact .cons ⟨_,rfl⟩ .nil
    | _=>simp[DataW.trod,hu]at h
   | bool=>
    cases cs with
    | nil=>simp[DataW.trod,hu]at h
    | cons v r=>
    cases r with
    | cons v2 r2=>cases v<;>simp[DataW.trod,hu]at h
    | nil=>
    cases v with
    | bool b=>
     simp at hk;subst hk;exact⟨[.bool b],AF.one (.bool _), .cons ⟨b,rfl⟩ .nil⟩
    | _=>simp[DataW.trod,hu]at h
   | string=>
    cases cs with
    | nil=>simp[DataW.trod,hu]at h
    | cons v r=>
    cases r with
    | cons v2 r2=>cases v<;>simp[DataW.trod,hu]at h
    | nil=>
    cases v with
    | string s=>
     simp only[DataW.trod,hu]at h;split at h
     case isFalse=>cases h
     rename_i hs;simp at hk;subst hk;refine⟨[.str s.data.toList],AF.one ?_, .cons ⟨_,rfl⟩ .nil⟩
     have v3:s.data.toList.length≤maxLen:=by
      rw[Array.length_toList];exact hs
     exact VR.str (w:=W) (ρ:=NG) (bad:=WE) s.data.toList v3
    | _=>simp[DataW.trod,hu]at h
   | slice e=>exact slice e hu hk
   | struct fs=>
    unfold DataW.trod at h;rw[hu]at h;simp only at h;split at h
    case isFalse=>cases h
    rename_i LV;obtain⟨xs,B3,_⟩:=Option.map_eq_some_iff.1 h;clear h slice
    -- the fields
    have go:∀(l:List Field) (k:Nat) (ks:List LK) (xs:List (DataW H×List MemPlace)),eG.kindsF (eG P tn d) P k l=some ks→
      l.mapM (λf=>DataW.trod encH P W 0 sp zX fuel f.type ((cs.drop f.offset).take (P.cellsOf f.type)))=some xs→
      ∃vs,qB ks vs∧k+vs.length≤max k cs.length∧AF W ((cs.drop k).take vs.length) vs:=by
     intro l;induction l with
     | nil=>
      intro k ks xs hk _;simp[eG.kindsF]at hk;subst hk;exact⟨[], .nil,by simp;omega,by simp,λj hj=>by simp at hj⟩
     | cons f l ih=>
      intro k ks xs hk hx;simp only[eG.kindsF]at hk;cases hb:Nat.beq f.offset k
      case false=>simp[hb]at hk
      have DX:=Nat.eq_of_beq_eq_true hb;simp only[hb,cond_true]at hk;split at hk
      case h_2=>cases hk
      rename_i k0 hk0;cases SZ:Nat.beq (P.cellsOf f.type) k0.length
      case false=>simp[SZ]at hk
      have TZ:=Nat.eq_of_beq_eq_true SZ;simp only[SZ,cond_true]at hk;obtain⟨r,hr,rfl⟩:=Option.map_eq_some_iff.1 hk;rw[List.mapM_cons]at hx;cases h0:DataW.trod encH P W 0 sp zX fuel f.type ((cs.drop f.offset).take (P.cellsOf f.type))with
      | none=>rw[h0]at hx;simp at hx
      | some y=>
       rw[h0]at hx;cases h1:l.mapM (λf=>DataW.trod encH P W 0 sp zX fuel f.type ((cs.drop f.offset).take (P.cellsOf f.type)))with
       | none=>rw[h1]at hx;simp at hx
       | some ys=>
        obtain⟨v0,g1,g2⟩:=ZT hK fuel f.type _ y d k0 h0 hk0;have PW:v0.length=k0.length:=g2.len.symm;rw[←DX]at hr⊢;obtain⟨vs,e1,e2,e3⟩:=ih (f.offset+k0.length) r ys hr h1;have OZ:=g1.1;rw[TZ]at OZ g1;simp only[List.length_take,List.length_drop]at OZ;refine⟨v0++vs,g2.app e1,by simp;omega,?_⟩
        have es:(cs.drop f.offset).take (v0++vs).length=(cs.drop f.offset).take k0.length++(cs.drop (f.offset+k0.length)).take vs.length:=by
         rw[List.length_append,PW,List.take_add,List.drop_drop]
        rw[es];exact g1.app e3
    obtain⟨ks',A3,KV⟩:=Option.bind_eq_some_iff.1 hk;cases hb:Nat.beq (P.cellsOf T) ks'.length
    case false=>simp[hb]at KV
    have TZ:=Nat.eq_of_beq_eq_true hb;simp only[hb,cond_true,Option.some.injEq]at KV;subst KV;obtain⟨vs,e1,e2,e3⟩:=go fs.toList 0 ks' xs A3 B3;have hvl:vs.length=cs.length:=by rw[←e1.len,LV,TZ]
    refine⟨vs,?_,e1⟩;rw[List.drop_zero,List.take_of_length_le (by omega)]at e3;exact e3
   | _=>simp at hk
def SP(P:Program)(tn:TypeId→Option TN)(D:Nat)(T:TypeId):Ty→Bool
 | .v t=>(match P.underlying T with
   | some (.struct _)=>t.isAgg
   | some (.int _) | some .bool | some .string=>!t.isAgg
   | _=>false)&&decide (eG P tn D T=some (lk t))
 | .sl t=>(match P.underlying T with
   | some (.slice _)=>true
   | _=>false)&&decide (eG P tn D T=some [.l t])
 | _=>false
variable (hB:W.heap.size≤fA.base)in
include hB in
theorem zm7{tn:TypeId→Option TN}{D:Nat}(hK:WI P tn D){sp:Nat→Bool}{zX:Bool}{T:TypeId}{ty:Ty}(BY:SP P tn D T ty=true){v:Value}{d:DataW H}{ps:List MemPlace}
  (h:DataW.Trod encH P W 0 sp zX T v d ps) {r:Reach} {b:Nat} (hw:Value.okWide P W r b T v):∃x:ty.T,VR W NG WE v (WB ty x)∧QC ty (WB ty x)=some x:=by
 obtain⟨fuel,h⟩:=h
 -- a value of one cell
 have XY:(∀fs,P.underlying T≠some (.struct fs))→(∀n e,P.underlying T≠some (.array n e))→v.cells.toList=[v]:=λh1 h2=>by
  unfold Value.okWide at hw;split at hw
  ·rename_i fs hu;exact absurd hu (h1 _)
  ·rename_i hu;exact absurd hu (h2 _ _)
  ·cases v with
   | agg cs=>
    exfalso;unfold Cell.okWide at hw;split at hw<;>simp_all[Cell.ok]
   | _=>rfl
 cases ty with
 | v t=>
  simp only[SP,Bool.and_eq_true,decide_eq_true_eq]at BY;obtain⟨vs,h1,h2⟩:=ZT hB hK fuel T _ _ D _ h BY.2;obtain⟨x,hx⟩:=zd2 t vs h2;have hs:=ZD t hx
  have hd:AD t (enc t x)=some x:=by
   cases t<;>first | rfl | (simp[AD,enc,tk,EN,oB];done)
  refine⟨x,?_⟩;have SV:∀j (hj:j<(enc t x).length),VR W NG WE (v.cells.toList.getD j undef) (enc t x)[j]:=λj hj=>VR.sub (hs.get j (by rw[hs.len];exact hj) hj) (h1.2 j (by rw[hs.len];exact hj));cases eW:t.isAgg
  ·obtain⟨c,hc⟩:=zeZ t eW x
   have hv:v.cells.toList=[v]:=by
    refine XY (λfs hu=>?_) (λn e hu=>?_)
    ·rw[hu]at BY;simp[eW]at BY
    ·rw[hu]at BY;simp at BY
   have he:WB (.v t) x=c:=by simp[WB,wH,eW,hc]
   rw[he];have h0:=SV 0 (by rw[hc];simp);simp only[hv,hc,List.getElem_cons_zero]at h0;refine⟨h0,?_⟩;rw[hc]at hd;cases c<;>first | (simp only[QC,eW,cond_false];exact hd) | skip
   exfalso;have:=zeb t x;rw[hc]at this;simp[V.leaf]at this
  ·have hu:∃fs,P.underlying T=some (.struct fs):=by
    revert BY
    cases P.underlying T with
    | none=>simp
    | some td=>cases td<;>simp[eW]
   obtain⟨fs,hu⟩:=hu;unfold Value.okWide at hw;rw[hu]at hw;obtain⟨cs,rfl,RV,_⟩:=hw;have he:WB (.v t) x= .agg (enc t x):=by simp[WB,wH,eW]
   rw[he];refine⟨.agg _ _ ?_ λj hj=>?_,by simp only[QC,eW,cond_true];exact hd⟩
   ·have:=h1.1;simp only[Value.cells,Array.length_toList]at this;rw[this,hs.len]
   ·have:=SV j hj;simp only[Value.cells]at this;rw[Array.getD_eq_getD_getElem?];rw[List.getD_eq_getElem?_getD]at this;simpa using this
 | sl t=>
  simp only[SP,Bool.and_eq_true,decide_eq_true_eq]at BY;obtain⟨vs,h1,h2⟩:=ZT hB hK fuel T _ _ D _ h BY.2;obtain⟨c,r,rfl,⟨l,hl⟩,hr⟩:=h2.take;cases hr
  have hv:v.cells.toList=[v]:=by
   refine XY (λfs hu=>?_) (λn e hu=>?_)
   ·rw[hu]at BY;simp at BY
   ·rw[hu]at BY;simp at BY
  refine⟨l,?_,by simp[QC,WB,JA,TN.cast]⟩;have h0:=h1.2 0 (by simp);simp only[hv]at h0;exact VR.sub (MA hl) h0
 | _=>simp[SP]at BY
def kJ(P:Program)(tn:TypeId→Option TN)(D:Nat):List TypeId→List Ty→Bool
 | [],[]=>true
 | T :: Ts,t :: ts=>SP P tn D T t&&kJ P tn D Ts ts
 | _,_=>false
variable (hB:W.heap.size≤fA.base)in
include hB in
theorem ze0{tn:TypeId→Option TN}{D:Nat}(hK:WI P tn D){sp:Nat→Bool}{zX:Bool}{r:Reach}{b:Nat}:∀(Ts:List TypeId) (ats:List Ty) (vs:List Value) (ds:List (DataW H)) (ps:List MemPlace),
  kJ P tn D Ts ats=true→DataW.TrodAll encH P W 0 sp zX Ts vs ds ps→(∀(j:Nat) t v,Ts[j]?=some t→vs[j]?=some v→Value.okWide P W r b t v)→
  vs.length=ats.length∧∃x:RA ats,kC ats (SA ats x)=some x∧(SA ats x).length=ats.length∧∀j (hj:j<(SA ats x).length),VR W NG WE (vs.getD j undef) (SA ats x)[j]
 | [],[],vs,ds,ps,_,h,_=>by
  cases vs<;>cases ds<;>simp[DataW.TrodAll]at h
  exact⟨rfl,(),rfl,rfl,λj hj=>by simp[SA]at hj⟩
 | [],_ :: _,vs,ds,ps,ht,_,_=>by simp[kJ]at ht
 | _ :: _,[],vs,ds,ps,ht,_,_=>by simp[kJ]at ht
 | T :: Ts,t :: ts,vs,ds,ps,ht,h,hw=>by
  simp only[kJ,Bool.and_eq_true]at ht;obtain⟨v,vs',d,ds',p,q,rfl,rfl,rfl,h0,h1⟩:=ChangeShapes.trodAll_cons h;obtain⟨x0,k1,k2⟩:=zm7 hB hK ht.1 h0 (hw 0 T v rfl rfl);obtain⟨e1,y,e2,e3,e4⟩:=ze0 hK Ts ts vs' ds' q ht.2 h1 (λj t v h1 h2=>hw (j+1) t v h1 h2);refine⟨by simp[e1],?_⟩;cases ts with
  | nil=>
   refine⟨x0,by simpa[kC,SA]using k2,rfl,λj hj=>?_⟩;have:j=0:=by simp[SA]at hj;omega
   subst this;exact k1
  | cons d r=>
   refine⟨(x0,y),?_,by simp[SA]at e3⊢;exact e3,λj hj=>?_⟩
   ·simp only[kC,SA];rw[k2];simp only[Option.bind_some];rw[e2];rfl
   ·cases j with
    | zero=>exact k1
    | succ j=>exact e4 j (by simpa[SA]using hj)
def JC(n:Nat):List WA:=List.replicate n .plain
omit [fA]in
def zdy:∀(n k:Nat) (as:List V),as.length=n→fB (JC n) k as=as∧yA (JC n) k as=λ_=>none
 | 0,k,[],_=>⟨rfl,rfl⟩
 | 0,k,_ :: _,h=>by simp at h
 | n+1,k,[],h=>by simp at h
 | n+1,k,a :: as,h=>by
  obtain⟨h1,h2⟩:=zdy n (k+1) as (by simpa using h);refine⟨?_,?_⟩
  ·show a :: fB (JC n) (k+1) as=_;rw[h1]
  ·show yA (JC n) (k+1) as=_;exact h2
def zkK(hB:fA.base=W.heap.size){tn:TypeId→Option TN}{D:Nat}(hK:WI P tn D){f:Nat}{ats:List Ty}{F:RA ats→Option Bool}{n:Nat}
  {g:Gl} (hg:g.p W) (hc:cB P f ⟨JC n,RA ats,RA [.v .bool],kC ats,F,XC [.v .bool],[(false,1)],[],false⟩ g) (hn:ats.length=n) (hF:∀x,F x=some true) {Ts:List TypeId} (ht:kJ P tn D Ts ats=true)
  {sp:Nat→Bool} {zX:Bool} {r:Reach} {b:Nat} {args:Array Value} {ds:List (DataW H)} {ps:List MemPlace} (h:DataW.TrodAll encH P W 0 sp zX Ts args.toList ds ps)
  (hw:∀(j:Nat) t v,Ts[j]?=some t→args[j]?=some v→Value.okWide P W r b t v) (W1:(callFunc f args).run P W= .ok (.enter f args) W):
  Calls P f args W λe W'=>e= .returned (.bool true)∧Below W.heap.size W W':=by
 obtain⟨h1,x,h2,h3,h4⟩:=ze0 (Nat.le_of_eq hB.symm) hK Ts ats args.toList ds ps ht h (λj t v h5 h6=>hw j t v h5 (by simpa using h6));have LV:(SA ats x).length=n:=by rw[h3,hn]
 obtain⟨e1,e2⟩:=zdy n 0 (SA ats x) LV;have hp:(JC n).length=n:=by simp[JC]
 have ZV:∀b,jA WE NG (yA (JC n) 0 (SA ats x)) b→WE b:=by
  rintro b (h | ⟨q,row,ri,h,_⟩)
  ·exact h
  ·rw[e2]at h;cases h
 have g9:∀h:Nat→Option kA,h=(λ_=>none)→VA W WE WE NG h W:=λh he=>by
  subst he;exact⟨Wx.refl _,λ_ _ _=>rfl,λb hb=>hb.elim,λr row hr=>(by cases hr),λq q' row row' qi qi' hq=>(by cases hq)⟩
 have G:=hc W args (SA ats x) WE WE NG x true 0 [] (by simp at h1;rw[hp];omega) (by rw[e1,hp,LV])
  (g9 (yA (JC n) 0 (SA ats x)) e2)
  (fun j hj=>by
   have sW:j<(SA ats x).length:=by rw[←e1];exact hj
   have h5:=h4 j sW;have h6:(fB (JC n) 0 (SA ats x))[j]=(SA ats x)[j]:=by simp only[e1]
   rw[h6];rw[Array.getD_eq_getD_getElem?];rw[List.getD_eq_getElem?_getD]at h5;rw[Array.getElem?_toList]at h5;exact h5.mono (λ_ _ h=>h) (λ_ _ _=>rfl) λb hb=> .inl (ZV b hb))
  (λ_ _=>rfl) (by simp) (λb hb=>by simp at hb) h2 (hF x) (by simp[XC,GU,enc]) ⟨hg,λ_ _ h=>h,Nat.le_of_eq hB,λ_ _ h=>h⟩
 rcases G with⟨_,G⟩ | ⟨v,w',G,_⟩
 ·refine Calls.mono' G λe w' ⟨v,he,ρ',g1,g2,_⟩=>?_;subst he;refine⟨?_,g1.wx.os,g1.wx.tape,g1.wx.output,g1.wx.size,λk hk=>g1.old k hk λh=>h⟩;have g3:VR w' ρ' (jA WE ρ' (UC ⟨JC n,RA ats,RA [.v .bool],kC ats,F,XC [.v .bool],[(false,1)],[],false⟩ (SA ats x) [] 0 (XC [.v .bool] true))) v (.bool true):=g2;cases g3;rfl
 ·rw[W1]at G;cases G
omit [fA]in
def ziK{W W':World}(hb:Below W.heap.size W W'){b off:Nat}(h:b<W.heap.size):W'.frozen? ⟨b,off,none⟩=W.frozen? ⟨b,off,none⟩:=by
 simp only[World.frozen?,hb.block b h]
omit [fA]in
def zcG(hl:laidOutB P=true){W':World}(hb:Below W.heap.size W W'){sp':Nat→Bool}:∀(ts:List TypeId) (vs:List Value) (ds:List (DataW H)) (ps:List MemPlace),
  (∀t∈ts,P.readableRec t=true∧t<P.types.size)→DataW.TrodAll encH P W 0 (λ_=>true) true ts vs ds ps→(∀x∈ps,x.block<W.heap.size)→(∀x∈ps,sp' x.block=true)→DataW.TrodAll encH P W' 0 sp' true ts vs ds ps
 | [],vs,ds,ps,hr,h,NV,hs=>by
  cases vs<;>cases ds<;>simp[DataW.TrodAll]at h⊢
  exact h
 | t :: ts,vs,ds,ps,hr,h,NV,hs=>by
  obtain⟨v,vs',d,ds',p,q,rfl,rfl,rfl,h0,h1⟩:=ChangeShapes.trodAll_cons h
  refine⟨p,q,WideElems.Trod_stays hl (hr t (by simp)).1 (hr t (by simp)).2 h0 (λx hx=>hb.same (NV x (by simp[hx]))) (λx hx=>hs x (by simp[hx])),
   zcG hl hb ts vs' ds' q (λt ht=>hr t (List.mem_cons_of_mem _ ht)) h1 (λx hx=>NV x (by simp[hx])) (λx hx=>hs x (by simp[hx])),rfl⟩
omit [fA]in
def zlE(hl:laidOutB P=true){f:Func}{s:ChangeSpec}{apart fresh MW again:Bool}{W':World}{args:Array Value}{ds gs:List (DataW H)}{before:List MemPlace}
  (W4:∀t∈f.params.toList,P.readableRec t=true∧t<P.types.size) (pX:s.vars=[]) (hW:DataW.Whole encH P f.params.toList s.vars apart W args.toList ds gs before) (hb:Below W.heap.size W W')
  {T:TypeId} (hT:f.resultTypes= #[T]) (BX:P.underlying T=some .bool) (PX:s.fn H (ds++gs)={results:=[.lit (.bool true)],args:=ds}):
  s.post encH P f apart fresh MW again W args (.bool true) W':=by
 obtain⟨p,q,h1,h2,rfl,h3,h4⟩:=id hW;rw[pX]at h2;have hq:gs=[]∧q=[]:=by cases gs<;>simp[DataW.TrodVars]at h2;exact⟨rfl,h2⟩
 obtain⟨rfl,rfl⟩:=hq;have NV:∀x∈p,x.block<W.heap.size:=λx hx=>hW.lt x (by simp[hx])
 have iW:∀sp:Nat→Bool,(∀x∈p,sp x.block=true)→DataW.TrodAll encH P W' 0 sp true f.params.toList args.toList (s.fn H (ds++[])).args p:=λsp hs=>by
  rw[PX];exact zcG hl hb _ _ _ _ W4 h1 NV hs
 have RW:∀(b:Nat) (sp:Nat→Bool) (hd:Bool),DataW.TrodAll encH P W' b sp hd f.resultTypes.toList ((Value.bool true).resultList f.resultTypes.size) (s.fn H (ds++[])).results []:=λb sp hd=>by
  rw[PX,hT];refine⟨[],[],RowKit.shut_bool BX _,rfl,rfl⟩
 have XW:∀sp:Nat→Bool,DataW.TrodVars encH P W' sp s.vars (s.fn H (ds++[])).vars []:=λsp=>by
  rw[PX,pX];rfl
 have IY:∀x∈p,(λb=>decide (b<W.heap.size)) x.block=true:=λx hx=>by simpa using NV x hx
 refine⟨ds,[],p++[],[],p,[],hW,RW _ _ _,iW _ IY,XW _,?_,λ_=>⟨?_,_,_,([]++p)++[],⟨[]++p,[],trodAll_append (iW _ (λ_ _=>rfl)) (RW _ _ _),XW _,rfl,?_,?_⟩,?_⟩⟩
 ·refine⟨hb.os,hb.output,λi hi=>?_⟩;rw[hb.block i hi];exact(World.keptBut_refl W (λx=>x∈p++[]∧(x∈[]∨x∈p∨x∈[]))).2.2 i hi
 ·exact ok_one hT rfl (okWide_bool_mk BX _)
 ·intro c off hp;have g8:MemPlace.cell c off∈p++[]:=by simpa using hp
  have:=NV (.cell c off) (by simpa using g8);rw[ziK (b:=c) (off:=off) hb this];exact h3 c off g8
 ·intro ha;have:=h4 ha;simpa using this
 ·intro x hx _;simpa using hx
omit [fA]in
def zlX {f : Nat} {fn : Func} {body : Code} (hf : P.funcs[f]? = some fn) (hb : fn.body = some body) (nW : (fn.name == "runtime.NumGoroutine") = false) (args : Array Value) :
  (callFunc f args).run P W= .ok (.enter f args) W:=by
 have oX : ¬ fn.name = "runtime.NumGoroutine" := by simpa using nW
 simp[callFunc,program,hf,hb,oX,Sem.run]
omit [fA]in
def zlK{g:Gl}(hg:g.p W){tn:TypeId→Option TN}{D:Nat}(hK:WI P tn D){f:Nat}{fn:Func}{body:Code}{ats:List Ty}{F:RA ats→Option Bool}{n:Nat}
  {tns:TypeId→Option TN} (hc:∀m:Nat,@cB ⟨tns,m⟩ P f ⟨JC n,RA ats,RA [.v .bool],kC ats,F,XC [.v .bool],[(false,1)],[],false⟩ g) (hn:ats.length=n) (hF:∀x,F x=some true)
  (hf : P.funcs[f]? = some fn) (hb : fn.body = some body) (nW : (fn.name == "runtime.NumGoroutine") = false) (ht : kJ P tn D fn.params.toList ats = true)
  (hl:laidOutB P=true) (W4:(fn.params.toList.all λt=>P.readableRec t&&Nat.blt t P.types.size)=true) {T:TypeId} (hT:fn.resultTypes= #[T]) (BX:P.underlying T=some .bool)
  {s:ChangeSpec} (pX:s.vars=[]) {apart fresh MW again:Bool} {args:Array Value} {ds gs:List (DataW H)} {before:List MemPlace} {r:Reach} {b:Nat}
  (hW:DataW.Whole encH P fn.params.toList s.vars apart W args.toList ds gs before) (PX:gs=[]→s.fn H (ds++gs)={results:=[.lit (.bool true)],args:=ds})
  (jY:∀(j:Nat) t v,fn.params[j]?=some t→args[j]?=some v→Value.okWide P W r b t v):
  Calls P f args W λe W'=>∃v,e= .returned v∧s.post encH P fn apart fresh MW again W args v W':=by
 obtain⟨p,q,h1,h2,h3⟩:=id hW
 have hgs:gs=[]:=by
  rw[pX]at h2;cases gs
  ·rfl
  ·simp[DataW.TrodVars]at h2
 letI:fA:=⟨tns,W.heap.size⟩
 refine Calls.mono' (zkK rfl hK hg (hc W.heap.size) hn hF ht h1 (λj t v h5 h6=>jY j t v (by simpa using h5) h6) (zlX hf hb nW args)) λe W' ⟨he,hb⟩=>⟨_,he,zlE hl (λt ht=>?_) pX hW hb hT BX (PX hgs)⟩;have:=List.all_eq_true.1 W4 t ht;simpa using this
omit [fA]in
def zmu{tn:TypeId→Option TN}{D:Nat}(hK:WI P tn D){f:Nat}{fn:Func}{body:Code}{ats:List Ty}{F:RA ats→Option Bool}{n:Nat}
  {tns:TypeId→Option TN} (hc:∀m:Nat,@cB ⟨tns,m⟩ P f ⟨JC n,RA ats,RA [.v .bool],kC ats,F,XC [.v .bool],[(false,1)],[],false⟩ pI) (hn:ats.length=n) (hF:∀x,F x=some true)
  (hf : P.funcs[f]? = some fn) (hb : fn.body = some body) (nW : (fn.name == "runtime.NumGoroutine") = false) (ht : kJ P tn D fn.params.toList ats = true)
  (hl:laidOutB P=true) (W4:(fn.params.toList.all λt=>P.readableRec t&&Nat.blt t P.types.size)=true) {T:TypeId} (hT:fn.resultTypes= #[T]) (BX:P.underlying T=some .bool)
  {s:ChangeSpec} (pX:s.vars=[]) {apart fresh MW again:Bool} {args:Array Value} {ds gs:List (DataW H)} {before:List MemPlace} {r:Reach} {b:Nat}
  (hW:DataW.Whole encH P fn.params.toList s.vars apart W args.toList ds gs before) (PX:gs=[]→s.fn H (ds++gs)={results:=[.lit (.bool true)],args:=ds})
  (jY:∀(j:Nat) t v,fn.params[j]?=some t→args[j]?=some v→Value.okWide P W r b t v):
  Calls P f args W λe W'=>∃v,e= .returned v∧s.post encH P fn apart fresh MW again W args v W':=
 zlK (g:=pI) trivial hK hc hn hF hf hb nW ht hl W4 hT BX pX hW PX jY
end
end Go.D

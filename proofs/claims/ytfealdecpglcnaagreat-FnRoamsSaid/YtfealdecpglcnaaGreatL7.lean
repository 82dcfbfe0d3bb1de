/-
 A body's end: what the function gives.
-/
import Derived.Test.YtfealdecpglcnaaGreatL6
import Derived.Test.YtfealdecpglcnaaGreatL5
import Derived.Carry
import Derived.WideKeyArgs
import Derived.ChangeSame
set_option linter.all false
namespace Go.D
variable [iA]
omit [iA]in
def OB.app{a b c d:List V}(h:OB a b)(k:OB c d):OB (a++c) (b++d):=by
 induction h with
 | nil=>exact k
 | cons h1 _ ih=>exact .cons h1 ih
omit [iA]in
def ziA(t:Ty)(vs:List V)(x:t.T×List V)(h:LH t vs=some x):∃us,vs=us++x.2∧OB us (zdF t x.1):=by
 cases t with
 | v t=>
  simp only[LH]at h;obtain⟨a,h1,h2⟩:=Option.bind_eq_some_iff.1 h;cases h2;exact⟨_,(List.take_append_drop _ _).symm,IF t h1⟩
 | cells t=>
  simp only[LH]at h;obtain⟨a,h1,h2⟩:=Option.bind_eq_some_iff.1 h;cases h2;exact⟨_,(List.take_append_drop _ _).symm,IF t h1⟩
 | sl t=>
  cases vs with
  | nil=>simp[LH]at h
  | cons v vs=>
   simp only[LH]at h;obtain⟨a,h1,h2⟩:=Option.bind_eq_some_iff.1 h;cases h2;exact⟨[v],rfl, .cons (ZA h1) .nil⟩
 | raw=>
  cases vs with
  | nil=>simp[LH]at h
  | cons v vs=>simp only[LH,Option.some.injEq]at h;subst h;exact⟨[v],rfl, .cons (.refl _) .nil⟩
 | pt=>simp[LH]at h
 | c1=>simp[LH]at h
 | p1=>simp[LH]at h
 | c2=>simp[LH]at h
omit [iA]in
def zfo:∀(ts:List Ty) (vs:List V) (x:gB ts),uJ ts vs=some x→OB vs (rE ts x)
 | [],[],x,h=> .nil
 | [],_ :: _,x,h=>by simp[uJ]at h
 | [t],vs,x,h=>by
  simp only[uJ]at h;obtain⟨y,h1,h2⟩:=Option.bind_eq_some_iff.1 h;obtain⟨us,h3,h4⟩:=ziA t vs y h1;split at h2
  ·rename_i h5;cases h2;rw[h5,List.append_nil]at h3;subst h3;exact h4
  ·cases h2
 | t :: d :: r,vs,x,h=>by
  simp only[uJ]at h;obtain⟨y,h1,h2⟩:=Option.bind_eq_some_iff.1 h;obtain⟨z,h3,h4⟩:=Option.bind_eq_some_iff.1 h2;cases h4;obtain⟨us,h5,h6⟩:=ziA t vs y h1;rw[h5];exact h6.app (zfo (d :: r) _ z h3)
section
variable {C:Cx} {w0:World} {outer own D:Nat→Prop} {R:Type} {st st1 st2:St} {ρ ρ1 ρ2:Nat→Option RI} {a a1 a2:Act} {w w1 w2:World} {j:JI}
omit [iA]in
def zj6(an:An):∀c:Code,GI an (λ_=>True) c:=by
 have jd:∀o,JD (λ_=>True) o:=λo=>by cases o<;>simp[JD]
 intro c;induction c with
 | region id ops d=>exact⟨λ_ _ _ _=>trivial,jd _⟩
 | seq x y hx hy=>exact⟨hx,hy⟩
 | cond c x y hx hy=>cases c<;>first|exact⟨hx,hy,jd _⟩|exact⟨hx,hy⟩
 | block id x hx=>exact⟨hx,jd _⟩
 | loop x hx=>
  refine⟨hx,?_⟩;split
  ·exact jd _
  ·trivial
 | scope x hx=>exact hx
 | _=>trivial
omit [iA]in
def zbF(ow:List Nat)(B:Nat)(e:V)(es:List V)(p q:Nat)(h:q≠p):aB ow B (λ_=>none) p (e :: es) (B+q)=aB ow B (λ_=>none) (p+1) es (B+q):=by
 cases e<;>simp only[aB]
 cases hb:ow.any (Nat.beq p)
 ·rfl
 ·simp only[cond_true];rw[AA _ _ _ _ (by omega)]
omit [iA]in
def zct(ow:List Nat)(B:Nat):∀(cs es:List V) (p q:Nat) (row:rA),OB cs es→aB ow B (λ_=>none) p es (B+q)=some row→
  aB ow B (λ_=>none) p cs (B+q)=some row∨(aB ow B (λ_=>none) p cs (B+q)=none∧∃t,row=⟨.arr t [], .own⟩)
 | [],_,p,q,row,hs,h=>by cases hs;simp[aB]at h
 | c :: cs,_,p,q,row,hs,h=>by
  cases hs with
  | cons oY oX=>
  rename_i e es
  by_cases hq:q=p
  ·subst hq;cases oY with
   | refl=>
    have hn:∀l:List V,aB ow B (λ_=>none) (q+1) l (B+q)=none:=λl=>PC _ _ _ _ _ (by omega);left;cases c<;>simp only[aB]at h⊢ <;>try (rw[hn]at h;cases h)
    cases hb:ow.any (Nat.beq q)
    ·simp only[hb,cond_false]at h;rw[hn]at h;cases h
    ·simp only[hb,cond_true,MA]at h⊢;exact h
   | byte n=>simp only[aB]at h;rw[PC _ _ _ _ _ (by omega)]at h;cases h
   | nil t=>
    right;simp only[aB]at h⊢;refine⟨PC _ _ _ _ _ (by omega),?_⟩;cases hb:ow.any (Nat.beq q)
    ·simp only[hb,cond_false]at h;rw[PC _ _ _ _ _ (by omega)]at h;cases h
    ·simp only[hb,cond_true,MA]at h;cases h;exact⟨t,rfl⟩
  ·rw[zbF _ _ _ _ _ _ hq]at h⊢;exact zct ow B cs es (p+1) q row oX h
def zco(ow:List Nat)(B:Nat){bad bad2:Nat→Prop}{ρ2:Nat→Option RI}(hk:∀u d,VR w ρ bad u d→VR w ρ2 bad2 u d):∀(cs es:List V) (p:Nat) (u:Nat→Value),OB cs es→
  (∀q t,p≤q→aB ow B (λ_=>none) p cs (B+q)=none→aB ow B (λ_=>none) p es (B+q)=some ⟨.arr t [], .own⟩→ρ2 (B+q)=some ⟨0,0,0,true⟩)→
  (∀j (hj:j<(OA ow B p cs).length),VR w ρ bad (u j) (OA ow B p cs)[j])→∀j (hj:j<(OA ow B p es).length),VR w ρ2 bad2 (u j) (OA ow B p es)[j]
 | [],_,p,u,hs,hn,hv,j,hj=>by cases hs;simp[OA]at hj
 | c :: cs,_,p,u,hs,hn,hv,j,hj=>by
  cases hs with
  | cons oY oX=>
  rename_i e es;have hd:∀(c:V) (cs:List V),∃c',OA ow B p (c :: cs)=c' :: OA ow B (p+1) cs:=λc cs=>by cases c<;>exact⟨_,rfl⟩
  obtain⟨c',mZ⟩:=hd c cs;obtain⟨e',gX⟩:=hd e es
  have M1:∀j (hj:j<(c' :: OA ow B (p+1) cs).length),VR w ρ bad (u j) (c' :: OA ow B (p+1) cs)[j]:=λj hj=>by
   have:=hv j (by rw[mZ];exact hj);simpa only[mZ]using this
  have ih:=zco ow B hk cs es (p+1) (λj=>u (j+1)) oX (λq t h1 h2 h3=>hn q t (by omega) (by rw[zbF _ _ _ _ _ _ (by omega)];exact h2) (by rw[zbF _ _ _ _ _ _ (by omega)];exact h3))
   (λj hj=>by have:=M1 (j+1) (by simp;omega);simpa using this)
  have MW:=M1 0 (by simp);simp only[List.getElem_cons_zero]at MW
  have goal0:VR w ρ2 bad2 (u 0) e':=by
   cases oY with
   | refl=>
    have:e'=c':=by
     have h1:=congrArg List.head? mZ;have h2:=congrArg List.head? gX;cases c<;>simp[OA]at h1 h2<;>rw[←h1, ←h2]
    rw[this];exact hk _ _ MW
   | byte n=>
    have h1:=congrArg List.head? mZ;have h2:=congrArg List.head? gX;simp only[OA,List.head?_cons,Option.some.injEq]at h1 h2;subst h1;subst h2;exact hk _ _ (VR.sub (.byte n) MW)
   | nil t=>
    have h1:=congrArg List.head? mZ;have h2:=congrArg List.head? gX;simp only[OA,List.head?_cons,Option.some.injEq]at h1 h2;subst h1;have QZ:u 0= .slice none 0 0:=by generalize u 0=x at MW;cases MW;rfl
    cases hb:ow.any (Nat.beq p)
    ·simp only[hb,cond_false]at h2;subst h2;rw[QZ];exact .slE _ _ _ (Nat.zero_le _)
    ·simp only[hb,cond_true]at h2;subst h2;rw[QZ];refine .owN _ ⟨0,0,0,true⟩ none (hn p t (Nat.le_refl _) ?_ ?_) rfl rfl
     ·simp only[aB];exact PC _ _ _ _ _ (by omega)
     ·simp only[aB,hb,cond_true,MA]
  cases j with
  | zero=>simp only[gX,List.getElem_cons_zero];exact goal0
  | succ j=>simp only[gX,List.getElem_cons_succ];exact ih j (by rw[gX]at hj;simpa using hj)
omit [iA]in
def zjl{t:Ty}{ats:List Ty}{as:List V}{x:gB (t :: ats)}(hd:nD (t :: ats) as=some x):
  ∃v vs y,as=v :: vs∧∃(x0:t.T),gE t v=some x0∧nD ats vs=some y∧cB (t :: ats) x=zC t x0 :: cB ats y:=by
 cases ats with
 | nil=>
  cases as with
  | nil=>simp[nD]at hd
  | cons v vs=>
   cases vs with
   | nil=>exact⟨v,[],(),rfl,x,by simpa[nD]using hd,rfl,rfl⟩
   | cons=>simp[nD]at hd
 | cons d r=>
  cases as with
  | nil=>simp[nD]at hd
  | cons v vs=>
   simp only[nD]at hd;obtain⟨x0,h1,h2⟩:=Option.bind_eq_some_iff.1 hd;obtain⟨y,h3,h4⟩:=Option.bind_eq_some_iff.1 h2;cases h4;exact⟨v,vs,y,rfl,x0,h1,h3,rfl⟩
omit [iA]in
def FE:∀(ks:List kB) (k:Nat) (as:List V) (q:Nat) (row:rA),BA ks k as q=some row→128 *k≤q
  | [],k,as,q,row,h=>by cases as<;>simp[BA]at h
  | .plain :: ks,k,[],q,row,h=>by simp[BA]at h
  | .plain :: ks,k,a :: as,q,row,h=>by
   have:=FE ks (k+1) as q row (by simpa only[BA]using h);omega
  | .mv ow :: ks,k,[],q,row,h=>by simp[BA]at h
  | .mv ow :: ks,k,a :: as,q,row,h=>by
   cases a<;>simp only[BA]at h<;>try (cases h;done)
   rw[BB]at h;split at h
   ·rename_i x hx;obtain⟨_,_,_,h1,_⟩:=SD _ _ _ _ _ _ hx;omega
   ·have:=FE ks (k+1) as q row h;omega
  | .ms :: ks,k,[],q,row,h=>by simp[BA]at h
  | .ms :: ks,k,a :: as,q,row,h=>by
   simp only[BA]at h;rw[BB]at h;split at h
   ·rename_i x hx;obtain⟨_,_,_,h1,_⟩:=SD _ _ _ _ _ _ hx;omega
   ·have:=FE ks (k+1) as q row h;omega
  | .ptr ow :: ks,k,[],q,row,h=>by simp[BA]at h
  | .ptr ow :: ks,k,a :: as,q,row,h=>by
   cases a<;>simp only[BA]at h<;>try (cases h;done)
   by_cases hq:q=128 *k+127
   ·omega
   ·rw[AA _ _ _ _ hq,BB]at h;split at h
    ·rename_i x hx;obtain⟨_,_,_,h1,_⟩:=SD _ _ _ _ _ _ hx;omega
    ·have:=FE ks (k+1) as q row h;omega
def zlc{bad bad2:Nat→Prop}{ρ2:Nat→Option RI}(qX:∀u d,VR w ρ bad u d→VR w ρ2 bad2 u d):∀(ks:List kB) (ats:List Ty) (as:List V) (x:gB ats) (k:Nat) (u:Nat→Value),ZB ks ats=true→nD ats as=some x→
  (∀q t,BA ks k as q=none→BA ks k (cB ats x) q=some ⟨.arr t [], .own⟩→ρ2 q=some ⟨0,0,0,true⟩)→
  (∀j (hj:j<(sB ks k as).length),VR w ρ bad (u j) (sB ks k as)[j])→
  (sB ks k (cB ats x)).length=(sB ks k as).length∧∀j (hj:j<(sB ks k (cB ats x)).length),VR w ρ2 bad2 (u j) (sB ks k (cB ats x))[j]:=by
 intro ks;induction ks with
 | nil=>
  intro ats as x k u hk hd hn hv;cases ats with
  | nil=>cases as with
   | nil=>exact⟨rfl,λj hj=>by simp[sB]at hj⟩
   | cons=>simp[nD]at hd
  | cons=>simp[ZB]at hk
 | cons q ks ih=>
  intro ats as x k u hk hd hn hv;cases ats with
  | nil=>cases q<;>simp[ZB]at hk
  | cons t ats=>
   obtain⟨v,vs,y,rfl,x0,h1,h3,h4⟩:=zjl hd;rw[h4]at hn⊢;cases q with
   | plain=>
    simp only[ZB]at hk;obtain⟨e1,e2⟩:=ih ats vs y (k+1) (λj=>u (j+1)) hk h3 (λq t a b=>hn q t a b) (λj hj=>hv (j+1) (by simp[sB];omega));refine⟨by simp[sB,e1],λj hj=>?_⟩;cases j with
    | zero=>exact qX _ _ (zkU t v x0 h1 (hv 0 (by simp[sB])))
    | succ j=>exact e2 j (by simpa[sB]using hj)
   | ptr ow=>
    cases t with
    | cells t=>
     simp only[ZB,Bool.and_eq_true]at hk;have KV:=Nat.le_of_ble_eq_true hk.1;simp only[gE]at h1;split at h1
     case h_2=>cases h1
     rename_i cs;have fW:(enc t x0).length=sz t:=cD t x0;have A3:cs.length=sz t:=by rw[(IF t h1).len,fW]
     obtain⟨e1,e2⟩:=ih ats vs y (k+1) (λj=>u (j+1)) hk.2 h3 (λq t' a b=>by
      have sX:=FE ks (k+1) _ q _ b;refine hn q t' ?_ ?_
      ·simp only[BA];rw[AA _ _ _ _ (by omega),BB,PC _ _ _ _ _ (by omega)];exact a
      ·simp only[BA,zC];rw[AA _ _ _ _ (by omega),BB,PC _ _ _ _ _ (by omega)];exact b) (λj hj=>hv (j+1) (by simp[sB];omega))
     refine⟨by simp[sB,e1],λj hj=>?_⟩;cases j with
     | zero=>exact qX _ _ (hv 0 (by simp[sB]))
     | succ j=>exact e2 j (by simpa[sB]using hj)
    | _=>simp[ZB]at hk
   | mv ow=>
    cases t with
    | v t=>
     simp only[ZB,Bool.and_eq_true]at hk;obtain⟨⟨iW,KV⟩,hk⟩:=hk;have KV:=Nat.le_of_ble_eq_true KV;simp only[gE]at h1;split at h1
     case h_2=>simp[iW]at h1
     rename_i cs;simp only[iW,cond_true]at h1;have dW:=IF t h1;have fW:(enc t x0).length=sz t:=cD t x0;have A3:cs.length=sz t:=by rw[dW.len,fW]
     have J2:zC (.v t) x0= .agg (enc t x0):=by simp only[zC,IK,iW,cond_true]
     rw[J2]at hn⊢
     obtain⟨e1,e2⟩:=ih ats vs y (k+1) (λj=>u (j+1)) hk h3 (λq t' a b=>by
      have sX:=FE ks (k+1) _ q _ b;refine hn q t' ?_ ?_
      ·simp only[BA];rw[BB,PC _ _ _ _ _ (by omega)];exact a
      ·simp only[BA];rw[BB,PC _ _ _ _ _ (by omega)];exact b) (λj hj=>hv (j+1) (by simp[sB];omega))
     refine⟨by simp[sB,e1],λj hj=>?_⟩;cases j with
     | zero=>
      have MW:=hv 0 (by simp[sB]);simp only[sB,List.getElem_cons_zero]at MW⊢;generalize u 0=u0 at MW;cases MW with
      | agg _ vsA hs rX=>
      rw[wE]at hs;refine .agg _ vsA (by rw[wE,hs,fW,A3]) ?_;refine zco ow (128 *k) qX cs (enc t x0) 0 (λj=>vsA.getD j undef) dW (λp t' _ h5 h6=>?_) rX;obtain⟨_,_,_,e3,e4⟩:=SD _ _ _ _ _ _ h6;refine hn _ t' ?_ ?_
      ·simp only[BA];rw[BB,h5];show BA ks (k+1) vs (128 *k+p)=none
       cases hr:BA ks (k+1) vs (128 *k+p)with
       | none=>rfl
       | some z=>have:=FE ks (k+1) vs _ z hr;omega
      ·simp only[BA];rw[BB,h6]
     | succ j=>exact e2 j (by simpa[sB]using hj)
    | _=>simp[ZB]at hk
   | ms=>
    cases t with
    | sl t=>
     simp only[ZB]at hk;have dW:OB [v] [.sl t x0]:= .cons (ZA h1) .nil
     obtain⟨e1,e2⟩:=ih ats vs y (k+1) (λj=>u (j+1)) hk h3 (λq t' a b=>by
      have sX:=FE ks (k+1) _ q _ b;refine hn q t' ?_ ?_
      ·simp only[BA];rw[BB,PC _ _ _ _ _ (by simp;omega)];exact a
      ·simp only[BA];rw[BB,PC _ _ _ _ _ (by simp;omega)];exact b) (λj hj=>hv (j+1) (by simp[sB];omega))
     refine⟨by simp[sB,e1],λj hj=>?_⟩;cases j with
     | zero=>
      have MW:=hv 0 (by simp[sB]);simp only[sB,List.getElem_cons_zero]at MW⊢
      have:=zco [0] (128 *k) qX [v] [.sl t x0] 0 (λ_=>u 0) dW (λp t' _ h5 h6=>by
       obtain⟨_,_,_,e3,e4⟩:=SD _ _ _ _ _ _ h6;simp only[List.length_singleton]at e4;refine hn _ t' ?_ ?_
       ·simp only[BA];rw[BB,h5];show BA ks (k+1) vs (128 *k+p)=none
        cases hr:BA ks (k+1) vs (128 *k+p)with
        | none=>rfl
        | some z=>have:=FE ks (k+1) vs _ z hr;omega
       ·simp only[BA,zC];rw[BB,h6]) (λj hj=>by
       have A2:j=0:=by simpa[wE]using hj
       subst A2;simpa only[ZU,List.getElem_cons_zero]using MW) 0 (by rw[wE];simp)
      simpa only[ZU,List.getElem_cons_zero,zC]using this
     | succ j=>exact e2 j (by simpa[sB]using hj)
    | _=>simp[ZB]at hk
omit [iA]in
def zvg:∀(ks:List kB) (ats:List Ty) (as:List V) (x:gB ats) (k:Nat),ZB ks ats=true→nD ats as=some x→
  (∀q row,BA ks k as q=some row→q<128 *(k+ks.length))∧
  ∀q row',BA ks k (cB ats x) q=some row'→q<128 *(k+ks.length)∧(BA ks k as q=some row'∨(BA ks k as q=none∧∃t,row'=⟨.arr t [], .own⟩)∨
   ∃ow B cs es,BA ks k as q=some ⟨.box (OA ow B 0 cs), .own⟩∧row'=⟨.box (OA ow B 0 es), .own⟩∧OB cs es∧
    ∀p t,aB ow B (λ_=>none) 0 cs (B+p)=none→aB ow B (λ_=>none) 0 es (B+p)=some ⟨.arr t [], .own⟩→BA ks k as (B+p)=none∧BA ks k (cB ats x) (B+p)=some ⟨.arr t [], .own⟩):=by
 intro ks;induction ks with
 | nil=>
  intro ats as x k hk hd;refine⟨λq row h=>by cases as<;>simp[BA]at h,λq row' h=>?_⟩;cases ats with
  | nil=>simp[BA]at h
  | cons=>simp[ZB]at hk
 | cons g ks ih=>
  intro ats as x k hk hd;cases ats with
  | nil=>cases g<;>simp[ZB]at hk
  | cons t ats=>
   obtain⟨v,vs,y,rfl,x0,h1,h3,h4⟩:=zjl hd;rw[h4];cases g with
   | plain=>
    simp only[ZB]at hk;obtain⟨i1,i2⟩:=ih ats vs y (k+1) hk h3;refine⟨λq row h=>?_,λq row' h=>?_⟩
    ·simp only[BA]at h;have:=i1 q row h;simp only[List.length_cons];omega
    ·simp only[BA]at h⊢;obtain⟨j1,j2⟩:=i2 q row' h;exact⟨by simp only[List.length_cons];omega,j2⟩
   | ptr ow=>
    cases t with
    | cells t=>
     simp only[ZB,Bool.and_eq_true]at hk;obtain⟨KV,hk⟩:=hk;have KV:=Nat.le_of_ble_eq_true KV;simp only[gE]at h1;split at h1
     case h_2=>cases h1
     rename_i cs;obtain⟨i1,i2⟩:=ih ats vs y (k+1) hk h3;have dW:=IF t h1;have fW:(enc t x0).length=sz t:=cD t x0;have A3:cs.length=sz t:=by rw[dW.len,fW]
     refine⟨λq row h=>?_,λq row' h=>?_⟩
     ·simp only[List.length_cons];simp only[BA]at h
      by_cases hq:q=128 *k+127
      ·omega
      ·rw[AA _ _ _ _ hq,BB]at h;split at h
       ·rename_i z hz;obtain⟨_,_,_,e1,e2⟩:=SD _ _ _ _ _ _ hz;omega
       ·have:=i1 q row h;omega
     ·simp only[List.length_cons];simp only[zC,BA]at h
      by_cases hq:q=128 *k+127
      ·subst hq;rw[MA]at h;cases h;refine⟨by omega, .inr (.inr ⟨ow,128 *k,cs,enc t x0,by simp only[BA];exact MA _ _ _,rfl,dW,λp t' e1 e2=>?_⟩)⟩;obtain⟨_,_,_,e3,e4⟩:=SD _ _ _ _ _ _ e2;have sY:128 *k+p≠128 *k+127:=by omega
       simp only[BA,zC];rw[AA _ _ _ _ sY,AA _ _ _ _ sY,BB,BB ow (128 *k) (BA ks (k+1) (cB ats y)),e1,e2];refine⟨?_,rfl⟩;cases hr:BA ks (k+1) vs (128 *k+p)with
       | none=>rfl
       | some z=>have:=FE ks (k+1) vs _ z hr;omega
      ·rw[AA _ _ _ _ hq,BB]at h;split at h
       ·rename_i z hz;cases h;obtain⟨_,_,_,e1,e2⟩:=SD _ _ _ _ _ _ hz;refine⟨by omega,?_⟩;have MX:=hz;rw[show q=128 *k+(q - 128 *k) by omega]at MX
        rcases zct ow (128 *k) cs (enc t x0) 0 _ _ dW MX with h5|⟨h5,h6⟩<;>rw[show 128 *k+(q - 128 *k)=q by omega]at h5
        ·left;simp only[BA];rw[AA _ _ _ _ hq,BB,h5]
        ·right;left;refine⟨?_,h6⟩;simp only[BA];rw[AA _ _ _ _ hq,BB,h5];show BA ks (k+1) vs q=none
         cases hr:BA ks (k+1) vs q with
         | none=>rfl
         | some z=>have:=FE ks (k+1) vs _ z hr;omega
       ·rename_i hz;obtain⟨j1,j2⟩:=i2 q row' h;have sX:=FE ks (k+1) _ q row' h
        have lift:∀q',128 *(k+1)≤q'→BA (.ptr ow :: ks) k (.agg cs :: vs) q'=BA ks (k+1) vs q'∧BA (.ptr ow :: ks) k (.agg (enc t x0) :: cB ats y) q'=BA ks (k+1) (cB ats y) q':=λq' YW=>by
         simp only[BA];rw[AA _ _ _ _ (by omega),AA _ _ _ _ (by omega),BB,BB ow (128 *k) (BA ks (k+1) (cB ats y)),PC _ _ _ _ _ (by omega),PC _ _ _ _ _ (by omega)];exact⟨rfl,rfl⟩
        obtain⟨l1,l2⟩:=lift q (by omega);refine⟨by omega,?_⟩;rw[l1]
        rcases j2 with j2|j2|⟨ow',B,cs',es',j2,j3,j4,j5⟩
        ·exact .inl j2
        ·exact .inr (.inl j2)
        ·refine .inr (.inr ⟨ow',B,cs',es',j2,j3,j4,λp t' e1 e2=>?_⟩);obtain⟨j6,j7⟩:=j5 p t' e1 e2;have:=FE ks (k+1) _ _ _ j7;obtain⟨l3,l4⟩:=lift (B+p) (by omega);show BA (.ptr ow :: ks) k (.agg cs :: vs) (B+p)=none∧BA (.ptr ow :: ks) k (.agg (enc t x0) :: cB ats y) (B+p)=_
         rw[l3,l4];exact⟨j6,j7⟩
    | _=>simp[ZB]at hk
   | mv ow=>
    cases t with
    | v t=>
     simp only[ZB,Bool.and_eq_true]at hk;obtain⟨⟨iW,KV⟩,hk⟩:=hk;have KV:=Nat.le_of_ble_eq_true KV;simp only[gE]at h1;split at h1
     case h_2=>simp[iW]at h1
     rename_i cs;simp only[iW,cond_true]at h1;obtain⟨i1,i2⟩:=ih ats vs y (k+1) hk h3;have dW:=IF t h1;have fW:(enc t x0).length=sz t:=cD t x0;have A3:cs.length=sz t:=by rw[dW.len,fW]
     have J2:zC (.v t) x0= .agg (enc t x0):=by simp only[zC,IK,iW,cond_true]
     rw[J2];refine⟨λq row h=>?_,λq row' h=>?_⟩
     ·simp only[List.length_cons];simp only[BA]at h;rw[BB]at h;split at h
      ·rename_i z hz;obtain⟨_,_,_,e1,e2⟩:=SD _ _ _ _ _ _ hz;omega
      ·have:=i1 q row h;omega
     ·simp only[List.length_cons];simp only[BA]at h;rw[BB]at h;split at h
      ·rename_i z hz;cases h;obtain⟨_,_,_,e1,e2⟩:=SD _ _ _ _ _ _ hz;refine⟨by omega,?_⟩;have MX:=hz;rw[show q=128 *k+(q - 128 *k) by omega]at MX
       rcases zct ow (128 *k) cs (enc t x0) 0 _ _ dW MX with h5|⟨h5,h6⟩<;>rw[show 128 *k+(q - 128 *k)=q by omega]at h5
       ·left;simp only[BA];rw[BB,h5]
       ·right;left;refine⟨?_,h6⟩;simp only[BA];rw[BB,h5];show BA ks (k+1) vs q=none
        cases hr:BA ks (k+1) vs q with
        | none=>rfl
        | some z=>have:=FE ks (k+1) vs _ z hr;omega
      ·rename_i hz;obtain⟨j1,j2⟩:=i2 q row' h;have sX:=FE ks (k+1) _ q row' h
       have lift:∀q',128 *(k+1)≤q'→BA (.mv ow :: ks) k (.agg cs :: vs) q'=BA ks (k+1) vs q'∧BA (.mv ow :: ks) k (.agg (enc t x0) :: cB ats y) q'=BA ks (k+1) (cB ats y) q':=λq' YW=>by
        simp only[BA];rw[BB,BB ow (128 *k) (BA ks (k+1) (cB ats y)),PC _ _ _ _ _ (by omega),PC _ _ _ _ _ (by omega)];exact⟨rfl,rfl⟩
       obtain⟨l1,l2⟩:=lift q (by omega);refine⟨by omega,?_⟩;rw[l1]
       rcases j2 with j2|j2|⟨ow',B,cs',es',j2,j3,j4,j5⟩
       ·exact .inl j2
       ·exact .inr (.inl j2)
       ·refine .inr (.inr ⟨ow',B,cs',es',j2,j3,j4,λp t' e1 e2=>?_⟩);obtain⟨j6,j7⟩:=j5 p t' e1 e2;have:=FE ks (k+1) _ _ _ j7;obtain⟨l3,l4⟩:=lift (B+p) (by omega);rw[l3,l4];exact⟨j6,j7⟩
    | _=>simp[ZB]at hk
   | ms=>
    cases t with
    | sl t=>
     simp only[ZB]at hk;obtain⟨i1,i2⟩:=ih ats vs y (k+1) hk h3;have dW:OB [v] [.sl t x0]:= .cons (ZA h1) .nil;have J2:zC (.sl t) x0= .sl t x0:=rfl;rw[J2];refine⟨λq row h=>?_,λq row' h=>?_⟩
     ·simp only[List.length_cons];simp only[BA]at h;rw[BB]at h;split at h
      ·rename_i z hz;obtain⟨_,_,_,e1,e2⟩:=SD _ _ _ _ _ _ hz;simp only[List.length_singleton]at e2;omega
      ·have:=i1 q row h;omega
     ·simp only[List.length_cons];simp only[BA]at h;rw[BB]at h;split at h
      ·rename_i z hz;cases h;obtain⟨_,_,_,e1,e2⟩:=SD _ _ _ _ _ _ hz;simp only[List.length_singleton]at e2;refine⟨by omega,?_⟩;have MX:=hz;rw[show q=128 *k+(q - 128 *k) by omega]at MX
       rcases zct [0] (128 *k) [v] [.sl t x0] 0 _ _ dW MX with h5|⟨h5,h6⟩<;>rw[show 128 *k+(q - 128 *k)=q by omega]at h5
       ·left;simp only[BA];rw[BB,h5]
       ·right;left;refine⟨?_,h6⟩;simp only[BA];rw[BB,h5];show BA ks (k+1) vs q=none
        cases hr:BA ks (k+1) vs q with
        | none=>rfl
        | some z=>have:=FE ks (k+1) vs _ z hr;omega
      ·rename_i hz;obtain⟨j1,j2⟩:=i2 q row' h;have sX:=FE ks (k+1) _ q row' h
       have lift:∀q',128 *(k+1)≤q'→BA (.ms :: ks) k (v :: vs) q'=BA ks (k+1) vs q'∧BA (.ms :: ks) k (.sl t x0 :: cB ats y) q'=BA ks (k+1) (cB ats y) q':=λq' YW=>by
        simp only[BA];rw[BB,BB [0] (128 *k) (BA ks (k+1) (cB ats y)),PC _ _ _ _ _ (by simp;omega),PC _ _ _ _ _ (by simp;omega)];exact⟨rfl,rfl⟩
       obtain⟨l1,l2⟩:=lift q (by omega);refine⟨by omega,?_⟩;rw[l1]
       rcases j2 with j2|j2|⟨ow',B,cs',es',j2,j3,j4,j5⟩
       ·exact .inl j2
       ·exact .inr (.inl j2)
       ·refine .inr (.inr ⟨ow',B,cs',es',j2,j3,j4,λp t' e1 e2=>?_⟩);obtain⟨j6,j7⟩:=j5 p t' e1 e2;have:=FE ks (k+1) _ _ _ j7;obtain⟨l3,l4⟩:=lift (B+p) (by omega);rw[l3,l4];exact⟨j6,j7⟩
    | _=>simp[ZB]at hk
def zkM{ks:List kB}{ats:List Ty}{as:List V}{x:gB ats}(YX:ZB ks ats=true)(hd:nD ats as=some x)(hh:pB w0 outer own ρ (BA ks 0 as) w)(wW:∀q,BA ks 0 as q=none→ρ q=none):
  ∃ρ2,pB w0 outer own ρ2 (BA ks 0 (cB ats x)) w∧(∀u d,VR w ρ (qA outer ρ (BA ks 0 as)) u d→VR w ρ2 (qA outer ρ2 (BA ks 0 (cB ats x))) u d)∧
   (∀q ri,ρ q=some ri→ρ2 q=some ri)∧(∀q,128 *ks.length≤q→ρ2 q=none)∧∀q row,BA ks 0 as q=none→BA ks 0 (cB ats x) q=some row→ρ2 q=some ⟨0,0,0,true⟩:=by
 have hEE:∀q row,BA ks 0 as q=none→BA ks 0 (cB ats x) q=some row→ρ q=none:=λq _ h _=>wW q h;obtain⟨r1,r2⟩:=zvg ks ats as x 0 YX hd;generalize hE:BA ks 0 as=h at *;generalize hE2:BA ks 0 (cB ats x)=h2 at *
 let ρ2:Nat→Option RI:=λq=>match ρ q with
  | some ri=>some ri
  | none=>if(h2 q).isSome=true then some ⟨0,0,0,true⟩else none
 have e1:∀q ri,ρ q=some ri→ρ2 q=some ri:=λq ri hq=>by simp only[ρ2,hq]
 have e2:∀q row,ρ q=none→h2 q=some row→ρ2 q=some ⟨0,0,0,true⟩:=λq row hq hr=>by simp only[ρ2,hq,hr];rfl
 have e3:∀q,ρ q=none→h2 q=none→ρ2 q=none:=λq hq hr=>by simp only[ρ2,hq,hr];rfl
 have YV:∀b,qA outer ρ2 h2 b→qA outer ρ h b:=by
  rintro b (hb|⟨q,row,ri,f1,f2,f3,f4,f5⟩)
  ·exact .inl hb
  ·rcases(r2 q row f1).2 with g | ⟨g,_⟩ | ⟨ow,B,cs,es,g,_⟩
   ·obtain⟨ri',k1,_⟩:=hh.rows q _ g;rw[e1 _ _ k1]at f3;cases f3;exact .inr ⟨q,row,_,g,f2,k1,f4,f5⟩
   ·rw[e2 q row (wW q g) f1]at f3;cases f3;cases f4
   ·obtain⟨ri',k1,_⟩:=hh.rows q _ g;rw[e1 _ _ k1]at f3;cases f3;exact .inr ⟨q,_,_,g,rfl,k1,f4,f5⟩
 have hk:∀u d,VR w ρ (qA outer ρ h) u d→VR w ρ2 (qA outer ρ2 h2) u d:=λu d hu=>hu.mono e1 (λ_ _ _=>rfl) λb hb=> .inl (YV b hb)
 have DZ:∀q row' ri,h2 q=some row'→ρ2 q=some ri→ri.nl=false→∃row,h q=some row∧ρ q=some ri:=λq row' ri f1 f3 f4=>by
  rcases(r2 q row' f1).2 with g|⟨g,_⟩|⟨ow,B,cs,es,g,_⟩
  ·obtain⟨ri',k1,_⟩:=hh.rows q _ g;rw[e1 _ _ k1]at f3;cases f3;exact⟨_,g,k1⟩
  ·rw[e2 q row' (wW q g) f1]at f3;cases f3;cases f4
  ·obtain⟨ri',k1,_⟩:=hh.rows q _ g;rw[e1 _ _ k1]at f3;cases f3;exact⟨_,g,k1⟩
 refine⟨ρ2,⟨hh.wx,hh.old,hh.outLt,λr row' hr=>?_,λq q' row row' qi qi' h1 h2 h3 h4 h5 h6 h7=>?_⟩,hk,e1,λq hq=>?_,λq row h1 h2=>e2 q row (wW q h1) h2⟩
 ·rcases(r2 r row' hr).2 with g | ⟨g,t,rfl⟩ | ⟨ow,B,cs,es,g,rfl,g2,g3⟩
  ·obtain⟨ri,k1,k2,k3⟩:=hh.rows r _ g;exact⟨ri,e1 _ _ k1,k2.keep (λ_=>rfl) hk,k3⟩
  ·exact⟨⟨0,0,0,true⟩,e2 r _ (wW r g) hr,⟨rfl, .inl ⟨rfl,rfl⟩⟩,λhn=>by cases hn⟩
  ·obtain⟨ri,k1,k2,k3⟩:=hh.rows r _ g;refine⟨ri,e1 _ _ k1,⟨k2.1,λj hj=>?_⟩,k3⟩;have hl:(OA ow B 0 es).length=(OA ow B 0 cs).length:=by rw[wE,wE,g2.len]
   obtain⟨f1,u,f2,f3⟩:=k2.2 j (by rw[←hl];exact hj);refine⟨f1,u,f2,?_⟩
   have:=zco (w:=w) (ρ:=ρ) ow B hk cs es 0 (λj=>(w.cell? (at_ ri.b j)).getD undef) g2 (λq t _ h5 h6=>by
    obtain⟨g4,g5⟩:=g3 q t h5 h6;exact e2 _ _ (wW _ g4) g5) (λj hj=>by
    obtain⟨_,u,f2,f3⟩:=k2.2 j hj;rw[f2];exact f3) j hj
   rw[f2]at this;exact this
 ·obtain⟨_,g1,g2⟩:=DZ _ _ _ h1 h3 h5;obtain⟨_,g3,g4⟩:=DZ _ _ _ h2 h4 h6;exact hh.inj q q' _ _ qi qi' g1 g3 g2 g4 h5 h6 h7
 ·refine e3 q (wW q ?_) ?_
  ·cases L2:h q with
   | none=>rfl
   | some row=>have:=r1 q row L2;omega
  ·cases L2:h2 q with
   | none=>rfl
   | some row=>have:=(r2 q row L2).1;omega
end
end Go.D
namespace Go.D
variable [iA]
section
variable {C:Cx} {w0:World} {outer own D:Nat→Prop} {R:Type} {st st1 st2:St} {ρ ρ1 ρ2:Nat→Option RI} {a a1 a2:Act} {w w1 w2:World} {j:JI}
omit [iA]in
def zb8{α:Type}(l m:List α)(i:Nat)(d:α)(h:i<l.length):(l++m).getD i d=l.getD i d:=by
 rw[List.getD_eq_getElem?_getD,List.getD_eq_getElem?_getD,List.getElem?_append_left h]
omit [iA]in
def zcc{α:Type}(l m:List α)(i:Nat)(d:α)(h:l.length≤i):(l++m).getD i d=m.getD (i - l.length) d:=by
 rw[List.getD_eq_getElem?_getD,List.getD_eq_getElem?_getD,List.getElem?_append_right h]
inductive EJ:List (Bool×Nat)→List Value→List Value→Prop
 | nil:EJ [] [] []
 | agg {n:Nat} {sh:List (Bool×Nat)} {rv cells:List Value} (vs:Array Value) (h:vs.size=n) (hr:EJ sh rv cells):EJ ((true,n) :: sh) (.agg vs :: rv) (vs.toList++cells)
 | one {sh:List (Bool×Nat)} {rv cells:List Value} (v:Value) (hr:EJ sh rv cells):EJ ((false,1) :: sh) (v :: rv) (v :: cells)
omit [iA]in
def EJ.len{sh:List (Bool×Nat)}{rv cells:List Value}(h:EJ sh rv cells):DL sh=cells.length∧rv.length=sh.length:=by
 induction h with
 | nil=>exact⟨rfl,rfl⟩
 | agg vs h hr ih=>simp only[DL,List.map_cons,List.sum_cons,List.length_append,Array.length_toList,List.length_cons]at ih⊢;omega
 | one v hr ih=>simp only[DL,List.map_cons,List.sum_cons,List.length_cons]at ih⊢;omega
def ztT{bad:Nat→Prop}{sh:List (Bool×Nat)}{rv cells:List Value}(h:EJ sh rv cells):∀X:List V,cells.length≤X.length→(∀j (hj:j<X.length),j<cells.length→VR w ρ bad (cells.getD j undef) X[j])→
  (RE sh X).length=rv.length∧∀i (hi:i<(RE sh X).length),VR w ρ bad (rv.getD i undef) (RE sh X)[i]:=by
 induction h with
 | nil=>intro X _ _;exact⟨rfl,λi hi=>by simp[RE]at hi⟩
 | agg vs KV hr ih=>
  rename_i n sh rv cells;intro X hX hv;simp only[List.length_append,Array.length_toList]at hX
  obtain⟨h1,h2⟩:=ih (X.drop n) (by simp;omega) (λj hj GW=>by
   have:=hv (n+j) (by simp at hj;omega) (by simp;omega);rw[List.getElem_drop];rw[zcc _ _ _ _ (by simp;omega)]at this;simpa[KV]using this)
  refine⟨by simp[RE,h1],λi hi=>?_⟩;cases i with
  | zero=>
   show VR w ρ bad (.agg vs) (.agg (X.take n))
   refine .agg _ _ (by simp;omega) λj hj=>?_;have O9:j<n:=by simp at hj;omega
   have:=hv j (by simp at hj;omega) (by simp;omega);rw[zb8 _ _ _ _ (by simp;omega)]at this;rw[List.getElem_take];rw[Array.getD_eq_getD_getElem?];rw[List.getD_eq_getElem?_getD]at this;simpa using this
  | succ i=>exact h2 i (by simpa[RE]using hi)
 | one v hr ih=>
  rename_i sh rv cells;intro X hX hv;cases X with
  | nil=>simp at hX
  | cons x X=>
   simp only[List.length_cons]at hX;obtain⟨h1,h2⟩:=ih X (by omega) (λj hj GW=>hv (j+1) (by simp;omega) (by simp;omega));refine⟨by simp[RE,h1],λi hi=>?_⟩;cases i with
   | zero=>exact hv 0 (by simp) (by simp)
   | succ i=>exact h2 i (by simpa[RE]using hi)
omit [iA]in
def zub{sh:List (Bool×Nat)}{X:List V}{v:V}(h:RE sh X=[v]):MI sh X=v:=by simp[MI,h]
omit [iA]in
def ztB{sh:List (Bool×Nat)}{X:List V}(h:∀v,RE sh X≠[v]):MI sh X= .tup (RE sh X):=by
 unfold MI;split
 ·rename_i v hv;exact absurd hv (h v)
 ·rfl
def zvx{bad:Nat→Prop}{sh:List (Bool×Nat)}{rv cells:List Value}(h:EJ sh rv cells){X:List V}(hX:cells.length≤X.length)(hv:∀j (hj:j<X.length),j<cells.length→VR w ρ bad (cells.getD j undef) X[j]):
  VR w ρ bad (if h:rv.toArray.size=1 then rv.toArray[0]else .tuple rv.toArray) (MI sh X):=by
 obtain⟨h1,h2⟩:=ztT h X hX hv
 by_cases hY:∃v,RE sh X=[v]
 ·obtain⟨v,hY⟩:=hY;rw[zub hY];rw[hY]at h1;have hl:rv.toArray.size=1:=by simpa using h1.symm
  rw[dif_pos hl];have h3:=h2 0 (by rw[hY];simp);simp only[hY,List.getElem_cons_zero]at h3;rw[List.getD_eq_getElem?_getD,List.getElem?_eq_getElem (by simp at hl;omega)]at h3;simpa using h3
 ·have hl:¬rv.toArray.size=1:=λhl=>by
   have ZZ:(RE sh X).length=1:=by rw[h1];simpa using hl
   exact hY (List.length_eq_one_iff.1 ZZ)
  rw[dif_neg hl,ztB λv hv=>hY ⟨v,hv⟩];refine .tup _ _ (by simp[h1]) λi hi=>?_;have:=h2 i hi;rw[Array.getD_eq_getD_getElem?];rw[List.getD_eq_getElem?_getD]at this;simpa using this
omit [iA]in
def zf7{α β:Type}{P:Program}{w:World}(f:α→Sem β):∀(l:List α) (r:List β),l.length=r.length→(∀i (hi:i<l.length) (hr:i<r.length),(f l[i]).run P w= .ok r[i] w)→(l.mapM f).run P w= .ok r w
 | [],[],_,_=>by simp
 | [],_ :: _,h,_=>by simp at h
 | _ :: _,[],h,_=>by simp at h
 | x :: l,y :: r,h,hf=>by
  have h0:=hf 0 (by simp) (by simp);simp only[List.getElem_cons_zero]at h0;have h1:=zf7 f l r (by simpa using h) (λi hi hr=>hf (i+1) (by simp;omega) (by simp;omega));simp[List.mapM_cons,h0,h1,Result.andThen]
def QL(tmps:Array Value):ResultVar→Sem Value
 | .tmp t=>pure (tmps.getD t undef)
 | .cell x t=>do loadVar t (←asAddr (tmps.getD x undef))
def zdx(hr:bB C w0 outer own ρ st a w):∀(rs:List ResultVar) (sh:List (Bool×Nat)) (vs:List V),FH C.P st rs sh=some vs→
  ∃rv cells,EJ sh rv cells∧rs.length=rv.length∧cells.length=vs.length∧(∀j (hj:j<vs.length),VR w ρ (qA outer ρ st.h) (cells.getD j undef) vs[j])∧
   ∀i (hi:i<rs.length) (h2:i<rv.length),(QL a.tmps rs[i]).run C.P w= .ok rv[i] w
 | [],[],vs,h=>by
  simp only[FH,Option.some.injEq]at h;subst h;exact⟨[],[], .nil,rfl,rfl,λj hj=>by simp at hj,λi hi=>by simp at hi⟩
 | [],_ :: _,vs,h=>by simp[FH]at h
 | .tmp t :: _,[],vs,h=>by simp[FH]at h
 | .cell .. :: _,[],vs,h=>by simp[FH]at h
 | .tmp t :: rs,(ag,n) :: sh,vs,h=>by
  simp only[FH]at h;have hv:=hr.slots t;split at h
  ·rename_i cs us hs V6;cases hb:(ag&&Nat.beq n cs.length)
   case false=>simp[hb]at h
   simp only[hb,cond_true,Option.some.injEq]at h;subst h;simp only[Bool.and_eq_true]at hb;obtain⟨rfl,hn⟩:=hb;have hn:=Nat.eq_of_beq_eq_true hn;obtain⟨rv,cells,h1,h2,h3,h4,h5⟩:=zdx hr rs sh us V6;rw[hs]at hv;generalize hA:a.tmps.getD t undef=A at hv;cases hv with
   | agg _ vs KV rX=>
   refine⟨.agg vs :: rv,vs.toList++cells, .agg vs (by omega) h1,by simp[h2],by simp[h3,KV],λj hj=>?_,λi hi hi2=>?_⟩
   ·by_cases QW:j<cs.length
    ·rw[List.getElem_append_left QW,zb8 _ _ _ _ (by simp;omega)];have:=rX j QW;rw[Array.getD_eq_getD_getElem?]at this;rw[List.getD_eq_getElem?_getD];simpa using this
    ·have GW:j - cs.length<us.length:=by simp at hj;omega
     rw[List.getElem_append_right (by omega),zcc _ _ _ _ (by simp;omega)];have:=h4 _ GW;simpa[KV]using this
   ·cases i with
    | zero=>simp only[List.getElem_cons_zero,QL,hA];rfl
    | succ i=>exact h5 i (by simpa using hi) (by simpa using hi2)
  ·rename_i us V6 HW;cases hb:(!ag&&Nat.beq n 1&&(st.s t).leaf)
   case false=>simp[hb]at h
   simp only[hb,cond_true,Option.some.injEq]at h;subst h;simp only[Bool.and_eq_true,Bool.not_eq_true']at hb;obtain⟨⟨rfl,hn⟩,hlf⟩:=hb;have hn:=Nat.eq_of_beq_eq_true hn;subst hn;obtain⟨rv,cells,h1,h2,h3,h4,h5⟩:=zdx hr rs sh us V6;refine⟨a.tmps.getD t undef :: rv,a.tmps.getD t undef :: cells, .one _ h1,by simp[h2],by simp[h3],λj hj=>?_,λi hi hi2=>?_⟩
   ·cases j with
    | zero=>exact hv
    | succ j=>exact h4 j (by simpa using hj)
   ·cases i with
    | zero=>rfl
    | succ i=>exact h5 i (by simpa using hi) (by simpa using hi2)
  ·cases h
 | .cell x t :: rs,(ag,n) :: sh,vs,h=>by
  simp only[FH]at h;have hv:=hr.slots x;split at h
  case h_2=>cases h
  rename_i b us ag' n' hs V6 iW KV;split at h
  case h_2=>cases h
  rename_i cs m AV;cases hb:((ag==ag')&&Nat.beq n n'&&Nat.beq n cs.length&&(ag||Nat.beq n 1))
  case false=>simp[hb]at h
  simp only[hb,cond_true,Option.some.injEq]at h;subst h;simp only[Bool.and_eq_true,beq_iff_eq]at hb;obtain⟨⟨⟨rfl,h1⟩,h2⟩,h3⟩:=hb;have h1:=Nat.eq_of_beq_eq_true h1;have h2:=Nat.eq_of_beq_eq_true h2;subst h1;obtain⟨rv,cells,k1,k2,k3,k4,k5⟩:=zdx hr rs sh us V6;rw[hs]at hv;obtain⟨ri,hρ,JV,_⟩:=hr.heap.rows _ _ AV;obtain⟨e1,e2⟩:=zfY hρ JV hv
  have FV:vG ag n cs 0 some=some (if ag then .agg cs else cs.getD 0 .undef):=by
   unfold vG;cases ag with
   | true=>
    have:Nat.ble (0+n) cs.length=true:=Nat.ble_eq_true_of_le (by omega);simp only[VC,this,if_true,List.drop_zero];rw[List.take_of_length_le (by omega)]
   | false=>
    simp only[Bool.false_or]at h3;have:=Nat.eq_of_beq_eq_true h3
    match cs,h2 with
    | [c],_=>rfl
    | [],h2=>simp at h2;omega
    | _ :: _ :: _,h2=>simp at h2;omega
  obtain⟨d,v,g1,g2,g3⟩:=zlG (K:=some) iW KV e2 FV;have g1:d=if ag then V.agg cs else cs.getD 0 .undef:=Option.some.inj g1
  subst g1
  have zV:(QL a.tmps (.cell x t)).run C.P w= .ok v w:=by
   simp only[QL,e1,asAddr,Sem.run_bind,Sem.run_pure,Result.andThen_ok];exact g3
  cases ag with
  | true=>
   simp only[if_true]at g2;cases g2 with
   | agg _ vs W6 rX=>
   refine⟨.agg vs :: rv,vs.toList++cells, .agg vs (by omega) k1,by simp[k2],by simp[k3,W6],λj hj=>?_,λi hi hi2=>?_⟩
   ·by_cases QW:j<cs.length
    ·rw[List.getElem_append_left QW,zb8 _ _ _ _ (by simp;omega)];have:=rX j QW;rw[Array.getD_eq_getD_getElem?]at this;rw[List.getD_eq_getElem?_getD];simpa using this
    ·have GW:j - cs.length<us.length:=by simp at hj;omega
     rw[List.getElem_append_right (by omega),zcc _ _ _ _ (by simp;omega)];have:=k4 _ GW;simpa[W6]using this
   ·cases i with
    | zero=>exact zV
    | succ i=>exact k5 i (by simpa using hi) (by simpa using hi2)
  | false=>
   simp only[Bool.false_or]at h3;have h3:=Nat.eq_of_beq_eq_true h3;subst h3
   match cs,h2 with
   | [c],_=>
    simp only[Bool.false_eq_true,if_false]at g2;refine⟨v :: rv,v :: cells, .one v k1,by simp[k2],by simp[k3],λj hj=>?_,λi hi hi2=>?_⟩
    ·cases j with
     | zero=>exact g2
     | succ j=>exact k4 j (by simpa using hj)
    ·cases i with
     | zero=>exact zV
     | succ i=>exact k5 i (by simpa using hi) (by simpa using hi2)
   | [],h2=>simp at h2
   | _ :: _ :: _,h2=>simp at h2
def zr7(hr:bB C w0 outer own ρ st a w){fn:Func}{sh:List (Bool×Nat)}{vs:List V}(h:FH C.P st fn.results.toList sh=some vs):
  ∃rv cells,EJ sh rv cells∧cells.length=vs.length∧(∀j (hj:j<vs.length),VR w ρ (qA outer ρ st.h) (cells.getD j undef) vs[j])∧
   (results fn a.tmps).run C.P w= .ok (if h:rv.toArray.size=1 then rv.toArray[0]else .tuple rv.toArray) w:=by
 obtain⟨rv,cells,h1,h2,h3,h4,h5⟩:=zdx hr _ _ _ h;refine⟨rv,cells,h1,h3,h4,?_⟩;have:=zf7 (P:=C.P) (w:=w) (QL a.tmps) fn.results.toList rv h2 h5;show((do let vs ←fn.results.mapM (QL a.tmps);pure (if h:vs.size=1 then vs[0]else .tuple vs)):Sem Value).run C.P w=_
 rw[Array.mapM_eq_mapM_toList];simp only[Sem.run_bind,Sem.run_map,this,Result.andThen_ok,Sem.run_pure]
end
end Go.D
namespace Go.D
variable [iA]
inductive Bd:V→Prop where
 | undef:Bd .undef
 | bool (b:Bool):Bd (.bool b)
 | int (k:IntKind) (n:Int) (h:uE k n):Bd (.int k n)
 | str (s:List UInt8) (h:s.length≤maxLen):Bd (.str s)
 | nil:Bd .nil
 | sl (t:TN) (l:List (El t)) (h:l.length≤maxLen) (hv:∀i (h:i<l.length) j,j<sz t→Bd ((enc t l[i]).getD j .undef)):Bd (.sl t l)
 | ow (r:Nat):Bd (.ow r)
 | ov (r:Nat) (t:TN) (off len:Nat):Bd (.ov r t off len)
 | bp (r off:Nat):Bd (.bp r off)
 | ep (r:Nat) (t:TN) (i off:Nat):Bd (.ep r t i off)
 | fp (cs:List V) (off:Nat) (h:∀j (h:j<cs.length),Bd cs[j]):Bd (.fp cs off)
 | fn (f:Nat) (cs:List V) (h:∀j (h:j<cs.length),Bd cs[j]):Bd (.fn f cs)
 | agg (cs:List V) (h:∀j (h:j<cs.length),Bd cs[j]):Bd (.agg cs)
 | tup (cs:List V) (h:∀j (h:j<cs.length),Bd cs[j]):Bd (.tup cs)
 | nili:Bd .nili
 | ifc (b:Bool):Bd (.ifc b)
section
variable {w:World} {ρ:Nat→Option RI} {bad:Nat→Prop} {v:Value} {d:V}
def VR.bd(h:VR w ρ bad v d):Bd d:=by
 induction h with
 | undef=>exact .undef
 | bool=>exact .bool _
 | int _ _ h=>exact .int _ _ h
 | str _ h=>exact .str _ h
 | nil=>exact .nil
 | slE=>exact .sl _ _ (Nat.zero_le _) (λi h=>by simp at h)
 | slC t l b off cap u hb hl hc he hu hv ih=>exact .sl _ _ (Nat.le_trans hl hc) ih
 | ow=>exact .ow _
 | owN=>exact .ow _
 | ov=>exact .ov _ _ _ _
 | bp=>exact .bp _ _
 | ep=>exact .ep _ _ _ _
 | fp cs off b o u h0 hb hu hv ih=>exact .fp _ _ ih
 | fn f cs caps hs hv ih=>exact .fn _ _ ih
 | agg cs vs hs hv ih=>exact .agg _ ih
 | tup cs vs hs hv ih=>exact .tup _ ih
 | nili=>exact .nili
 | ifc=>exact .ifc _
 | ifn=>exact .ifc _
def TI(t:TN)(x:El t):Prop:=∀j,j<sz t→Bd ((enc t x).getD j .undef)
def bdl(t:TN)(l:List (El t)):Prop:=l.length≤maxLen∧∀x∈l,TI t x
omit [iA]in
def Bd.list{t:TN}{l:List (El t)}(h:Bd (.sl t l)):bdl t l:=by
 cases h with
 | sl _ _ h hv=>
  refine⟨h,λx hx j hj=>?_⟩;obtain⟨i,hi,rfl⟩:=List.mem_iff_getElem.1 hx;exact hv i hi j hj
omit [iA]in
def Bd.len{s:List UInt8}(h:Bd (.str s)):s.length≤maxLen:=by cases h;assumption
omit [iA]in
def Bd.fits{k:IntKind}{n:Int}(h:Bd (.int k n)):uE k n:=by cases h;assumption
omit [iA]in
def zln(t:TN)(h:t.isAgg=false)(x:El t):∃c,enc t x=[c]:=by cases t<;>first|exact⟨_,rfl⟩|simp[TN.isAgg]at h
def zhi:(t:Ty)→t.T→Prop
 | .v t,x=>TI t x
 | .sl t,l=>bdl t l
 | .raw,v=>Bd v
 | .cells t,x=>TI t x
 | .pt t,x=>TI t x
 | .c1 _ t,x=>TI t x
 | .p1 _ t,x=>TI t x
 | .c2 _ _ t,x=>TI t x.1∧TI t x.2
omit [iA]in
def zau{t:TN}{x:El t}(h:Bd (.fp (enc t x) 0)):TI t x:=λj hj=>by
 have GW:j<(enc t x).length:=by rw[cD];exact hj
 rw[List.getD_eq_getElem?_getD,List.getElem?_eq_getElem GW];cases h with
 | fp _ _ h=>exact h j GW
omit [iA]in
def zdw{g:Nat}{c:V}{r:List V}(h:Bd (.fn g (c :: r))):Bd c:=by
 cases h with
 | fn _ _ h=>exact h 0 (by simp)
omit [iA]in
def zw3{g:Nat}{c d:V}(h:Bd (.fn g [c,d])):Bd d:=by
 cases h with
 | fn _ _ h=>exact h 1 (by simp)
omit [iA]in
def zlY{c:V}(h:Bd (.fp [c] 0)):Bd c:=by
 cases h with
 | fp _ _ h=>exact h 0 (by simp)
def vA:(ts:List Ty)→gB ts→Prop
 | [],_=>True
 | [t],x=>zhi t x
 | t :: d :: r,x=>zhi t x.1∧vA (d :: r) x.2
omit [iA]in
def zlq{t:Ty}{x:t.T}(h:Bd (zC t x)):zhi t x:=by
 cases t with
 | v t=>
  intro j hj;simp only[zC,IK]at h;have GW:j<(enc t x).length:=by rw[cD];exact hj
  cases iW:t.isAgg
  ·simp only[iW,cond_false]at h;have KV:sz t=1:=by cases t<;>first | rfl | simp[TN.isAgg]at iW
   obtain⟨c,hc⟩:=zln t iW x;simp only[hc]at h⊢;have:j=0:=by omega
   subst this;exact h
  ·simp only[iW,cond_true]at h;rw[List.getD_eq_getElem?_getD,List.getElem?_eq_getElem GW];cases h with
   | agg _ h=>exact h j GW
 | sl t=>exact Bd.list h
 | raw=>exact h
 | cells t=>
  intro j hj;have GW:j<(enc t x).length:=by rw[cD];exact hj
  rw[List.getD_eq_getElem?_getD,List.getElem?_eq_getElem GW];cases h with
  | agg _ h=>exact h j GW
 | pt t=>exact zau h
 | c1 g t=>exact zau (zdw h)
 | p1 g t=>exact zau (zdw (zlY h))
 | c2 g h' t=>exact⟨zau (zdw (zlY (zdw h))),zau (zw3 h)⟩
omit [iA]in
def zfS:∀(ts:List Ty) (x:gB ts),(∀v∈cB ts x,Bd v)→vA ts x
 | [],x,h=>trivial
 | [t],x,h=>zlq (h _ (by simp[cB]))
 | t :: d :: r,x,h=>⟨zlq (h _ (by simp[cB])),zfS (d :: r) x.2 λv hv=>h v (by simp[cB,hv])⟩
omit [iA]in
def zs0{t:Ty}{ats:List Ty}(x:gB (t :: ats)):∃(x0:t.T) (y:gB ats),cB (t :: ats) x=zC t x0 :: cB ats y:=by
 cases ats with
 | nil=>exact⟨x,(),rfl⟩
 | cons d r=>exact⟨x.1,x.2,rfl⟩
def zgM{outer own:Nat→Prop}{w0:World}{h:Nat→Option rA}(hh:pB w0 outer own ρ h w){r:Nat}{t:TN}{l:List (El t)}{m:qH}(hr:h r=some ⟨.arr t l,m⟩):Bd (.sl t l):=by
 obtain⟨ri,_,⟨hn,ho⟩,_⟩:=hh.rows r _ hr
 rcases ho with⟨_,rfl⟩|⟨_,_,h1,h2,_,h3⟩
 ·exact .sl _ _ (Nat.zero_le _) λi h=>by simp at h
 ·refine .sl _ _ (by omega) λi hi j hj=>?_;obtain⟨u,_,h4⟩:=h3 i hi j hj;exact h4.bd
omit [iA]in
def zgu(ow:List Nat)(B:Nat):∀(es:List V) (p:Nat),(∀j (hj:j<(OA ow B p es).length),Bd (OA ow B p es)[j])→(∀q t l,aB ow B (λ_=>none) p es q=some ⟨.arr t l, .own⟩→Bd (.sl t l))→∀j (hj:j<es.length),Bd es[j]
 | [],p,hv,hr,j,hj=>by simp at hj
 | e :: es,p,hv,hr,j,hj=>by
  have hd:∃e',OA ow B p (e :: es)=e' :: OA ow B (p+1) es:=by cases e<;>exact⟨_,rfl⟩
  obtain⟨e',gX⟩:=hd
  have M1:∀j (hj:j<(e' :: OA ow B (p+1) es).length),Bd (e' :: OA ow B (p+1) es)[j]:=λj hj=>by
   have:=hv j (by rw[gX];exact hj);simpa only[gX]using this
  cases j with
  | succ j=>
   refine zgu ow B es (p+1) (λj hj=>by have:=M1 (j+1) (by simp;omega);simpa using this) (λq t l hq=>?_) j (by simpa using hj);obtain⟨_,_,_,h1,_⟩:=SD _ _ _ _ _ _ hq;refine hr q t l ?_;have:=zbF ow B e es p (q - B) (by omega);rw[show B+(q - B)=q by omega]at this;rw[this];exact hq
  | zero=>
   have h0:=M1 0 (by simp);simp only[List.getElem_cons_zero]at h0⊢;have h1:=congrArg List.head? gX;cases e<;>simp only[OA,List.head?_cons,Option.some.injEq]at h1<;>try (subst h1;exact h0)
   rename_i t l;cases hb:ow.any (Nat.beq p)
   ·simp only[hb,cond_false]at h1;subst h1;exact h0
   ·exact hr (B+p) t l (by simp only[aB,hb,cond_true,MA])
def zmb{outer own:Nat→Prop}{w0:World}{h:Nat→Option rA}(hh:pB w0 outer own ρ h w):∀(ks:List kB) (ats:List Ty) (x:gB ats) (k:Nat) (u:Nat→Value),ZB ks ats=true→
  (∀q row,BA ks k (cB ats x) q=some row→h q=some row)→
  (∀j (hj:j<(sB ks k (cB ats x)).length),VR w ρ (qA outer ρ h) (u j) (sB ks k (cB ats x))[j])→∀v∈cB ats x,Bd v:=by
 intro ks;induction ks with
 | nil=>
  intro ats x k u hk hE hS v hv;cases ats with
  | nil=>simp[cB]at hv
  | cons=>simp[ZB]at hk
 | cons g ks ih=>
  intro ats x k u hk hE hS v hv;cases ats with
  | nil=>cases g<;>simp[ZB]at hk
  | cons t ats=>
   obtain⟨x0,y,he⟩:=zs0 x;rw[he]at hE hS hv;cases g with
   | plain=>
    simp only[ZB]at hk
    rcases List.mem_cons.1 hv with rfl|hv
    ·exact(hS 0 (by simp[sB])).bd
    ·exact ih ats y (k+1) (λj=>u (j+1)) hk (λq row hq=>hE q row (by simpa only[BA]using hq)) (λj hj=>hS (j+1) (by simp[sB];omega)) v hv
   | mv ow=>
    cases t with
    | v t=>
     simp only[ZB,Bool.and_eq_true]at hk;obtain⟨⟨iW,KV⟩,hk⟩:=hk;have KV:=Nat.le_of_ble_eq_true KV;have J2:zC (.v t) x0= .agg (enc t x0):=by simp only[zC,IK,iW,cond_true]
     rw[J2]at hE hS hv;have fW:(enc t x0).length=sz t:=cD t x0
     rcases List.mem_cons.1 hv with rfl|hv
     ·have h0:=hS 0 (by simp[sB]);simp only[sB,List.getElem_cons_zero]at h0;generalize u 0=u0 at h0;cases h0 with
      | agg _ vsA hs rX=>
      refine .agg _ (zgu ow (128 *k) _ 0 (λj hj=>(rX j hj).bd) λq t' l hq=>?_);obtain⟨_,_,_,e1,e2⟩:=SD _ _ _ _ _ _ hq;refine zgM hh (hE q ⟨.arr t' l, .own⟩ ?_);simp only[BA];rw[BB,hq]
     ·refine ih ats y (k+1) (λj=>u (j+1)) hk (λq row hq=>hE q row ?_) (λj hj=>hS (j+1) (by simp[sB];omega)) v hv;have sX:=FE ks (k+1) _ q row hq;simp only[BA];rw[BB,PC _ _ _ _ _ (by omega)];exact hq
    | _=>simp[ZB]at hk
   | ms=>
    cases t with
    | sl t=>
     simp only[ZB]at hk;have J2:zC (.sl t) x0= .sl t x0:=rfl;rw[J2]at hE hS hv
     rcases List.mem_cons.1 hv with rfl|hv
     ·refine zgM hh (hE (128 *k) ⟨.arr t x0, .own⟩ ?_);simp only[BA,aB,List.any_cons,List.any_nil,Nat.beq,Bool.true_or,cond_true,Nat.add_zero];exact MA _ _ _
     ·refine ih ats y (k+1) (λj=>u (j+1)) hk (λq row hq=>hE q row ?_) (λj hj=>hS (j+1) (by simp[sB];omega)) v hv;have sX:=FE ks (k+1) _ q row hq;simp only[BA];rw[BB,PC _ _ _ _ _ (by simp;omega)];exact hq
    | _=>simp[ZB]at hk
   | ptr ow=>
    cases t with
    | cells t=>
     simp only[ZB,Bool.and_eq_true]at hk;obtain⟨KV,hk⟩:=hk;have KV:=Nat.le_of_ble_eq_true KV;simp only[zC]at hE hS hv;have fW:(enc t x0).length=sz t:=cD t x0;have AV:=hE (128 *k+127) _ (by simp only[BA];exact MA _ _ _)
     rcases List.mem_cons.1 hv with rfl|hv
     ·obtain⟨ri,_,JV,_⟩:=hh.rows _ _ AV;refine .agg _ (zgu ow (128 *k) _ 0 (λj hj=>?_) λq t' l hq=>?_)
      ·obtain⟨_,x,_,h2⟩:=JV.2 j hj;exact h2.bd
      ·obtain⟨_,_,_,e1,e2⟩:=SD _ _ _ _ _ _ hq;refine zgM hh (hE q ⟨.arr t' l, .own⟩ ?_);simp only[BA];rw[AA _ _ _ _ (by omega),BB,hq]
     ·refine ih ats y (k+1) (λj=>u (j+1)) hk (λq row hq=>hE q row ?_) (λj hj=>hS (j+1) (by simp[sB];omega)) v hv;have sX:=FE ks (k+1) _ q row hq;simp only[BA];rw[AA _ _ _ _ (by omega),BB,PC _ _ _ _ _ (by omega)];exact hq
    | _=>simp[ZB]at hk
end
end Go.D
namespace Go.D
variable [iA]
section
variable {C:Cx} {w0:World} {outer own D:Nat→Prop} {R:Type} {st st1 st2:St} {ρ ρ1 ρ2:Nat→Option RI} {a a1 a2:Act} {w w1 w2:World} {j:JI}
omit [iA]in
def zsV{t:Ty}{ats:List Ty}{as:List V}{x:gB (t :: ats)}(hd:nD (t :: ats) as=some x):
  ∃v vs y,as=v :: vs∧∃(x0:t.T),gE t v=some x0∧nD ats vs=some y∧cB (t :: ats) x=zC t x0 :: cB ats y:=by
 cases ats with
 | nil=>
  cases as with
  | nil=>simp[nD]at hd
  | cons v vs=>
   cases vs with
   | nil=>exact⟨v,[],(),rfl,x,by simpa[nD]using hd,rfl,rfl⟩
   | cons=>simp[nD]at hd
 | cons d r=>
  cases as with
  | nil=>simp[nD]at hd
  | cons v vs=>
   simp only[nD]at hd;obtain⟨x0,h1,h2⟩:=Option.bind_eq_some_iff.1 hd;obtain⟨y,h3,h4⟩:=Option.bind_eq_some_iff.1 h2;cases h4;exact⟨v,vs,y,rfl,x0,h1,h3,rfl⟩
omit [iA]in
def zqx:∀(ks:List kB) (ats:List Ty) (as:List V) (x:gB ats) (k:Nat),ZB ks ats=true→nD ats as=some x→
  (∀bs vs h,xB ks (cB ats x) bs vs h=xB ks as bs vs h)∧∀bs q b,jB ks k bs q=some b→∃row,BA ks k as q=some row:=by
 intro ks;induction ks with
 | nil=>
  intro ats as x k hk hd;cases ats with
  | nil=>cases as with
   | nil=>exact⟨λ_ _ _=>rfl,λbs q b h=>by simp[jB]at h⟩
   | cons=>simp[nD]at hd
  | cons=>simp[ZB]at hk
 | cons g ks ih=>
  intro ats as x k hk hd;cases ats with
  | nil=>cases g<;>simp[ZB]at hk
  | cons t ats=>
   obtain⟨v,vs,y,rfl,x0,h1,h3,h4⟩:=zsV hd;rw[h4];cases g with
   | plain=>
    simp only[ZB]at hk;obtain⟨e1,e2⟩:=ih ats vs y (k+1) hk h3;exact⟨λbs ws h=>e1 bs ws h,λbs q b h=>by simp only[jB]at h;exact e2 bs q b h⟩
   | mv ow=>
    cases t with
    | v t=>
     simp only[ZB,Bool.and_eq_true]at hk;obtain⟨⟨iW,KV⟩,hk⟩:=hk;have KV:=Nat.le_of_ble_eq_true KV;obtain⟨e1,e2⟩:=ih ats vs y (k+1) hk h3;simp only[gE]at h1;split at h1
     case h_2=>simp[iW]at h1
     rename_i cs;simp only[iW,cond_true]at h1;have fW:(enc t x0).length=sz t:=cD t x0;have A3:cs.length=sz t:=by rw[(IF t h1).len,fW]
     refine⟨λbs ws h=>e1 bs ws h,λbs q b h=>?_⟩;simp only[jB]at h;have sX:=(KE _ _ _ _ _ h).1;simp only[BA];rw[BB,PC _ _ _ _ _ (by omega)];exact e2 bs q b h
    | _=>simp[ZB]at hk
   | ms=>
    cases t with
    | sl t=>
     simp only[ZB]at hk;obtain⟨e1,e2⟩:=ih ats vs y (k+1) hk h3;refine⟨λbs ws h=>e1 bs ws h,λbs q b h=>?_⟩;simp only[jB]at h;have sX:=(KE _ _ _ _ _ h).1;simp only[BA];rw[BB,PC _ _ _ _ _ (by simp;omega)];exact e2 bs q b h
    | _=>simp[ZB]at hk
   | ptr ow=>
    cases t with
    | cells t=>
     simp only[ZB,Bool.and_eq_true]at hk;obtain⟨KV,hk⟩:=hk;have KV:=Nat.le_of_ble_eq_true KV;obtain⟨e1,e2⟩:=ih ats vs y (k+1) hk h3;simp only[gE]at h1;split at h1
     ·rename_i cs;have hl:=(IF t h1).len;refine⟨λbs ws h=>?_,λbs q b h=>?_⟩
      ·cases bs with
       | nil=>rfl
       | cons b bs=>simp only[zC,xB, ←hl,e1]
      ·cases bs with
       | nil=>simp[jB]at h
       | cons c bs=>
        simp only[jB]at h;simp only[BA]
        by_cases hq:q=128 *k+127
        ·subst hq;exact⟨_,MA _ _ _⟩
        ·rw[if_neg hq]at h;have sX:=(KE _ _ _ _ _ h).1;have fW:(enc t x0).length=sz t:=cD t x0;rw[AA _ _ _ _ hq,BB,PC _ _ _ _ _ (by omega)];exact e2 bs q b h
     ·cases h1
    | _=>simp[ZB]at hk
def ztQ(hh:pB w0 outer own ρ st.h w):∀(ks:List kB) (as:List V) (k:Nat) (us:List V),mF st ks as k=some us→
  ∃uc:Nat→Value,(∀j (hj:j<us.length),VR w ρ (qA outer ρ st.h) (uc j) us[j])∧
   ∀(bs:List Nat) (vs:List V) (h0:Nat→Option rA) (r:Nat) (row:rA),xB ks as bs vs h0 r=some row→h0 r=some row∨
    ∃q off n cs ri,jB ks k bs q=some r∧row=⟨.box ((vs.drop off).take n), .own⟩∧off+n≤us.length∧st.h q=some ⟨.box cs, .own⟩∧ρ q=some ri∧ri.nl=false∧
     ∀i,i<n→w.frozen? (at_ ri.b i)=false∧w.cell? (at_ ri.b i)=some (uc (off+i)):=by
 intro ks;induction ks with
 | nil=>
  intro as k us h;cases as with
  | nil=>
   simp only[mF,Option.some.injEq]at h;subst h;exact⟨λ_=>undef,λj hj=>by simp at hj,λbs vs h0 r row hr=> .inl (by simpa[xB]using hr)⟩
  | cons=>simp[mF]at h
 | cons g ks ih=>
  intro as k us h;cases g with
  | plain=>
   cases as with
   | nil=>simp[mF]at h
   | cons v as=>
    simp only[mF]at h;obtain⟨uc,h1,h2⟩:=ih as (k+1) us h;exact⟨uc,h1,λbs vs h0 r row hr=>by simp only[xB]at hr;simp only[jB];exact h2 bs vs h0 r row hr⟩
  | mv ow=>
   cases as with
   | nil=>simp[mF]at h
   | cons v as=>
    simp only[mF]at h;obtain⟨uc,h1,h2⟩:=ih as (k+1) us h;exact⟨uc,h1,λbs vs h0 r row hr=>by simp only[xB]at hr;simp only[jB];exact h2 bs vs h0 r row hr⟩
  | ms=>
   cases as with
   | nil=>simp[mF]at h
   | cons v as=>
    simp only[mF]at h;obtain⟨uc,h1,h2⟩:=ih as (k+1) us h;exact⟨uc,h1,λbs vs h0 r row hr=>by simp only[xB]at hr;simp only[jB];exact h2 bs vs h0 r row hr⟩
  | ptr ow=>
   cases as with
   | nil=>simp[mF]at h
   | cons v as=>
    cases v with
    | agg cs0=>
     simp only[mF]at h;split at h
     case h_2=>cases h
     rename_i cs us' AV R1;cases hb:Nat.beq cs.length cs0.length
     case false=>simp[hb]at h
     simp only[hb,cond_true,Option.some.injEq]at h;subst h;have hl:=Nat.eq_of_beq_eq_true hb;obtain⟨uc,h1,h2⟩:=ih as (k+1) us' R1;obtain⟨ri,hρ,JV,_⟩:=hh.rows _ _ AV;refine⟨λj=>if j<cs.length then(w.cell? (at_ ri.b j)).getD undef else uc (j - cs.length),λj hj=>?_,λbs vs h0 r row hr=>?_⟩
     ·dsimp only
      by_cases QW:j<cs.length
      ·rw[if_pos QW,List.getElem_append_left QW];obtain⟨_,u,f1,f2⟩:=JV.2 j QW;rw[f1];exact f2
      ·rw[if_neg QW,List.getElem_append_right (by omega)];exact h1 _ _
     ·cases bs with
      | nil=>exact .inl (by simpa[xB]using hr)
      | cons b bs=>
       simp only[xB]at hr
       by_cases hrb:r=b
       ·subst hrb;rw[MA]at hr;cases hr;refine .inr ⟨128 *k+127,0,cs0.length,cs,ri,by simp[jB],by simp,by simp;omega,AV,hρ,JV.1,λi hi=>?_⟩;obtain⟨f0,u,f1,f2⟩:=JV.2 i (by omega);refine⟨f0,?_⟩;dsimp only;rw[if_pos (by omega)];simp[f1]
       ·rw[AA _ _ _ _ hrb]at hr
        rcases h2 bs _ h0 r row hr with h3|⟨q,off,n,cs',ri',e1,e2,e3,e4,e5,e6,e7⟩
        ·exact .inl h3
        ·refine .inr ⟨q,cs0.length+off,n,cs',ri',?_,by rw[e2,List.drop_drop],by simp;omega,e4,e5,e6,λi hi=>?_⟩
         ·have:=(KE _ _ _ _ _ e1).1;simp only[jB];rw[if_neg (by omega)];exact e1
         ·obtain⟨g1,g2⟩:=e7 i hi;refine⟨g1,?_⟩;dsimp only;rw[g2,if_neg (by omega)];congr 2;omega
    | _=>simp[mF]at h
omit [iA]in
def zrn{h:Nat→Option rA}{v:V}{x:V×List Nat}(hf:QG h v=some x):∀r∈x.2,∃t l m,h r=some ⟨.arr t l,m⟩:=by
 unfold QG at hf;split at hf
 ·rename_i r;split at hf
  ·rename_i t l m hr;cases hm:m.isLock<;>simp[hm]at hf
   subst hf;intro q hq;simp at hq;subst hq;exact⟨_,_,_,hr⟩
  ·cases hf
 ·rename_i r t off len;split at hf
  ·rename_i t' l m hr;cases hm:m.isLock
   ·simp only[hm,cond_false]at hf;split at hf
    ·simp at hf;subst hf;intro q hq;simp at hq;subst hq;exact⟨_,_,_,hr⟩
    ·cases hf
   ·simp[hm]at hf
  ·cases hf
 ·cases hb:CG 8 v<;>simp[hb]at hf
  subst hf;simp
omit [iA]in
def dU(ow:List Nat):∀(cs:List V) (p:Nat) (h:Nat→Option rA) (x:List V×(Nat→Option rA)) (q:Nat) (c:List V),QD ow p cs h=some x→h q=some ⟨.box c, .own⟩→x.2 q=some ⟨.box c, .own⟩
 | [],p,h,x,q,c,ht,hq=>by simp[QD]at ht;subst ht;exact hq
 | v :: cs,p,h,x,q,c,ht,hq=>by
  simp only[QD]at ht;cases hb:ow.any (Nat.beq p)
  ·simp only[hb,cond_false]at ht;split at ht
   case h_2=>cases ht
   rename_i c' ids dZ;split at ht
   case h_2=>cases ht
   rename_i hr;cases ht;have hx:=dU ow cs _ _ _ q c hr;refine hx ?_;rw[DF,if_neg]
   ·exact hq
   ·intro hm;obtain⟨t,l,m,h3⟩:=zrn dZ q hm;rw[hq]at h3;cases h3
  ·simp only[hb,cond_true]at ht;split at ht
   ·split at ht
    case h_2=>cases ht
    rename_i AV;split at ht
    case h_2=>cases ht
    rename_i hr;cases ht;have hx:=dU ow cs _ _ _ q c hr;refine hx ?_;rw[AA _ _ _ _ (by rintro rfl;rw[AV]at hq;cases hq)];exact hq
   ·split at ht
    case h_2=>cases ht
    rename_i hr;cases ht;have hx:=dU ow cs _ _ _ q c hr;exact hx hq
   ·split at ht
    case h_2=>cases ht
    rename_i AV;split at ht
    case h_2=>cases ht
    rename_i hr;cases ht;have hx:=dU ow cs _ _ _ q c hr;refine hx ?_;rw[AA _ _ _ _ (by rintro rfl;rw[AV]at hq;cases hq)];exact hq
   ·cases ht
open Classical in
theorem zwI{fn:Func}{ks:List kB}{as:List V}{bs ow:List Nat}{base:Nat}{shape:List (Bool×Nat)}{rts:List Ty}{vs us rs:List V}{h2:Nat→Option rA}{r:gB rts}
  (hr:bB C w0 outer own ρ st a w) (hf:∀q,st.nx≤q→ρ q=none) (jX:FH C.P st fn.results.toList shape=some vs) (R1:mF st ks as 0=some us)
  (yW:QD ow 0 (vs++us) st.h=some (rs,h2)) (hun:uJ rts rs=some r) (DV:(rE rts r).length≤128) (U4:bs.Nodup) (u9:∀b∈bs,Out base 128 b):
  ∃v,(results fn a.tmps).run C.P w= .ok v w∧∃ρf,pB w0 outer own ρf (jF ks as bs ow base shape (rE rts r)) w∧
   VR w ρf (qA outer ρf (jF ks as bs ow base shape (rE rts r))) v (MI shape (OA ow base 0 (rE rts r)))∧
   (∀q b,jB ks 0 bs q=some b→ρf b=ρ q)∧(∀r,ρf r≠none→(base≤r∧r<base+128)∨r∈bs):=by
 obtain⟨rv,cells,k1,k2,k3,k4⟩:=zr7 hr jX;obtain⟨uc,u1,u2⟩:=ztQ hr.heap ks as 0 us R1;have dW:=zfo rts rs r hun;have X6:=MP ow _ _ _ _ yW;simp only at X6;generalize hR0:rE rts r=R0 at *;have hRl:R0.length=vs.length+us.length:=by rw[←dW.len,X6,List.length_append]
 have hsh:DL shape=vs.length:=by rw[k1.len.1,k2]
 let M:=st.nx;let u:Nat→Value:=λj=>if j<vs.length then cells.getD j undef else uc (j - vs.length)
 have hhn:∀q,st.nx≤q→st.h q=none:=λq hq=>by
  cases hg:st.h q with
  | none=>rfl
  | some row=>obtain⟨ri,h3,_⟩:=hr.heap.rows _ _ hg;rw[hf q hq]at h3;cases h3
 obtain⟨ρ2,g2,T,hTl⟩:=wS ow M 128 (vs++us) 0 st.h h2 rs R0 ρ st.h u yW dW (by rw[List.length_append];omega) hr.heap (λj hj=>by
   simp only[u]
   by_cases QW:j<vs.length
   ·rw[if_pos QW,List.getElem_append_left QW];exact k3 j QW
   ·rw[if_neg QW,List.getElem_append_right (by omega)];exact u1 _ (by simp at hj;omega)) (λ_ _ h=>h) (λq _=>hhn _ (by simp only[M];omega)) (λq _ _=>hf _ (by simp only[M];omega))
 let ρf:Nat→Option RI:=λr=>if base≤r∧r<base+128 then ρ2 (M+(r - base))else if h:∃q,jB ks 0 bs q=some r then ρ (Classical.choose h)else none
 let φ:Nat→Nat:=λr=>if base≤r∧r<base+128 then M+(r - base)else if h:∃q,jB ks 0 bs q=some r then Classical.choose h else 0
 have vY:∀q,q<128→ρf (base+q)=ρ2 (M+q)∧φ (base+q)=M+q:=λq hq=>by
  have h1:base≤base+q∧base+q<base+128:=by omega
  simp only[ρf,φ,if_pos h1];have:base+q - base=q:=by omega
  simp[this]
 have SZ:∀q b,jB ks 0 bs q=some b→ρf b=ρ q∧φ b=q:=λq b hq=>by
  have h1:¬(base≤b∧b<base+128):=u9 b (KE _ _ _ _ _ hq).2.2;have h2:∃q,jB ks 0 bs q=some b:=⟨q,hq⟩;have h3:Classical.choose h2=q:=AS ks 0 bs _ _ b U4 (Classical.choose_spec h2) hq;simp only[ρf,φ,if_neg h1,dif_pos h2,h3];exact⟨trivial,trivial⟩
 -- the rows
 have AV:∀q row,jF ks as bs ow base shape R0 q=some row→
   (∃p t l,p<128∧q=base+p∧row=⟨.arr t l, .own⟩∧g2 (M+p)=some row)∨
   ∃p off n cs ri,jB ks 0 bs p=some q∧row=⟨.box ((((OA ow base 0 R0).drop (DL shape)).drop off).take n), .own⟩∧off+n≤us.length∧g2 p=some ⟨.box cs, .own⟩∧ρ p=some ri∧ri.nl=false∧p<M∧
    ∀i,i<n→w.frozen? (at_ ri.b i)=false∧w.cell? (at_ ri.b i)=some (uc (off+i)):=λq row hq=>by
  rcases u2 bs _ _ q row hq with h1|⟨p,off,n,cs,ri,e1,e2,e3,e4,e5,e6,e7⟩
  ·obtain⟨t,l,h3,h4,h5⟩:=SD _ _ _ _ _ _ h1;refine .inl ⟨q - base,t,l,by omega,by omega,h3,?_⟩;rw[T.new (q - base) (by omega) (by omega), ←ER ow base M R0 0 (q - base),show base+(q - base)=q by omega];exact h1
  ·refine .inr ⟨p,off,n,cs,ri,e1,e2,e3,T.lies _ _ (dU ow _ _ _ _ p cs yW e4),e5,e6,?_,e7⟩
   rcases Nat.lt_or_ge p st.nx with h|h
   ·exact h
   ·rw[hf p h]at e5;cases e5
 have YV:∀b,qA outer ρf (jF ks as bs ow base shape R0) b→qA outer ρ2 g2 b:=by
  rintro b (hb|⟨q,row,ri,f1,f2,f3,f4,f5⟩)
  ·exact .inl hb
  ·rcases AV q row f1 with⟨p,t,l,h1,rfl,h3,h4⟩ | ⟨p,off,n,cs,ri',e1,e2,e3,e4,e5,e6,e7,e8⟩
   ·rw[(vY p h1).1]at f3;exact .inr ⟨_,row,ri,h4,f2,f3,f4,f5⟩
   ·rw[(SZ p q e1).1]at f3;exact .inr ⟨p,_,ri,e4,rfl,T.ext _ _ f3,f4,f5⟩
 have hX:∀j (hj:j<(OA ow base 0 R0).length),VR w ρf (qA outer ρf (jF ks as bs ow base shape R0)) (u j) (OA ow base 0 R0)[j]:=
  KR (w:=w) (ρ:=ρ2) (ρ2:=ρf) (bad:=qA outer ρ2 g2) (bad2:=qA outer ρf (jF ks as bs ow base shape R0)) ow M base R0 0 u (λq _ hq _ _=>(vY q (by omega)).1) (λj hj=>(T.closed j hj).1) YV T.vals
 refine⟨_,k4,ρf,?_,?_,λq b hq=>(SZ q b hq).1,λq hq=>?_⟩
 ·refine T.heap.sub φ T.heap.wx T.heap.old T.heap.outLt (λq row hq=>?_) (λq q' row row' h1 h2 h3=>?_)
  ·rcases AV q row hq with⟨p,t,l,h1,rfl,rfl,h4⟩ | ⟨p,off,n,cs,ri,e1,e2,e3,e4,e5,e6,e7,e8⟩
   ·obtain⟨ri,f1,f2,f3⟩:=T.heap.rows _ _ h4;exact⟨_,ri,by rw[(vY p h1).2];exact h4,by rw[(vY p h1).1];exact f1,by rw[(vY p h1).2];exact f1,za9 f2 YV ρf,λhn=>(f3 hn).1⟩
   ·obtain⟨ri',f1,f2,f3⟩:=T.heap.rows _ _ e4;rw[T.ext _ _ e5]at f1;cases f1;refine⟨_,ri,by rw[(SZ p q e1).2];exact e4,by rw[(SZ p q e1).1];exact e5,by rw[(SZ p q e1).2];exact T.ext _ _ e5,?_,λhn=>⟨(f3 hn).1.1,λ_=>(f3 hn).1.2 rfl⟩⟩;rw[e2];refine⟨e6,λi hi=>?_⟩
    have oW:i<n∧vs.length+off+i<(OA ow base 0 R0).length:=by
     simp only[List.length_take,List.length_drop]at hi;omega
    obtain⟨g3,g4⟩:=e8 i oW.1;refine⟨g3,_,g4,?_⟩;have h5:=hX (vs.length+(off+i)) (by omega);simp only[u]at h5;rw[if_neg (by omega),show vs.length+(off+i) - vs.length=off+i by omega]at h5;simp only[List.getElem_take,List.getElem_drop,hsh];exact h5
  ·rcases AV q row h1 with⟨p,t,l,f1,rfl,f3,f4⟩ | ⟨p,off,n,cs,ri,e1,e2,e3,e4,e5,e6,e7,e8⟩<;>
   rcases AV q' row' h2 with⟨p',t',l',f1',rfl,f3',f4'⟩|⟨p',off',n',cs',ri',e1',e2',e3',e4',e5',e6',e7',e8'⟩
   ·rw[(vY p f1).2,(vY p' f1').2]at h3;omega
   ·rw[(vY p f1).2,(SZ p' q' e1').2]at h3;omega
   ·rw[(SZ p q e1).2,(vY p' f1').2]at h3;omega
   ·rw[(SZ p q e1).2,(SZ p' q' e1').2]at h3;subst h3;rw[e1]at e1';exact Option.some.inj e1'
 ·refine zvx k1 (by rw[wE];omega) λj hj GW=>?_;have h5:=hX j hj;simp only[u]at h5;rw[if_pos (by omega)]at h5;exact h5
 ·by_cases h1:base≤q∧q<base+128
  ·exact .inl h1
  ·by_cases h2:∃p,jB ks 0 bs p=some q
   ·obtain⟨p,h2⟩:=h2;exact .inr (KE _ _ _ _ _ h2).2.2
   ·simp only[ρf,if_neg h1,dif_neg h2]at hq;exact absurd rfl hq
def zuo (hC : TF C) (hΦ : jG C) {f : Nat} {fn : Func} {body : Code} (hf : C.P.funcs[f]? = some fn) (hb : fn.body = some body) (xW : (fn.name == "runtime.NumGoroutine") = false)
  (hnt:C.nt=fn.ntmps) (an:An) (ks:List kB) (ow:List Nat) (shape:List (Bool×Nat)) (ats rts:List Ty) (F:gB ats→Option (gB rts))
  (YX:ZB ks ats=true) (L1:Nat.ble ks.length fn.ntmps=true)
  (v9:∀x r,vA ats x→F x=some r→zar C fn body an ks ow shape rts (cB ats x)=some r):
  vB C.P f ⟨ks,gB ats,gB rts,nD ats,F,rE rts,shape,ow,false⟩ C.g:=by
 intro w args as outer ownw ρ x r base bs KV LY hh AX wW U4 u9 iZ hF I0 hgl;simp only at KV LY hh AX wW iZ hF I0;have L1:=Nat.le_of_ble_eq_true L1;refine .inl ⟨?_,calls_of_wp hf hb ?_⟩
 ·have FX : ¬ fn.name = "runtime.NumGoroutine" := by simpa using xW
  simp[callFunc,program,hf,hb,FX,Sem.run]
 obtain⟨pb1,pb2⟩:=zqx ks ats as x 0 YX iZ;obtain⟨ρ2,H1,H2,H3,H4,H5⟩:=zkM YX iZ hh wW;obtain⟨e1,e2⟩:=zlc (w:=w) (ρ:=ρ) H2 ks ats as x 0 (λj=>args.getD j undef) YX iZ (λq t h1 h2=>H5 q _ h1 h2) AX;have N9:∀base rs,jF ks (cB ats x) bs ow base shape rs=jF ks as bs ow base shape rs:=λbase rs=>by simp only[jF,pb1]
 have TY:bB C w outer ownw ρ2 {s:=λi=>match(sB ks 0 (cB ats x)).drop i with|v :: _=>v| []=> .undef,h:=BA ks 0 (cB ats x),nx:=128 *ks.length}
   {tmps:=args++Array.replicate (fn.ntmps - args.size) undef,defers:=[]} w:=by
  refine⟨H1,λi=>?_,by simp;omega,rfl,hgl⟩;show VR w ρ2 _ _ (match(sB ks 0 (cB ats x)).drop i with|v :: _=>v| []=> .undef)
  by_cases hi:i<(sB ks 0 (cB ats x)).length
  ·rw[List.drop_eq_getElem_cons hi];have h3:=e2 i hi;have hia:i<args.size:=by omega
   rw[Array.getD_eq_getD_getElem?]at h3⊢;rw[Array.getElem?_append_left hia];exact h3
  ·rw[List.drop_eq_nil_of_le (by omega)];exact .undef _
 refine zll hC hΦ an body (λ_=>True) (zj6 an body) _ _ w ρ2 _ r _ TY (λq hq=>H4 q hq) (v9 x r (zfS ats x (zmb H1 ks ats x 0 (λj=>args.getD j undef) YX (λ_ _ h=>h) λj hj=>e2 j hj)) hF) λe st' a' w' ρ' hg hk=>?_
 have key:(match FH C.P st' fn.results.toList shape,mF st' ks (cB ats x) 0 with
   | some vs,some us=>match QD ow 0 (vs++us) st'.h with
    | some (rs,_)=>uJ rts rs
    | none=>none
   | _,_=>none)=some r→a'.defers=[]∧∃v,(results fn a'.tmps).run C.P w'= .ok v w'∧∃v',Ending.returned v= .returned v'∧∃ρf,pB w outer ownw ρf (jF ks as bs ow base shape (rE rts r)) w'∧
   VR w' ρf (qA outer ρf (jF ks as bs ow base shape (rE rts r))) v' (MI shape (OA ow base 0 (rE rts r)))∧
   (∀q b,jB ks 0 bs q=some b→ρf b=ρ q)∧(∀r,ρf r≠none→(base≤r∧r<base+128)∨r∈bs):=by
  intro hk;split at hk
  case h_2=>cases hk
  rename_i vs us jX R1;split at hk
  case h_2=>cases hk
  rename_i rs h2 yW;obtain⟨v,h3,ρf,h4,h5,h6,h7⟩:=zwI (bs:=bs) (base:=base) hg.rel hg.fresh jX R1 yW hk I0 U4 u9;rw[N9]at h4 h5;refine⟨hg.rel.defers,v,h3,v,rfl,ρf,h4,h5,λq b hq=>?_,h7⟩;rw[h6 q b hq];obtain⟨row,AV⟩:=pb2 bs q b hq;obtain⟨ri,h8,_⟩:=hh.rows _ _ AV;rw[hg.ext _ _ (H3 _ _ h8),h8]
 cases e with
 | exit id=>cases hk
 | normal=>exact key hk
 | ret=>exact key hk
noncomputable def zdI(C:Cx)(fn:Func)(body:Code)(an:An)(ks:List kB)(ts:List Ty)(as:List V):Option (gB ts):=
 TE C an body {s:=λi=>match(sB ks 0 as).drop i with|v :: _=>v| []=> .undef,h:=BA ks 0 as,nx:=128 *ks.length} λe st=>
  match e with
  | .exit _=>none
  | _=>match fn.results.toList with
   | [.tmp t]=>match st.s t with
    | .bp b 0=>match st.h b with
     | some ⟨.box cs, .own⟩=>bif cs.all (CG 8)then uJ ts cs else none
     | _=>none
    | _=>none
   | _=>none
def zv5{fn:Func}{ks:List kB}{as:List V}{bs:List Nat}{base t b:Nat}{rts:List Ty}{cs:List V}{r:gB rts}
  (hr:bB C w0 outer own ρ st a w) (jX:fn.results.toList=[.tmp t]) (hs:st.s t= .bp b 0) (AV:st.h b=some ⟨.box cs, .own⟩) (HW:cs.all (CG 8)=true) (hun:uJ rts cs=some r):
  ∃v,(results fn a.tmps).run C.P w= .ok v w∧∃ρf,pB w0 outer own ρf (zA (λ_=>none) base (some ⟨.box (rE rts r), .own⟩)) w∧
   VR w ρf (qA outer ρf (zA (λ_=>none) base (some ⟨.box (rE rts r), .own⟩))) v (.bp base 0)∧(∀q,ρf q≠none→q=base):=by
 have hv:=hr.slots t;rw[hs]at hv;obtain⟨ri,hρ,JV,V3⟩:=hr.heap.rows _ _ AV;have dW:=zfo rts cs r hun;generalize rE rts r=es at dW;generalize hA:a.tmps.getD t undef=A at hv;cases hv with
 | bp _ _ ri' h1 h2=>
 rw[hρ]at h1;cases h1;let ρf:Nat→Option RI:=λq=>if q=base then some ri else none
 have YV:∀c,qA outer ρf (zA (λ_=>none) base (some ⟨.box es, .own⟩)) c→qA outer ρ st.h c:=by
  rintro c (hb|⟨q,row,ri',f1,f2,f3,f4,f5⟩)
  ·exact .inl hb
  ·by_cases hq:q=base
   ·subst hq;simp only[ρf,if_true,Option.some.injEq]at f3;subst f3;exact .inr ⟨b,_,ri,AV,rfl,hρ,f4,f5⟩
   ·rw[AA _ _ _ _ hq]at f1;cases f1
 refine⟨.pointer (some (at_ ri.b 0)),?_,ρf,?_, .bp _ _ ri (by simp[ρf]) h2,λq hq=>?_⟩
 ·have:=zf7 (P:=C.P) (w:=w) (QL a.tmps) fn.results.toList [.pointer (some (at_ ri.b 0))] (by rw[jX];rfl) (λi hi hi2=>by
   simp only[jX]at hi⊢;have:i=0:=by simp at hi;omega
   subst this;simp only[List.getElem_cons_zero,QL,hA];rfl)
  show((do let vs ←fn.results.mapM (QL a.tmps);pure (if h:vs.size=1 then vs[0]else .tuple vs)):Sem Value).run C.P w=_
  rw[Array.mapM_eq_mapM_toList];simp only[Sem.run_bind,Sem.run_map,this,Result.andThen_ok,Sem.run_pure];rfl
 ·refine hr.heap.sub (λ_=>b) hr.heap.wx hr.heap.old hr.heap.outLt (λq row hq=>?_) (λq q' row row' g1 g2 _=>?_)
  ·by_cases E3:q=base
   ·subst E3;rw[MA]at hq;cases hq;refine⟨_,ri,AV,by simp[ρf],hρ,⟨h2,λj hj=>?_⟩,λhn=>⟨(V3 hn).1.1,λ_=>(V3 hn).1.2 rfl⟩⟩;have GW:j<cs.length:=by rw[dW.len];exact hj
    obtain⟨e1,u,e2,e3⟩:=JV.2 j GW;refine⟨e1,u,e2,VR.sub (dW.get j GW hj) ?_⟩;have hn:=(zb5 8 _ (List.all_eq_true.1 HW _ (List.getElem_mem GW))).1;exact(e3.noRef hn ρf).mono (λ_ _ h=>h) (λ_ _ _=>rfl) λc hc=> .inl (YV c hc)
   ·rw[AA _ _ _ _ E3]at hq;cases hq
  ·have k1:q=base:=by
    rcases Nat.decEq q base with h|h
    ·rw[AA _ _ _ _ h]at g1;cases g1
    ·exact h
   have k2:q'=base:=by
    rcases Nat.decEq q' base with h|h
    ·rw[AA _ _ _ _ h]at g2;cases g2
    ·exact h
   rw[k1,k2]
 ·by_cases h:q=base
  ·exact h
  ·simp only[ρf,if_neg h]at hq;exact absurd rfl hq
omit [iA]in
def ziX:∀(n k:Nat) (bs:List Nat) (q:Nat),jB (List.replicate n .plain) k bs q=none
 | 0,k,bs,q=>by simp[jB]
 | n+1,k,bs,q=>by simp only[List.replicate_succ,jB];exact ziX n (k+1) bs q
def zu0 (hC : TF C) (hΦ : jG C) {f : Nat} {fn : Func} {body : Code} (hf : C.P.funcs[f]? = some fn) (hb : fn.body = some body) (xW : (fn.name == "runtime.NumGoroutine") = false)
  (hnt:C.nt=fn.ntmps) (an:An) (n:Nat) (shape:List (Bool×Nat)) (ats rts:List Ty) (F:gB ats→Option (gB rts))
  (YX:ZB (List.replicate n .plain) ats=true) (L1:Nat.ble n fn.ntmps=true)
  (v9:∀x r,vA ats x→F x=some r→zdI C fn body an (List.replicate n kB.plain) rts (cB ats x)=some r):
  vB C.P f ⟨List.replicate n .plain,gB ats,gB rts,nD ats,F,rE rts,shape,[],true⟩ C.g:=by
 generalize Y6:List.replicate n kB.plain=ks at YX v9⊢;have hkn:ks.length=n:=by rw[←Y6];simp
 intro w args as outer ownw ρ x r base bs KV LY hh AX wW U4 u9 iZ hF I0 hgl;simp only at KV LY hh AX wW iZ hF I0;have L1:=Nat.le_of_ble_eq_true L1;refine .inl ⟨?_,calls_of_wp hf hb ?_⟩
 ·have FX : ¬ fn.name = "runtime.NumGoroutine" := by simpa using xW
  simp[callFunc,program,hf,hb,FX,Sem.run]
 obtain⟨ρ2,H1,H2,H3,H4,H5⟩:=zkM YX iZ hh wW;obtain⟨e1,e2⟩:=zlc (w:=w) (ρ:=ρ) H2 ks ats as x 0 (λj=>args.getD j undef) YX iZ (λq t h1 h2=>H5 q _ h1 h2) AX
 have TY:bB C w outer ownw ρ2 {s:=λi=>match(sB ks 0 (cB ats x)).drop i with|v :: _=>v| []=> .undef,h:=BA ks 0 (cB ats x),nx:=128 *ks.length}
   {tmps:=args++Array.replicate (fn.ntmps - args.size) undef,defers:=[]} w:=by
  refine⟨H1,λi=>?_,by simp;omega,rfl,hgl⟩;show VR w ρ2 _ _ (match(sB ks 0 (cB ats x)).drop i with|v :: _=>v| []=> .undef)
  by_cases hi:i<(sB ks 0 (cB ats x)).length
  ·rw[List.drop_eq_getElem_cons hi];have h3:=e2 i hi;have hia:i<args.size:=by omega
   rw[Array.getD_eq_getD_getElem?]at h3⊢;rw[Array.getElem?_append_left hia];exact h3
  ·rw[List.drop_eq_nil_of_le (by omega)];exact .undef _
 refine zll hC hΦ an body (λ_=>True) (zj6 an body) _ _ w ρ2 _ r _ TY (λq hq=>H4 q hq) (v9 x r (zfS ats x (zmb H1 ks ats x 0 (λj=>args.getD j undef) YX (λ_ _ h=>h) λj hj=>e2 j hj)) hF) λe st' a' w' ρ' hg hk=>?_
 have key:(match fn.results.toList with
   | [.tmp t]=>match st'.s t with
    | .bp b 0=>match st'.h b with
     | some ⟨.box cs, .own⟩=>bif cs.all (CG 8)then uJ rts cs else none
     | _=>none
    | _=>none
   | _=>none)=some r→a'.defers=[]∧∃v,(results fn a'.tmps).run C.P w'= .ok v w'∧∃v',Ending.returned v= .returned v'∧∃ρf,pB w outer ownw ρf (zA (λ_=>none) base (some ⟨.box (rE rts r), .own⟩)) w'∧
   VR w' ρf (qA outer ρf (zA (λ_=>none) base (some ⟨.box (rE rts r), .own⟩))) v' (.bp base 0)∧
   (∀q b,jB ks 0 bs q=some b→ρf b=ρ q)∧(∀r,ρf r≠none→(base≤r∧r<base+128)∨r∈bs):=by
  intro hk;split at hk
  case h_2=>cases hk
  rename_i t jX;split at hk
  case h_2=>cases hk
  rename_i b hs;split at hk
  case h_2=>cases hk
  rename_i cs AV;cases HW:cs.all (CG 8)
  case false=>simp[HW]at hk
  simp only[HW,cond_true]at hk;obtain⟨v,h3,ρf,h4,h5,h6⟩:=zv5 (ks:=ks) (as:=as) (bs:=bs) (base:=base) hg.rel jX hs AV HW hk;refine⟨hg.rel.defers,v,h3,v,rfl,ρf,h4,h5,λq b hq=>?_,λq hq=>?_⟩
  ·rw[←Y6,ziX]at hq;cases hq
  ·rw[h6 q hq];exact .inl ⟨Nat.le_refl _,by omega⟩
 cases e with
 | exit id=>cases hk
 | normal=>exact key hk
 | ret=>exact key hk
end
end Go.D
namespace Go.D
inductive LK where
 | i|by|b|s
 | l (t:TN)
 deriving DecidableEq
def lk:TN→List LK
 | .byte=>[.by]| .int=>[.i]| .bool=>[.b]| .str=>[.s]| .bs=>[.l .byte]
 | .Addr=>[.i, .i]
 | .Op=>[.i, .i, .i, .l .byte]
 | .Event=>[.i, .i, .i, .i, .l .byte, .l .Op]
 | .Jar=>[.l .byte]
 | .Dice=>[.l .byte, .i]
 | .Win=>[.i, .l .int]
 | .Ep=>[.i, .l .byte, .i, .i, .l .int]
 | .Chan=>[.i, .l .byte, .i, .l .byte, .i, .i, .l .int, .i, .l .byte, .i, .i, .l .int, .b, .i, .l .byte]
 | .Cand=>[.i, .i, .l .byte, .i]
 | .Paths=>[.i, .i, .l .Cand]
 | .Sess=>[.i, .l .byte, .l .byte, .i, .l .byte, .i, .l .byte, .i, .i, .l .int, .i, .l .byte, .i, .i, .l .int, .b, .i, .l .byte, .i, .i, .l .Cand, .i, .i, .b]
 | .Tab=>[.i, .l .Sess]
 | .Credit=>[.i, .i, .i, .i]
 | .Server=>[.l .bs, .l .byte, .l .byte, .i, .i, .l .Sess, .l .Credit]
 | .Frame=>[.i, .i, .l .byte, .l .byte, .i, .l .byte, .l .byte, .i, .i, .l .byte, .l .byte]
 | .Timer=>[.b, .i, .i, .i]
 | .Client=>[.i, .l .byte, .i, .i, .i, .l .byte, .i, .i, .l .byte, .l .byte, .i, .l .byte, .l .byte, .i, .i, .l .byte, .l .byte, .i, .l .byte, .i, .l .byte, .i, .i, .l .int, .i, .l .byte, .i, .i, .l .int, .b, .i, .l .byte, .b, .i, .i, .i, .b, .i, .i, .i, .i]
 | .Wire=>[.i, .i, .i, .i, .l .byte]
 | .Note=>[.i, .i, .i, .l .byte, .l .byte, .i, .i, .l .byte, .l .byte, .i, .i, .i]
 | .World=>[.i, .l .Client, .l .bs, .l .byte, .l .byte, .i, .i, .l .Sess, .l .Credit, .l .byte, .i, .l .Wire, .l .bs, .l .Note]
 | .Cur=>[.l .byte, .i, .i]
 | .Out=>[.i, .i, .i, .i, .l .byte, .l .byte, .i, .l .byte, .l .byte, .i, .i, .l .byte, .l .byte]
 | .Form=>[.i, .s]
 | .Hash=>[.l .int, .l .byte, .i]
def Mat:LK→V→Prop
 | .i,v=>∃n,HA v=some n
 | .by,v=>∃n,ET v=some n
 | .b,v=>∃n,cI v=some n
 | .s,v=>∃n,sP v=some n
 | .l t,v=>∃n,WA t v=some n
inductive bC:List LK→List V→Prop
 | nil:bC [] []
 | cons {k:LK} {v:V} {ks:List LK} {vs:List V} (h:Mat k v) (r:bC ks vs):bC (k :: ks) (v :: vs)
def bC.app{a b:List LK}{x y:List V}(h:bC a x)(k:bC b y):bC (a++b) (x++y):=by
 induction h with
 | nil=>exact k
 | cons h _ ih=>exact .cons h ih
def bC.len{a:List LK}{x:List V}(h:bC a x):a.length=x.length:=by
 induction h with
 | nil=>rfl
 | cons h _ ih=>simp[ih]
def bC.take{k:LK}{ks:List LK}{x:List V}(h:bC (k :: ks) x):∃v r,x=v :: r∧Mat k v∧bC ks r:=by
 cases h with|cons h r=>exact⟨_,_,rfl,h,r⟩
def zae{α β:Type}{p:V→Option α}{v:V}{a:α}(h:p v=some a)(cs:List V)(k:α→List V→Option β):tk p (v :: cs) k=k a cs:=by simp[tk,h]
def LD{β:Type}(r:β){x:List V}(h:bC [] x):∃y,fin x r=some y:=by cases h;exact⟨r,rfl⟩
def KA{β:Type}{ks:List LK}{K:Int→List V→Option β}{x:List V}(h:bC (.i :: ks) x)(hk:∀a r,bC ks r→∃y,K a r=some y):∃y,tk HA x K=some y:=by
 cases h with|cons h r=>obtain⟨a,h⟩:=h;rw[zae h];exact hk _ _ r
def iN{β:Type}{ks:List LK}{K:Bool→List V→Option β}{x:List V}(h:bC (.b :: ks) x)(hk:∀a r,bC ks r→∃y,K a r=some y):∃y,tk cI x K=some y:=by
 cases h with|cons h r=>obtain⟨a,h⟩:=h;rw[zae h];exact hk _ _ r
def zmx{β:Type}{ks:List LK}{K:List UInt8→List V→Option β}{x:List V}(h:bC (.s :: ks) x)(hk:∀a r,bC ks r→∃y,K a r=some y):∃y,tk sP x K=some y:=by
 cases h with|cons h r=>obtain⟨a,h⟩:=h;rw[zae h];exact hk _ _ r
def eB{β:Type}{t:TN}{ks:List LK}{K:List (El t)→List V→Option β}{x:List V}(h:bC (.l t :: ks) x)(hk:∀a r,bC ks r→∃y,K a r=some y):∃y,tk (WA t) x K=some y:=by
 cases h with|cons h r=>obtain⟨a,h⟩:=h;rw[zae h];exact hk _ _ r
def zuE{x:List V}(h:bC (lk .Addr) x):∃y,zdb x=some y:=KA h λ_ _ h=>KA h λ_ _ h=>LD _ h
def zwZ{x:List V}(h:bC (lk .Op) x):∃y,zdP x=some y:=KA h λ_ _ h=>KA h λ_ _ h=>KA h λ_ _ h=>eB h λ_ _ h=>LD _ h
def zta{x:List V}(h:bC (lk .Event) x):∃y,zcQ x=some y:=KA h λ_ _ h=>KA h λ_ _ h=>KA h λ_ _ h=>KA h λ_ _ h=>eB h λ_ _ h=>eB h λ_ _ h=>LD _ h
def zvS{x:List V}(h:bC (lk .Jar) x):∃y,zdE x=some y:=eB h λ_ _ h=>LD _ h
def zuZ{x:List V}(h:bC (lk .Dice) x):∃y,zdg x=some y:=eB h λ_ _ h=>KA h λ_ _ h=>LD _ h
def zvw{x:List V}(h:bC (lk .Win) x):∃y,zdt x=some y:=KA h λ_ _ h=>eB h λ_ _ h=>LD _ h
def zwQ{x:List V}(h:bC (lk .Ep) x):∃y,zdM x=some y:=KA h λ_ _ h=>eB h λ_ _ h=>KA h λ_ _ h=>KA h λ_ _ h=>eB h λ_ _ h=>LD _ h
def zuN{x:List V}(h:bC (lk .Chan) x):∃y,zdm x=some y:=KA h λ_ _ h=>eB h λ_ _ h=>KA h λ_ _ h=>eB h λ_ _ h=>KA h λ_ _ h=>KA h λ_ _ h=>eB h λ_ _ h=>KA h λ_ _ h=>eB h λ_ _ h=>KA h λ_ _ h=>KA h λ_ _ h=>eB h λ_ _ h=>iN h λ_ _ h=>KA h λ_ _ h=>eB h λ_ _ h=>LD _ h
def zt4{x:List V}(h:bC (lk .Cand) x):∃y,zc4 x=some y:=KA h λ_ _ h=>KA h λ_ _ h=>eB h λ_ _ h=>KA h λ_ _ h=>LD _ h
def ztf{x:List V}(h:bC (lk .Paths) x):∃y,zcs x=some y:=KA h λ_ _ h=>KA h λ_ _ h=>eB h λ_ _ h=>LD _ h
def zu5{x:List V}(h:bC (lk .Sess) x):∃y,zdo x=some y:=KA h λ_ _ h=>eB h λ_ _ h=>eB h λ_ _ h=>KA h λ_ _ h=>eB h λ_ _ h=>KA h λ_ _ h=>eB h λ_ _ h=>KA h λ_ _ h=>KA h λ_ _ h=>eB h λ_ _ h=>KA h λ_ _ h=>eB h λ_ _ h=>KA h λ_ _ h=>KA h λ_ _ h=>eB h λ_ _ h=>iN h λ_ _ h=>KA h λ_ _ h=>eB h λ_ _ h=>KA h λ_ _ h=>KA h λ_ _ h=>eB h λ_ _ h=>KA h λ_ _ h=>KA h λ_ _ h=>iN h λ_ _ h=>LD _ h
def zvb{x:List V}(h:bC (lk .Tab) x):∃y,zdy x=some y:=KA h λ_ _ h=>eB h λ_ _ h=>LD _ h
def zsi{x:List V}(h:bC (lk .Credit) x):∃y,zcf x=some y:=KA h λ_ _ h=>KA h λ_ _ h=>KA h λ_ _ h=>KA h λ_ _ h=>LD _ h
def zrL{x:List V}(h:bC (lk .Server) x):∃y,zcb x=some y:=eB h λ_ _ h=>eB h λ_ _ h=>eB h λ_ _ h=>KA h λ_ _ h=>KA h λ_ _ h=>eB h λ_ _ h=>eB h λ_ _ h=>LD _ h
def zsR{x:List V}(h:bC (lk .Frame) x):∃y,zcG x=some y:=KA h λ_ _ h=>KA h λ_ _ h=>eB h λ_ _ h=>eB h λ_ _ h=>KA h λ_ _ h=>eB h λ_ _ h=>eB h λ_ _ h=>KA h λ_ _ h=>KA h λ_ _ h=>eB h λ_ _ h=>eB h λ_ _ h=>LD _ h
def zto{x:List V}(h:bC (lk .Timer) x):∃y,zcK x=some y:=iN h λ_ _ h=>KA h λ_ _ h=>KA h λ_ _ h=>KA h λ_ _ h=>LD _ h
def zr2{x:List V}(h:bC (lk .Client) x):∃y,zca x=some y:=KA h λ_ _ h=>eB h λ_ _ h=>KA h λ_ _ h=>KA h λ_ _ h=>KA h λ_ _ h=>eB h λ_ _ h=>KA h λ_ _ h=>KA h λ_ _ h=>eB h λ_ _ h=>eB h λ_ _ h=>KA h λ_ _ h=>eB h λ_ _ h=>eB h λ_ _ h=>KA h λ_ _ h=>KA h λ_ _ h=>eB h λ_ _ h=>eB h λ_ _ h=>KA h λ_ _ h=>eB h λ_ _ h=>KA h λ_ _ h=>eB h λ_ _ h=>KA h λ_ _ h=>KA h λ_ _ h=>eB h λ_ _ h=>KA h λ_ _ h=>eB h λ_ _ h=>KA h λ_ _ h=>KA h λ_ _ h=>eB h λ_ _ h=>iN h λ_ _ h=>KA h λ_ _ h=>eB h λ_ _ h=>iN h λ_ _ h=>KA h λ_ _ h=>KA h λ_ _ h=>KA h λ_ _ h=>iN h λ_ _ h=>KA h λ_ _ h=>KA h λ_ _ h=>KA h λ_ _ h=>KA h λ_ _ h=>LD _ h
def zuC{x:List V}(h:bC (lk .Wire) x):∃y,zdi x=some y:=KA h λ_ _ h=>KA h λ_ _ h=>KA h λ_ _ h=>KA h λ_ _ h=>eB h λ_ _ h=>LD _ h
def zuu{x:List V}(h:bC (lk .Note) x):∃y,zcZ x=some y:=KA h λ_ _ h=>KA h λ_ _ h=>KA h λ_ _ h=>eB h λ_ _ h=>eB h λ_ _ h=>KA h λ_ _ h=>KA h λ_ _ h=>eB h λ_ _ h=>eB h λ_ _ h=>KA h λ_ _ h=>KA h λ_ _ h=>KA h λ_ _ h=>LD _ h
def zst{x:List V}(h:bC (lk .World) x):∃y,zcv x=some y:=KA h λ_ _ h=>eB h λ_ _ h=>eB h λ_ _ h=>eB h λ_ _ h=>eB h λ_ _ h=>KA h λ_ _ h=>KA h λ_ _ h=>eB h λ_ _ h=>eB h λ_ _ h=>eB h λ_ _ h=>KA h λ_ _ h=>eB h λ_ _ h=>eB h λ_ _ h=>eB h λ_ _ h=>LD _ h
def zwh{x:List V}(h:bC (lk .Cur) x):∃y,zdG x=some y:=eB h λ_ _ h=>KA h λ_ _ h=>KA h λ_ _ h=>LD _ h
def zwp{x:List V}(h:bC (lk .Out) x):∃y,zdA x=some y:=KA h λ_ _ h=>KA h λ_ _ h=>KA h λ_ _ h=>KA h λ_ _ h=>eB h λ_ _ h=>eB h λ_ _ h=>KA h λ_ _ h=>eB h λ_ _ h=>eB h λ_ _ h=>KA h λ_ _ h=>KA h λ_ _ h=>eB h λ_ _ h=>eB h λ_ _ h=>LD _ h
def zu3{x:List V}(h:bC (lk .Form) x):∃y,zc8 x=some y:=KA h λ_ _ h=>zmx h λ_ _ h=>LD _ h
def zuO{x:List V}(h:bC (lk .Hash) x):∃y,zdq x=some y:=eB h λ_ _ h=>eB h λ_ _ h=>KA h λ_ _ h=>LD _ h
def zka(t:TN)(x:List V)(h:bC (lk t) x):∃y,iF t x=some y:=by
 cases t with
 | byte=>
  cases h with
  | cons h r=>
   obtain⟨a,h⟩:=h;cases r;refine⟨a,?_⟩;simp only[iF];rw[zae h];rfl
 | int=>exact KA h λ_ _ h=>LD _ h
 | bool=>exact iN h λ_ _ h=>LD _ h
 | str=>exact zmx h λ_ _ h=>LD _ h
 | bs=>exact eB h λ_ _ h=>LD _ h
 | Addr=>exact zuE h
 | Op=>exact zwZ h
 | Event=>exact zta h
 | Jar=>exact zvS h
 | Dice=>exact zuZ h
 | Win=>exact zvw h
 | Ep=>exact zwQ h
 | Chan=>exact zuN h
 | Cand=>exact zt4 h
 | Paths=>exact ztf h
 | Sess=>exact zu5 h
 | Tab=>exact zvb h
 | Credit=>exact zsi h
 | Server=>exact zrL h
 | Frame=>exact zsR h
 | Timer=>exact zto h
 | Client=>exact zr2 h
 | Wire=>exact zuC h
 | Note=>exact zuu h
 | World=>exact zst h
 | Cur=>exact zwh h
 | Out=>exact zwp h
 | Form=>exact zu3 h
 | Hash=>exact zuO h
end Go.D
namespace Go.D
variable [iA]
open Go.RowKit Go.ChangeShapes
section
variable {H:Type} {encH:TypeId×Value→H} {P:Program} {W:World}
def DJ:Nat→Option RI:=λ_=>none
def WG:Nat→Prop:=λ_=>False
def CI(P:Program)(tn:TypeId→Option TN):Nat→TypeId→Option (List LK)
 | 0,_=>none
 | d+1,t=>match P.underlying t with
  | some (.int .i64)=>some [.i]
  | some (.int .u8)=>some [.by]
  | some .bool=>some [.b]
  | some .string=>some [.s]
  | some (.slice e)=>(tn e).map λt=>[.l t]
  | some (.struct fs)=>(kindsF (CI P tn d) P 0 fs.toList).bind λks=>bif Nat.beq (P.cellsOf t) ks.length then some ks else none
  | _=>none
where
 kindsF (f:TypeId→Option (List LK)) (P:Program):Nat→List Field→Option (List LK)
  | _,[]=>some []
  | k,x :: xs=>bif Nat.beq x.offset k then
    match f x.type with
    | some ks=>bif Nat.beq (P.cellsOf x.type) ks.length then(kindsF f P (k+ks.length) xs).map λr=>ks++r else none
    | none=>none
   else none
structure QM(P:Program)(tn:TypeId→Option TN)(D:Nat):Prop where
 ok:∀e t,tn e=some t→CI P tn D e=some (lk t)∧P.cellsOf e=sz t
def tH(W:World)(cs:List Value)(vs:List V):Prop:=cs.length=vs.length∧∀j (hj:j<vs.length),VR W DJ WG (cs.getD j undef) vs[j]
def tH.one{c:Value}{v:V}(h:VR W DJ WG c v):tH W [c] [v]:=⟨rfl,λj hj=>by
 have:j=0:=by simp at hj;omega
 subst this;exact h⟩
def tH.app{a b:List Value}{x y:List V}(h:tH W a x)(k:tH W b y):tH W (a++b) (x++y):=by
 refine⟨by simp[h.1,k.1],λj hj=>?_⟩
 by_cases QW:j<x.length
 ·rw[List.getElem_append_left QW,zb8 _ _ _ _ (by rw[h.1];exact QW)];exact h.2 j QW
 ·rw[List.getElem_append_right (by omega),zcc _ _ _ _ (by rw[h.1];omega),h.1];exact k.2 _ (by simp at hj;omega)
omit [iA]in
def zwe{k:IntKind}{n:Int}(h:(Lit.int k n).wf=true):uE k n:=by
 simp only[Lit.wf,Bool.and_eq_true,decide_eq_true_eq]at h;exact h
omit [iA]in
def zfH{α β:Type}{f:α→Option β}:∀{l:List α} {r:List β},l.mapM f=some r→r.length=l.length∧∀i (hi:i<l.length) (hr:i<r.length),f l[i]=some r[i]
 | [],r,h=>by simp at h;subst h;exact⟨rfl,λi hi=>by simp at hi⟩
 | x :: l,r,h=>by
  rw[List.mapM_cons]at h;cases hx:f x with
  | none=>rw[hx]at h;simp at h
  | some y=>
   rw[hx]at h;cases hl:l.mapM f with
   | none=>rw[hl]at h;simp at h
   | some ys=>
    rw[hl]at h;simp at h;subst h;obtain⟨h1,h2⟩:=zfH hl;refine⟨by simp[h1],λi hi hr=>?_⟩;cases i with
    | zero=>exact hx
    | succ i=>exact h2 i (by simpa using hi) (by simpa using hr)
omit [iA]in
def ziZ{α:Type}{p:Nat→α→Prop}:∀(n:Nat),(∀i,i<n→∃x,p i x)→∃l:List α,l.length=n∧∀i (hi:i<l.length),p i l[i]
 | 0,_=>⟨[],rfl,λi hi=>by simp at hi⟩
 | n+1,h=>by
  obtain⟨l,h1,h2⟩:=ziZ n (λi hi=>h i (by omega));obtain⟨x,hx⟩:=h n (by omega);refine⟨l++[x],by simp[h1],λi hi=>?_⟩
  grind
omit [iA]in
def zfs{a:Addr}{n:Nat}{cs:List Value}(h:W.cells? 0 a n=some cs):cs.length=n∧∀i (_:i<n),W.cell? (a.add i)=some (cs.getD i undef):=by
 simp only[World.cells?,Nat.zero_le,if_true]at h;obtain⟨h1,h2⟩:=zfH h
 grind
variable (hB:W.heap.size≤iA.base)in
include hB in
theorem zc6{tn:TypeId→Option TN}{D:Nat}(hK:QM P tn D){sp:Nat→Bool}{SX:Bool}:∀(fuel:Nat) (T:TypeId) (cs:List Value) (x:DataW H×List MemPlace) (d:Nat) (ks:List LK),
  DataW.trod encH P W 0 sp SX fuel T cs=some x→CI P tn d T=some ks→∃vs,tH W cs vs∧bC ks vs
 | 0,T,cs,x,d,ks,h,hk=>by simp[DataW.trod]at h
 | fuel+1,T,cs,x,0,ks,h,hk=>by simp[CI]at hk
 | fuel+1,T,cs,x,d+1,ks,h,hk=>by
  have slice:∀e,P.underlying T=some (.slice e)→(tn e).map (λt=>[LK.l t])=some ks→∃vs,tH W cs vs∧bC ks vs:=λe hu hk=>by
   obtain⟨t,ht,hk⟩:=Option.map_eq_some_iff.1 hk;subst hk;obtain⟨kk,KV⟩:=hK.ok e t ht;cases cs with
   | nil=>simp[DataW.trod,hu]at h
   | cons v r=>
   cases r with
   | cons v2 r2=>cases v<;>simp[DataW.trod,hu]at h
   | nil=>
   have hv:∃ao len cap,v= .slice ao len cap:=by cases v<;>first|exact⟨_,_,_,rfl⟩|simp[DataW.trod,hu]at h
   obtain⟨ao,len,cap,rfl⟩:=hv;cases ao with
   | none=>
    have hz:len=0∧cap=0:=by
     cases len<;>cases cap<;>simp[DataW.trod,hu]at h
     exact⟨rfl,rfl⟩
    obtain⟨rfl,rfl⟩:=hz;exact⟨[.nil],tH.one .nil, .cons ⟨[],rfl⟩ .nil⟩
   | some a=>
    simp only[DataW.trod,hu]at h;split at h
    case isFalse=>cases h
    rename_i V4;obtain⟨_,DV,XZ⟩:=V4;obtain⟨elems,LY,_⟩:=Option.bind_eq_some_iff.1 h;rw[KV]at LY;obtain⟨m1,m2⟩:=zfH LY;simp at m1
    have one:∀i,i<len→∃y:El t,∃u:List Value,W.cells? 0 (a.add (i *sz t)) (sz t)=some u∧∀j (_:j<sz t),VR W DJ WG (u.getD j undef) ((enc t y).getD j .undef):=λi hi=>by
     have h1:=m2 i (by simpa using hi) (by omega);simp only[List.getElem_range]at h1;obtain⟨u,h2,h3⟩:=Option.bind_eq_some_iff.1 h1;obtain⟨vs,h4,h5⟩:=zc6 hK fuel e u _ D (lk t) h3 kk;obtain⟨y,h6⟩:=zka t vs h5;have h7:=IF t h6;refine⟨y,u,h2,λj hj=>?_⟩;have GW:j<(enc t y).length:=by rw[cD];exact hj
     have QW:j<vs.length:=by rw[h7.len];exact GW
     rw[List.getD_eq_getElem?_getD (l:=enc t y),List.getElem?_eq_getElem GW];exact VR.sub (h7.get j QW GW) (h4.2 j QW)
    obtain⟨l,V2,ZZ⟩:=ziZ (p:=λi y=>∃u:List Value,W.cells? 0 (a.add (i *sz t)) (sz t)=some u∧∀j (_:j<sz t),VR W DJ WG (u.getD j undef) ((enc t y).getD j .undef)) len one;refine⟨[.sl t l],tH.one ?_, .cons ⟨l,by simp[WA,TN.cast]⟩ .nil⟩;cases l with
    | nil=>
     simp at V2;subst V2;exact .slE t _ cap XZ
    | cons y0 l0=>
    -- there is a cell:the address is a plain one
    obtain⟨u0,QZ,_⟩:=ZZ 0 (by simp);have WY:=(zfs QZ).2 0 (UO t)
    have M3:a.spot=none:=by
     simp only[World.cell?]at WY;split at WY
     ·simp only[Addr.add,Nat.zero_mul,if_true]at WY;cases hs:a.spot with
      | none=>rfl
      | some _=>rw[hs]at WY;simp at WY
     ·cases WY
    obtain⟨b,off,spot⟩:=a;simp only at M3;subst M3;subst V2
    refine .slC t _ b off cap (λi j=>(W.cell? (at_ b (off+i *sz t+j))).getD undef) (λh=>h) DV XZ (λ_=> .inl (Nat.lt_of_lt_of_le (pV (show W.cell? (at_ b (off+0 *sz t+0))=_ by
     have h:=WY;rw[show(⟨b,off,none⟩:Addr)=at_ b off from rfl,BG,BG]at h;exact h)) hB)) (λi hi j hj=>?_) (λi hi j hj=>?_)
    ·obtain⟨u,h1,_⟩:=ZZ i hi;have:=(zfs h1).2 j hj
     have e:((⟨b,off,none⟩:Addr).add (i *sz t)).add j=at_ b (off+i *sz t+j):=by
      show((at_ b off).add (i *sz t)).add j=_
      rw[BG,BG]
     rw[e]at this;rw[this];rfl
    ·obtain⟨u,h1,h2⟩:=ZZ i hi;have:=(zfs h1).2 j hj
     have e:((⟨b,off,none⟩:Addr).add (i *sz t)).add j=at_ b (off+i *sz t+j):=by
      show((at_ b off).add (i *sz t)).add j=_
      rw[BG,BG]
     rw[e]at this;rw[this];exact h2 j hj
  simp only[CI]at hk;cases hu:P.underlying T with
  | none=>rw[hu]at hk;cases hk
  | some td=>
   rw[hu]at hk;cases td with
   | int k=>
    cases cs with
    | nil=>simp[DataW.trod,hu]at h
    | cons v r=>
    cases r with
    | cons v2 r2=>cases v<;>simp[DataW.trod,hu]at h
    | nil=>
    cases v with
    | int k' n=>
     simp only[DataW.trod,hu]at h;split at h
     case isFalse=>cases h
     rename_i V4;obtain⟨rfl,hw⟩:=V4;have hf:=zwe hw;refine⟨[.int k' n],tH.one (.int _ _ hf),?_⟩;cases k'<;>simp at hk<;>subst hk
     ·exact .cons ⟨n,rfl⟩ .nil
     ·exact .cons ⟨_,rfl⟩ .nil
    | _=>simp[DataW.trod,hu]at h
   | bool=>
    cases cs with
    | nil=>simp[DataW.trod,hu]at h
    | cons v r=>
    cases r with
    | cons v2 r2=>cases v<;>simp[DataW.trod,hu]at h
    | nil=>
    cases v with
    | bool b=>
     simp at hk;subst hk;exact⟨[.bool b],tH.one (.bool _), .cons ⟨b,rfl⟩ .nil⟩
    | _=>simp[DataW.trod,hu]at h
   | string=>
    cases cs with
    | nil=>simp[DataW.trod,hu]at h
    | cons v r=>
    cases r with
    | cons v2 r2=>cases v<;>simp[DataW.trod,hu]at h
    | nil=>
    cases v with
    | string s=>
     simp only[DataW.trod,hu]at h;split at h
     case isFalse=>cases h
     rename_i hs;simp at hk;subst hk;refine⟨[.str s.data.toList],tH.one ?_, .cons ⟨_,rfl⟩ .nil⟩
     have Y1:s.data.toList.length≤maxLen:=by
      rw[Array.length_toList];exact hs
     exact VR.str (w:=W) (ρ:=DJ) (bad:=WG) s.data.toList Y1
    | _=>simp[DataW.trod,hu]at h
   | slice e=>exact slice e hu hk
   | struct fs=>
    unfold DataW.trod at h;rw[hu]at h;simp only at h;split at h
    case isFalse=>cases h
    rename_i DV;obtain⟨xs,G5,_⟩:=Option.map_eq_some_iff.1 h;clear h slice
    -- the fields
    have go:∀(l:List Field) (k:Nat) (ks:List LK) (xs:List (DataW H×List MemPlace)),CI.kindsF (CI P tn d) P k l=some ks→
      l.mapM (λf=>DataW.trod encH P W 0 sp SX fuel f.type ((cs.drop f.offset).take (P.cellsOf f.type)))=some xs→
      ∃vs,bC ks vs∧k+vs.length≤max k cs.length∧tH W ((cs.drop k).take vs.length) vs:=by
     intro l;induction l with
     | nil=>
      intro k ks xs hk _;simp[CI.kindsF]at hk;subst hk;exact⟨[], .nil,by simp;omega,by simp,λj hj=>by simp at hj⟩
     | cons f l ih=>
      intro k ks xs hk hx;simp only[CI.kindsF]at hk;cases hb:Nat.beq f.offset k
      case false=>simp[hb]at hk
      have cY:=Nat.eq_of_beq_eq_true hb;simp only[hb,cond_true]at hk;split at hk
      case h_2=>cases hk
      rename_i k0 oZ;cases z0:Nat.beq (P.cellsOf f.type) k0.length
      case false=>simp[z0]at hk
      have eY:=Nat.eq_of_beq_eq_true z0;simp only[z0,cond_true]at hk;obtain⟨r,hr,rfl⟩:=Option.map_eq_some_iff.1 hk;rw[List.mapM_cons]at hx;cases h0:DataW.trod encH P W 0 sp SX fuel f.type ((cs.drop f.offset).take (P.cellsOf f.type))with
      | none=>rw[h0]at hx;simp at hx
      | some y=>
       rw[h0]at hx;cases h1:l.mapM (λf=>DataW.trod encH P W 0 sp SX fuel f.type ((cs.drop f.offset).take (P.cellsOf f.type)))with
       | none=>rw[h1]at hx;simp at hx
       | some ys=>
        obtain⟨v0,g1,g2⟩:=zc6 hK fuel f.type _ y d k0 h0 oZ;have MW:v0.length=k0.length:=g2.len.symm;rw[←cY]at hr⊢;obtain⟨vs,e1,e2,e3⟩:=ih (f.offset+k0.length) r ys hr h1;have V1:=g1.1;rw[eY]at V1 g1;simp only[List.length_take,List.length_drop]at V1;refine⟨v0++vs,g2.app e1,by simp;omega,?_⟩
        have es:(cs.drop f.offset).take (v0++vs).length=(cs.drop f.offset).take k0.length++(cs.drop (f.offset+k0.length)).take vs.length:=by
         rw[List.length_append,MW,List.take_add,List.drop_drop]
        rw[es];exact g1.app e3
    obtain⟨ks',fZ,BV⟩:=Option.bind_eq_some_iff.1 hk;cases hb:Nat.beq (P.cellsOf T) ks'.length
    case false=>simp[hb]at BV
    have eY:=Nat.eq_of_beq_eq_true hb;simp only[hb,cond_true,Option.some.injEq]at BV;subst BV;obtain⟨vs,e1,e2,e3⟩:=go fs.toList 0 ks' xs fZ G5;have hvl:vs.length=cs.length:=by rw[←e1.len,DV,eY]
    refine⟨vs,?_,e1⟩;rw[List.drop_zero,List.take_of_length_le (by omega)]at e3;exact e3
   | _=>simp at hk
def zaz(P:Program)(tn:TypeId→Option TN)(D:Nat)(T:TypeId):Ty→Bool
 | .v t=>(match P.underlying T with
   | some (.struct _)=>t.isAgg
   | some (.int _)|some .bool|some .string=>!t.isAgg
   | _=>false)&&decide (CI P tn D T=some (lk t))
 | .sl t=>(match P.underlying T with
   | some (.slice _)=>true
   | _=>false)&&decide (CI P tn D T=some [.l t])
 | _=>false
variable (hB:W.heap.size≤iA.base)in
include hB in
theorem zwG{tn:TypeId→Option TN}{D:Nat}(hK:QM P tn D){sp:Nat→Bool}{SX:Bool}{T:TypeId}{ty:Ty}(pZ:zaz P tn D T ty=true){v:Value}{d:DataW H}{ps:List MemPlace}
  (h:DataW.Trod encH P W 0 sp SX T v d ps) {r:Reach} {b:Nat} (hw:Value.okWide P W r b T v):∃x:ty.T,VR W DJ WG v (zC ty x)∧gE ty (zC ty x)=some x:=by
 obtain⟨fuel,h⟩:=h
 -- a value of one cell
 have YZ:(∀fs,P.underlying T≠some (.struct fs))→(∀n e,P.underlying T≠some (.array n e))→v.cells.toList=[v]:=λh1 h2=>by
  unfold Value.okWide at hw;split at hw
  ·rename_i fs hu;exact absurd hu (h1 _)
  ·rename_i hu;exact absurd hu (h2 _ _)
  ·cases v with
   | agg cs=>
    exfalso;unfold Cell.okWide at hw;split at hw<;>simp_all[Cell.ok]
   | _=>rfl
 cases ty with
 | v t=>
  simp only[zaz,Bool.and_eq_true,decide_eq_true_eq]at pZ;obtain⟨vs,h1,h2⟩:=zc6 hB hK fuel T _ _ D _ h pZ.2;obtain⟨x,hx⟩:=zka t vs h2;have hs:=IF t hx
  have hd:iF t (enc t x)=some x:=by
   cases t<;>first|rfl|(simp[iF,enc,tk,ET,fin];done)
  refine⟨x,?_⟩;have PV:∀j (hj:j<(enc t x).length),VR W DJ WG (v.cells.toList.getD j undef) (enc t x)[j]:=λj hj=>VR.sub (hs.get j (by rw[hs.len];exact hj) hj) (h1.2 j (by rw[hs.len];exact hj));cases iW:t.isAgg
  ·obtain⟨c,hc⟩:=zln t iW x
   have hv:v.cells.toList=[v]:=by
    refine YZ (λfs hu=>?_) (λn e hu=>?_)
    ·rw[hu]at pZ;simp[iW]at pZ
    ·rw[hu]at pZ;simp at pZ
   have he:zC (.v t) x=c:=by simp[zC,IK,iW,hc]
   rw[he];have h0:=PV 0 (by rw[hc];simp);simp only[hv,hc,List.getElem_cons_zero]at h0;refine⟨h0,?_⟩;rw[hc]at hd;cases c<;>first|(simp only[gE,iW,cond_false];exact hd)|skip
   exfalso;have:=zkk t x;rw[hc]at this;simp[V.leaf]at this
  ·have hu:∃fs,P.underlying T=some (.struct fs):=by
    revert pZ
    cases P.underlying T with
    | none=>simp
    | some td=>cases td<;>simp[iW]
   obtain⟨fs,hu⟩:=hu;unfold Value.okWide at hw;rw[hu]at hw;obtain⟨cs,rfl,KV,_⟩:=hw;have he:zC (.v t) x= .agg (enc t x):=by simp[zC,IK,iW]
   rw[he];refine⟨.agg _ _ ?_ λj hj=>?_,by simp only[gE,iW,cond_true];exact hd⟩
   ·have:=h1.1;simp only[Value.cells,Array.length_toList]at this;rw[this,hs.len]
   ·have:=PV j hj;simp only[Value.cells]at this;rw[Array.getD_eq_getD_getElem?];rw[List.getD_eq_getElem?_getD]at this;simpa using this
 | sl t=>
  simp only[zaz,Bool.and_eq_true,decide_eq_true_eq]at pZ;obtain⟨vs,h1,h2⟩:=zc6 hB hK fuel T _ _ D _ h pZ.2;obtain⟨c,r,rfl,⟨l,hl⟩,hr⟩:=h2.take;cases hr
  have hv:v.cells.toList=[v]:=by
   refine YZ (λfs hu=>?_) (λn e hu=>?_)
   ·rw[hu]at pZ;simp at pZ
   ·rw[hu]at pZ;simp at pZ
  refine⟨l,?_,by simp[gE,zC,WA,TN.cast]⟩;have h0:=h1.2 0 (by simp);simp only[hv]at h0;exact VR.sub (ZA hl) h0
 | _=>simp[zaz]at pZ
def mN(P:Program)(tn:TypeId→Option TN)(D:Nat):List TypeId→List Ty→Bool
 | [],[]=>true
 | T :: Ts,t :: ts=>zaz P tn D T t&&mN P tn D Ts ts
 | _,_=>false
variable (hB:W.heap.size≤iA.base)in
include hB in
theorem zlo{tn:TypeId→Option TN}{D:Nat}(hK:QM P tn D){sp:Nat→Bool}{SX:Bool}{r:Reach}{b:Nat}:∀(Ts:List TypeId) (ats:List Ty) (vs:List Value) (ds:List (DataW H)) (ps:List MemPlace),
  mN P tn D Ts ats=true→DataW.TrodAll encH P W 0 sp SX Ts vs ds ps→(∀(j:Nat) t v,Ts[j]?=some t→vs[j]?=some v→Value.okWide P W r b t v)→
  vs.length=ats.length∧∃x:gB ats,nD ats (cB ats x)=some x∧(cB ats x).length=ats.length∧∀j (hj:j<(cB ats x).length),VR W DJ WG (vs.getD j undef) (cB ats x)[j]
 | [],[],vs,ds,ps,_,h,_=>by
  cases vs<;>cases ds<;>simp[DataW.TrodAll]at h
  exact⟨rfl,(),rfl,rfl,λj hj=>by simp[cB]at hj⟩
 | [],_ :: _,vs,ds,ps,ht,_,_=>by simp[mN]at ht
 | _ :: _,[],vs,ds,ps,ht,_,_=>by simp[mN]at ht
 | T :: Ts,t :: ts,vs,ds,ps,ht,h,hw=>by
  simp only[mN,Bool.and_eq_true]at ht;obtain⟨v,vs',d,ds',p,q,rfl,rfl,rfl,h0,h1⟩:=ChangeShapes.trodAll_cons h;obtain⟨x0,k1,k2⟩:=zwG hB hK ht.1 h0 (hw 0 T v rfl rfl);obtain⟨e1,y,e2,e3,e4⟩:=zlo hK Ts ts vs' ds' q ht.2 h1 (λj t v h1 h2=>hw (j+1) t v h1 h2);refine⟨by simp[e1],?_⟩;cases ts with
  | nil=>
   refine⟨x0,by simpa[nD,cB]using k2,rfl,λj hj=>?_⟩;have:j=0:=by simp[cB]at hj;omega
   subst this;exact k1
  | cons d r=>
   refine⟨(x0,y),?_,by simp[cB]at e3⊢;exact e3,λj hj=>?_⟩
   ·simp only[nD,cB];rw[k2];simp only[Option.bind_some];rw[e2];rfl
   ·cases j with
    | zero=>exact k1
    | succ j=>exact e4 j (by simpa[cB]using hj)
def YD(n:Nat):List kB:=List.replicate n .plain
omit [iA]in
def zjx:∀(n k:Nat) (as:List V),as.length=n→sB (YD n) k as=as∧BA (YD n) k as=λ_=>none
 | 0,k,[],_=>⟨rfl,rfl⟩
 | 0,k,_ :: _,h=>by simp at h
 | n+1,k,[],h=>by simp at h
 | n+1,k,a :: as,h=>by
  obtain⟨h1,h2⟩:=zjx n (k+1) as (by simpa using h);refine⟨?_,?_⟩
  ·show a :: sB (YD n) (k+1) as=_;rw[h1]
  ·show BA (YD n) (k+1) as=_;exact h2
def ztn(hB:iA.base=W.heap.size){tn:TypeId→Option TN}{D:Nat}(hK:QM P tn D){f:Nat}{ats:List Ty}{F:gB ats→Option Bool}{n:Nat}
  {g:Gl} (hg:g.p W) (hc:vB P f ⟨YD n,gB ats,gB [.v .bool],nD ats,F,rE [.v .bool],[(false,1)],[],false⟩ g) (hn:ats.length=n) (hF:∀x,F x=some true) {Ts:List TypeId} (ht:mN P tn D Ts ats=true)
  {sp:Nat→Bool} {SX:Bool} {r:Reach} {b:Nat} {args:Array Value} {ds:List (DataW H)} {ps:List MemPlace} (h:DataW.TrodAll encH P W 0 sp SX Ts args.toList ds ps)
  (hw:∀(j:Nat) t v,Ts[j]?=some t→args[j]?=some v→Value.okWide P W r b t v) (N4:(callFunc f args).run P W= .ok (.enter f args) W):
  Calls P f args W λe W'=>e= .returned (.bool true)∧Below W.heap.size W W':=by
 obtain⟨h1,x,h2,h3,h4⟩:=zlo (Nat.le_of_eq hB.symm) hK Ts ats args.toList ds ps ht h (λj t v h5 h6=>hw j t v h5 (by simpa using h6));have DV:(cB ats x).length=n:=by rw[h3,hn]
 obtain⟨e1,e2⟩:=zjx n 0 (cB ats x) DV;have hp:(YD n).length=n:=by simp[YD]
 have YV:∀b,qA WG DJ (BA (YD n) 0 (cB ats x)) b→WG b:=by
  rintro b (h|⟨q,row,ri,h,_⟩)
  ·exact h
  ·rw[e2]at h;cases h
 have hemp:∀h:Nat→Option rA,h=(λ_=>none)→pB W WG WG DJ h W:=λh he=>by
  subst he;exact⟨Wx.refl _,λ_ _ _=>rfl,λb hb=>hb.elim,λr row hr=>(by cases hr),λq q' row row' qi qi' hq=>(by cases hq)⟩
 have G:=hc W args (cB ats x) WG WG DJ x true 0 [] (by simp at h1;rw[hp];omega) (by rw[e1,hp,DV])
  (hemp (BA (YD n) 0 (cB ats x)) e2)
  (fun j hj=>by
   have GW:j<(cB ats x).length:=by rw[←e1];exact hj
   have h5:=h4 j GW;have h6:(sB (YD n) 0 (cB ats x))[j]=(cB ats x)[j]:=by simp only[e1]
   rw[h6];rw[Array.getD_eq_getD_getElem?];rw[List.getD_eq_getElem?_getD]at h5;rw[Array.getElem?_toList]at h5;exact h5.mono (λ_ _ h=>h) (λ_ _ _=>rfl) λb hb=> .inl (YV b hb))
  (λ_ _=>rfl) (by simp) (λb hb=>by simp at hb) h2 (hF x) (by simp[rE,zdF,enc]) ⟨hg,λ_ _ h=>h,Nat.le_of_eq hB,λ_ _ h=>h⟩
 rcases G with⟨_,G⟩|⟨v,w',G,_⟩
 ·refine Calls.mono' G λe w' ⟨v,he,ρ',g1,g2,_⟩=>?_;subst he;refine⟨?_,g1.wx.os,g1.wx.tape,g1.wx.output,g1.wx.size,λk hk=>g1.old k hk λh=>h⟩;have g3:VR w' ρ' (qA WG ρ' (mE ⟨YD n,gB ats,gB [.v .bool],nD ats,F,rE [.v .bool],[(false,1)],[],false⟩ (cB ats x) [] 0 (rE [.v .bool] true))) v (.bool true):=g2;cases g3;rfl
 ·rw[N4]at G;cases G
omit [iA]in
def zqC{W W':World}(hb:Below W.heap.size W W'){b off:Nat}(h:b<W.heap.size):W'.frozen? ⟨b,off,none⟩=W.frozen? ⟨b,off,none⟩:=by
 simp only[World.frozen?,hb.block b h]
omit [iA]in
def ziv(hl:laidOutB P=true){W':World}(hb:Below W.heap.size W W'){sp':Nat→Bool}:∀(ts:List TypeId) (vs:List Value) (ds:List (DataW H)) (ps:List MemPlace),
  (∀t∈ts,P.readableRec t=true∧t<P.types.size)→DataW.TrodAll encH P W 0 (λ_=>true) true ts vs ds ps→(∀x∈ps,x.block<W.heap.size)→(∀x∈ps,sp' x.block=true)→DataW.TrodAll encH P W' 0 sp' true ts vs ds ps
 | [],vs,ds,ps,hr,h,FV,hs=>by
  cases vs<;>cases ds<;>simp[DataW.TrodAll]at h⊢
  exact h
 | t :: ts,vs,ds,ps,hr,h,FV,hs=>by
  obtain⟨v,vs',d,ds',p,q,rfl,rfl,rfl,h0,h1⟩:=ChangeShapes.trodAll_cons h
  refine⟨p,q,WideElems.Trod_stays hl (hr t (by simp)).1 (hr t (by simp)).2 h0 (λx hx=>hb.same (FV x (by simp[hx]))) (λx hx=>hs x (by simp[hx])),
   ziv hl hb ts vs' ds' q (λt ht=>hr t (List.mem_cons_of_mem _ ht)) h1 (λx hx=>FV x (by simp[hx])) (λx hx=>hs x (by simp[hx])),rfl⟩
omit [iA]in
def zuB(hl:laidOutB P=true){f:Func}{s:ChangeSpec}{apart fresh cX again:Bool}{W':World}{args:Array Value}{ds gs:List (DataW H)}{before:List MemPlace}
  (Z6:∀t∈f.params.toList,P.readableRec t=true∧t<P.types.size) (GX:s.vars=[]) (hW:DataW.Whole encH P f.params.toList s.vars apart W args.toList ds gs before) (hb:Below W.heap.size W W')
  {T:TypeId} (hT:f.resultTypes= #[T]) (ZX:P.underlying T=some .bool) (vY:s.fn H (ds++gs)={results:=[.lit (.bool true)],args:=ds}):
  s.post encH P f apart fresh cX again W args (.bool true) W':=by
 obtain⟨p,q,h1,h2,rfl,h3,h4⟩:=id hW;rw[GX]at h2;have hq:gs=[]∧q=[]:=by cases gs<;>simp[DataW.TrodVars]at h2;exact⟨rfl,h2⟩
 obtain⟨rfl,rfl⟩:=hq;have FV:∀x∈p,x.block<W.heap.size:=λx hx=>hW.lt x (by simp[hx])
 have mW:∀sp:Nat→Bool,(∀x∈p,sp x.block=true)→DataW.TrodAll encH P W' 0 sp true f.params.toList args.toList (s.fn H (ds++[])).args p:=λsp hs=>by
  rw[vY];exact ziv hl hb _ _ _ _ Z6 h1 FV hs
 have jX:∀(b:Nat) (sp:Nat→Bool) (hd:Bool),DataW.TrodAll encH P W' b sp hd f.resultTypes.toList ((Value.bool true).resultList f.resultTypes.size) (s.fn H (ds++[])).results []:=λb sp hd=>by
  rw[vY,hT];refine⟨[],[],RowKit.shut_bool ZX _,rfl,rfl⟩
 have rX:∀sp:Nat→Bool,DataW.TrodVars encH P W' sp s.vars (s.fn H (ds++[])).vars []:=λsp=>by
  rw[vY,GX];rfl
 have DZ:∀x∈p,(λb=>decide (b<W.heap.size)) x.block=true:=λx hx=>by simpa using FV x hx
 refine⟨ds,[],p++[],[],p,[],hW,jX _ _ _,mW _ DZ,rX _,?_,λ_=>⟨?_,_,_,([]++p)++[],⟨[]++p,[],trodAll_append (mW _ (λ_ _=>rfl)) (jX _ _ _),rX _,rfl,?_,?_⟩,?_⟩⟩
 ·refine⟨hb.os,hb.output,λi hi=>?_⟩;rw[hb.block i hi];exact(World.keptBut_refl W (λx=>x∈p++[]∧(x∈[]∨x∈p∨x∈[]))).2.2 i hi
 ·exact ok_one hT rfl (okWide_bool_mk ZX _)
 ·intro c off hp;have hp':MemPlace.cell c off∈p++[]:=by simpa using hp
  have:=FV (.cell c off) (by simpa using hp');rw[zqC (b:=c) (off:=off) hb this];exact h3 c off hp'
 ·intro ha;have:=h4 ha;simpa using this
 ·intro x hx _;simpa using hx
omit [iA]in
def zuW {f : Nat} {fn : Func} {body : Code} (hf : P.funcs[f]? = some fn) (hb : fn.body = some body) (xW : (fn.name == "runtime.NumGoroutine") = false) (args : Array Value) :
  (callFunc f args).run P W= .ok (.enter f args) W:=by
 have FX : ¬ fn.name = "runtime.NumGoroutine" := by simpa using xW
 simp[callFunc,program,hf,hb,FX,Sem.run]
omit [iA]in
def zuJ{g:Gl}(hg:g.p W){tn:TypeId→Option TN}{D:Nat}(hK:QM P tn D){f:Nat}{fn:Func}{body:Code}{ats:List Ty}{F:gB ats→Option Bool}{n:Nat}
  {tns:TypeId→Option TN} (hc:∀m:Nat,@vB ⟨tns,m⟩ P f ⟨YD n,gB ats,gB [.v .bool],nD ats,F,rE [.v .bool],[(false,1)],[],false⟩ g) (hn:ats.length=n) (hF:∀x,F x=some true)
  (hf : P.funcs[f]? = some fn) (hb : fn.body = some body) (xW : (fn.name == "runtime.NumGoroutine") = false) (ht : mN P tn D fn.params.toList ats = true)
  (hl:laidOutB P=true) (Z6:(fn.params.toList.all λt=>P.readableRec t&&Nat.blt t P.types.size)=true) {T:TypeId} (hT:fn.resultTypes= #[T]) (ZX:P.underlying T=some .bool)
  {s:ChangeSpec} (GX:s.vars=[]) {apart fresh cX again:Bool} {args:Array Value} {ds gs:List (DataW H)} {before:List MemPlace} {r:Reach} {b:Nat}
  (hW:DataW.Whole encH P fn.params.toList s.vars apart W args.toList ds gs before) (vY:gs=[]→s.fn H (ds++gs)={results:=[.lit (.bool true)],args:=ds})
  (SY:∀(j:Nat) t v,fn.params[j]?=some t→args[j]?=some v→Value.okWide P W r b t v):
  Calls P f args W λe W'=>∃v,e= .returned v∧s.post encH P fn apart fresh cX again W args v W':=by
 obtain⟨p,q,h1,h2,h3⟩:=id hW
 have hgs:gs=[]:=by
  rw[GX]at h2;cases gs
  ·rfl
  ·simp[DataW.TrodVars]at h2
 letI:iA:=⟨tns,W.heap.size⟩
 refine Calls.mono' (ztn rfl hK hg (hc W.heap.size) hn hF ht h1 (λj t v h5 h6=>SY j t v (by simpa using h5) h6) (zuW hf hb xW args)) λe W' ⟨he,hb⟩=>⟨_,he,zuB hl (λt ht=>?_) GX hW hb hT ZX (vY hgs)⟩;have:=List.all_eq_true.1 Z6 t ht;simpa using this
omit [iA]in
def zvI{tn:TypeId→Option TN}{D:Nat}(hK:QM P tn D){f:Nat}{fn:Func}{body:Code}{ats:List Ty}{F:gB ats→Option Bool}{n:Nat}
  {tns:TypeId→Option TN} (hc:∀m:Nat,@vB ⟨tns,m⟩ P f ⟨YD n,gB ats,gB [.v .bool],nD ats,F,rE [.v .bool],[(false,1)],[],false⟩ ZL) (hn:ats.length=n) (hF:∀x,F x=some true)
  (hf : P.funcs[f]? = some fn) (hb : fn.body = some body) (xW : (fn.name == "runtime.NumGoroutine") = false) (ht : mN P tn D fn.params.toList ats = true)
  (hl:laidOutB P=true) (Z6:(fn.params.toList.all λt=>P.readableRec t&&Nat.blt t P.types.size)=true) {T:TypeId} (hT:fn.resultTypes= #[T]) (ZX:P.underlying T=some .bool)
  {s:ChangeSpec} (GX:s.vars=[]) {apart fresh cX again:Bool} {args:Array Value} {ds gs:List (DataW H)} {before:List MemPlace} {r:Reach} {b:Nat}
  (hW:DataW.Whole encH P fn.params.toList s.vars apart W args.toList ds gs before) (vY:gs=[]→s.fn H (ds++gs)={results:=[.lit (.bool true)],args:=ds})
  (SY:∀(j:Nat) t v,fn.params[j]?=some t→args[j]?=some v→Value.okWide P W r b t v):
  Calls P f args W λe W'=>∃v,e= .returned v∧s.post encH P fn apart fresh cX again W args v W':=
 zuJ (g:=ZL) trivial hK hc hn hF hf hb xW ht hl Z6 hT ZX GX hW vY SY
end
end Go.D

/-
 A body's end: what the function gives.
-/
import Derived.Test.YthmhafeaiaigoaaGreatL6
import Derived.Test.YthmhafeaiaigoaaGreatL5
import Derived.Carry
import Derived.WideKeyArgs
import Derived.ChangeSame
set_option linter.all false
namespace Go.D
variable [jA]
omit [jA]in
def aC.app{a b c d:List V}(h:aC a b)(k:aC c d):aC (a++c) (b++d):=by
 induction h with
 | nil=>exact k
 | cons h1 _ ih=>exact .cons h1 ih
omit [jA]in
def zjf(t:Ty)(vs:List V)(x:t.T×List V)(h:GH t vs=some x):∃us,vs=us++x.2∧aC us (zdZ t x.1):=by
 cases t with
 | v t=>
  simp only[GH]at h;obtain⟨a,h1,h2⟩:=Option.bind_eq_some_iff.1 h;cases h2;exact⟨_,(List.take_append_drop _ _).symm,JF t h1⟩
 | cells t=>
  simp only[GH]at h;obtain⟨a,h1,h2⟩:=Option.bind_eq_some_iff.1 h;cases h2;exact⟨_,(List.take_append_drop _ _).symm,JF t h1⟩
 | sl t=>
  cases vs with
  | nil=>simp[GH]at h
  | cons v vs=>
   simp only[GH]at h;obtain⟨a,h1,h2⟩:=Option.bind_eq_some_iff.1 h;cases h2;exact⟨[v],rfl, .cons (YA h1) .nil⟩
 | raw=>
  cases vs with
  | nil=>simp[GH]at h
  | cons v vs=>simp only[GH,Option.some.injEq]at h;subst h;exact⟨[v],rfl, .cons (.refl _) .nil⟩
 | pt=>simp[GH]at h
 | c1=>simp[GH]at h
 | p1=>simp[GH]at h
 | c2=>simp[GH]at h
omit [jA]in
def zfI:∀(ts:List Ty) (vs:List V) (x:eB ts),qJ ts vs=some x→aC vs (vE ts x)
 | [],[],x,h=> .nil
 | [],_ :: _,x,h=>by simp[qJ]at h
 | [t],vs,x,h=>by
  simp only[qJ]at h;obtain⟨y,h1,h2⟩:=Option.bind_eq_some_iff.1 h;obtain⟨us,h3,h4⟩:=zjf t vs y h1;split at h2
  ·rename_i h5;cases h2;rw[h5,List.append_nil]at h3;subst h3;exact h4
  ·cases h2
 | t :: d :: r,vs,x,h=>by
  simp only[qJ]at h;obtain⟨y,h1,h2⟩:=Option.bind_eq_some_iff.1 h;obtain⟨z,h3,h4⟩:=Option.bind_eq_some_iff.1 h2;cases h4;obtain⟨us,h5,h6⟩:=zjf t vs y h1;rw[h5];exact h6.app (zfI (d :: r) _ z h3)
section
variable {C:Cx} {w0:World} {outer own D:Nat→Prop} {R:Type} {st st1 st2:St} {ρ ρ1 ρ2:Nat→Option RI} {a a1 a2:Act} {w w1 w2:World} {j:JI}
omit [jA]in
def zkH(an:An):∀c:Code,vI an (λ_=>True) c:=by
 have jd:∀o,JD (λ_=>True) o:=λo=>by cases o<;>simp[JD]
 intro c;induction c with
 | region id ops d=>exact⟨λ_ _ _ _=>trivial,jd _⟩
 | seq x y hx hy=>exact⟨hx,hy⟩
 | cond c x y hx hy=>cases c<;>first | exact⟨hx,hy,jd _⟩ | exact⟨hx,hy⟩
 | block id x hx=>exact⟨hx,jd _⟩
 | loop x hx=>
  refine⟨hx,?_⟩;split
  ·exact jd _
  ·trivial
 | scope x hx=>exact hx
 | _=>trivial
omit [jA]in
def zb2(ow:List Nat)(B:Nat)(e:V)(es:List V)(p q:Nat)(h:q≠p):cB ow B (λ_=>none) p (e :: es) (B+q)=cB ow B (λ_=>none) (p+1) es (B+q):=by
 cases e<;>simp only[cB]
 cases hb:ow.any (Nat.beq p)
 ·rfl
 ·simp only[cond_true];rw[DA _ _ _ _ (by omega)]
omit [jA]in
def zf9(ow:List Nat)(B:Nat):∀(cs es:List V) (p q:Nat) (row:uA),aC cs es→cB ow B (λ_=>none) p es (B+q)=some row→
  cB ow B (λ_=>none) p cs (B+q)=some row∨(cB ow B (λ_=>none) p cs (B+q)=none∧∃t,row=⟨.arr t [], .own⟩)
 | [],_,p,q,row,hs,h=>by cases hs;simp[cB]at h
 | c :: cs,_,p,q,row,hs,h=>by
  cases hs with
  | cons OY IX=>
  rename_i e es
  by_cases hq:q=p
  ·subst hq;cases OY with
   | refl=>
    have hn:∀l:List V,cB ow B (λ_=>none) (q+1) l (B+q)=none:=λl=>dE _ _ _ _ _ (by omega);left;cases c<;>simp only[cB]at h⊢ <;>try (rw[hn]at h;cases h)
    cases hb:ow.any (Nat.beq q)
    ·simp only[hb,cond_false]at h;rw[hn]at h;cases h
    ·simp only[hb,cond_true,RA]at h⊢;exact h
   | byte n=>simp only[cB]at h;rw[dE _ _ _ _ _ (by omega)]at h;cases h
   | nil t=>
    right;simp only[cB]at h⊢;refine⟨dE _ _ _ _ _ (by omega),?_⟩;cases hb:ow.any (Nat.beq q)
    ·simp only[hb,cond_false]at h;rw[dE _ _ _ _ _ (by omega)]at h;cases h
    ·simp only[hb,cond_true,RA]at h;cases h;exact⟨t,rfl⟩
  ·rw[zb2 _ _ _ _ _ _ hq]at h⊢;exact zf9 ow B cs es (p+1) q row IX h
def zf1(ow:List Nat)(B:Nat){bad bad2:Nat→Prop}{ρ2:Nat→Option RI}(hk:∀u d,VR w ρ bad u d→VR w ρ2 bad2 u d):∀(cs es:List V) (p:Nat) (u:Nat→Value),aC cs es→
  (∀q t,p≤q→cB ow B (λ_=>none) p cs (B+q)=none→cB ow B (λ_=>none) p es (B+q)=some ⟨.arr t [], .own⟩→ρ2 (B+q)=some ⟨0,0,0,true⟩)→
  (∀j (hj:j<(SA ow B p cs).length),VR w ρ bad (u j) (SA ow B p cs)[j])→∀j (hj:j<(SA ow B p es).length),VR w ρ2 bad2 (u j) (SA ow B p es)[j]
 | [],_,p,u,hs,hn,hv,j,hj=>by cases hs;simp[SA]at hj
 | c :: cs,_,p,u,hs,hn,hv,j,hj=>by
  cases hs with
  | cons OY IX=>
  rename_i e es;have hd:∀(c:V) (cs:List V),∃c',SA ow B p (c :: cs)=c' :: SA ow B (p+1) cs:=λc cs=>by cases c<;>exact⟨_,rfl⟩
  obtain⟨c',mZ⟩:=hd c cs;obtain⟨e',CX⟩:=hd e es
  have F3:∀j (hj:j<(c' :: SA ow B (p+1) cs).length),VR w ρ bad (u j) (c' :: SA ow B (p+1) cs)[j]:=λj hj=>by
   have:=hv j (by rw[mZ];exact hj);simpa only[mZ]using this
  have ih:=zf1 ow B hk cs es (p+1) (λj=>u (j+1)) IX (λq t h1 h2 h3=>hn q t (by omega) (by rw[zb2 _ _ _ _ _ _ (by omega)];exact h2) (by rw[zb2 _ _ _ _ _ _ (by omega)];exact h3))
   (λj hj=>by have:=F3 (j+1) (by simp;omega);simpa using this)
  have BX:=F3 0 (by simp);simp only[List.getElem_cons_zero]at BX
  have goal0:VR w ρ2 bad2 (u 0) e':=by
   cases OY with
   | refl=>
    have:e'=c':=by
     have h1:=congrArg List.head? mZ;have h2:=congrArg List.head? CX;cases c<;>simp[SA]at h1 h2<;>rw[←h1, ←h2]
    rw[this];exact hk _ _ BX
   | byte n=>
    have h1:=congrArg List.head? mZ;have h2:=congrArg List.head? CX;simp only[SA,List.head?_cons,Option.some.injEq]at h1 h2;subst h1;subst h2;exact hk _ _ (VR.sub (.byte n) BX)
   | nil t=>
    have h1:=congrArg List.head? mZ;have h2:=congrArg List.head? CX;simp only[SA,List.head?_cons,Option.some.injEq]at h1 h2;subst h1;have I0:u 0= .slice none 0 0:=by generalize u 0=x at BX;cases BX;rfl
    cases hb:ow.any (Nat.beq p)
    ·simp only[hb,cond_false]at h2;subst h2;rw[I0];exact .slE _ _ _ (Nat.zero_le _)
    ·simp only[hb,cond_true]at h2;subst h2;rw[I0];refine .owN _ ⟨0,0,0,true⟩ none (hn p t (Nat.le_refl _) ?_ ?_) rfl rfl
     ·simp only[cB];exact dE _ _ _ _ _ (by omega)
     ·simp only[cB,hb,cond_true,RA]
  cases j with
  | zero=>simp only[CX,List.getElem_cons_zero];exact goal0
  | succ j=>simp only[CX,List.getElem_cons_succ];exact ih j (by rw[CX]at hj;simpa using hj)
omit [jA]in
def zj1{t:Ty}{ats:List Ty}{as:List V}{x:eB (t :: ats)}(hd:uD (t :: ats) as=some x):
  ∃v vs y,as=v :: vs∧∃(x0:t.T),nE t v=some x0∧uD ats vs=some y∧fB (t :: ats) x=WC t x0 :: fB ats y:=by
 cases ats with
 | nil=>
  cases as with
  | nil=>simp[uD]at hd
  | cons v vs=>
   cases vs with
   | nil=>exact⟨v,[],(),rfl,x,by simpa[uD]using hd,rfl,rfl⟩
   | cons=>simp[uD]at hd
 | cons d r=>
  cases as with
  | nil=>simp[uD]at hd
  | cons v vs=>
   simp only[uD]at hd;obtain⟨x0,h1,h2⟩:=Option.bind_eq_some_iff.1 hd;obtain⟨y,h3,h4⟩:=Option.bind_eq_some_iff.1 h2;cases h4;exact⟨v,vs,y,rfl,x0,h1,h3,rfl⟩
omit [jA]in
def KG:∀(ks:List sB) (k:Nat) (as:List V) (q:Nat) (row:uA),FA ks k as q=some row→128 *k≤q
  | [],k,as,q,row,h=>by cases as<;>simp[FA]at h
  | .plain :: ks,k,[],q,row,h=>by simp[FA]at h
  | .plain :: ks,k,a :: as,q,row,h=>by
   have:=KG ks (k+1) as q row (by simpa only[FA]using h);omega
  | .mv ow :: ks,k,[],q,row,h=>by simp[FA]at h
  | .mv ow :: ks,k,a :: as,q,row,h=>by
   cases a<;>simp only[FA]at h<;>try (cases h;done)
   rw[xC]at h;split at h
   ·rename_i x hx;obtain⟨_,_,_,h1,_⟩:=LE _ _ _ _ _ _ hx;omega
   ·have:=KG ks (k+1) as q row h;omega
  | .ptr ow :: ks,k,[],q,row,h=>by simp[FA]at h
  | .ptr ow :: ks,k,a :: as,q,row,h=>by
   cases a<;>simp only[FA]at h<;>try (cases h;done)
   by_cases hq:q=128 *k+127
   ·omega
   ·rw[DA _ _ _ _ hq,xC]at h;split at h
    ·rename_i x hx;obtain⟨_,_,_,h1,_⟩:=LE _ _ _ _ _ _ hx;omega
    ·have:=KG ks (k+1) as q row h;omega
def zlA{bad bad2:Nat→Prop}{ρ2:Nat→Option RI}(TX:∀u d,VR w ρ bad u d→VR w ρ2 bad2 u d):∀(ks:List sB) (ats:List Ty) (as:List V) (x:eB ats) (k:Nat) (u:Nat→Value),FC ks ats=true→uD ats as=some x→
  (∀q t,FA ks k as q=none→FA ks k (fB ats x) q=some ⟨.arr t [], .own⟩→ρ2 q=some ⟨0,0,0,true⟩)→
  (∀j (hj:j<(SB ks k as).length),VR w ρ bad (u j) (SB ks k as)[j])→
  (SB ks k (fB ats x)).length=(SB ks k as).length∧∀j (hj:j<(SB ks k (fB ats x)).length),VR w ρ2 bad2 (u j) (SB ks k (fB ats x))[j]:=by
 intro ks;induction ks with
 | nil=>
  intro ats as x k u hk hd hn hv;cases ats with
  | nil=>cases as with
   | nil=>exact⟨rfl,λj hj=>by simp[SB]at hj⟩
   | cons=>simp[uD]at hd
  | cons=>simp[FC]at hk
 | cons q ks ih=>
  intro ats as x k u hk hd hn hv;cases ats with
  | nil=>cases q<;>simp[FC]at hk
  | cons t ats=>
   obtain⟨v,vs,y,rfl,x0,h1,h3,h4⟩:=zj1 hd;rw[h4]at hn⊢;cases q with
   | plain=>
    simp only[FC]at hk;obtain⟨e1,e2⟩:=ih ats vs y (k+1) (λj=>u (j+1)) hk h3 (λq t a b=>hn q t a b) (λj hj=>hv (j+1) (by simp[SB];omega));refine⟨by simp[SB,e1],λj hj=>?_⟩;cases j with
    | zero=>exact TX _ _ (zlm t v x0 h1 (hv 0 (by simp[SB])))
    | succ j=>exact e2 j (by simpa[SB]using hj)
   | ptr ow=>
    cases t with
    | cells t=>
     simp only[FC,Bool.and_eq_true]at hk;have YV:=Nat.le_of_ble_eq_true hk.1;simp only[nE]at h1;split at h1
     case h_2=>cases h1
     rename_i cs;have yW:(enc t x0).length=sz t:=oD t x0;have L3:cs.length=sz t:=by rw[(JF t h1).len,yW]
     obtain⟨e1,e2⟩:=ih ats vs y (k+1) (λj=>u (j+1)) hk.2 h3 (λq t' a b=>by
      have zY:=KG ks (k+1) _ q _ b;refine hn q t' ?_ ?_
      ·simp only[FA];rw[DA _ _ _ _ (by omega),xC,dE _ _ _ _ _ (by omega)];exact a
      ·simp only[FA,WC];rw[DA _ _ _ _ (by omega),xC,dE _ _ _ _ _ (by omega)];exact b) (λj hj=>hv (j+1) (by simp[SB];omega))
     refine⟨by simp[SB,e1],λj hj=>?_⟩;cases j with
     | zero=>exact TX _ _ (hv 0 (by simp[SB]))
     | succ j=>exact e2 j (by simpa[SB]using hj)
    | _=>simp[FC]at hk
   | mv ow=>
    cases t with
    | v t=>
     simp only[FC,Bool.and_eq_true]at hk;obtain⟨⟨DW,YV⟩,hk⟩:=hk;have YV:=Nat.le_of_ble_eq_true YV;simp only[nE]at h1;split at h1
     case h_2=>simp[DW]at h1
     rename_i cs;simp only[DW,cond_true]at h1;have EW:=JF t h1;have yW:(enc t x0).length=sz t:=oD t x0;have L3:cs.length=sz t:=by rw[EW.len,yW]
     have U6:WC (.v t) x0= .agg (enc t x0):=by simp only[WC,yK,DW,cond_true]
     rw[U6]at hn⊢
     obtain⟨e1,e2⟩:=ih ats vs y (k+1) (λj=>u (j+1)) hk h3 (λq t' a b=>by
      have zY:=KG ks (k+1) _ q _ b;refine hn q t' ?_ ?_
      ·simp only[FA];rw[xC,dE _ _ _ _ _ (by omega)];exact a
      ·simp only[FA];rw[xC,dE _ _ _ _ _ (by omega)];exact b) (λj hj=>hv (j+1) (by simp[SB];omega))
     refine⟨by simp[SB,e1],λj hj=>?_⟩;cases j with
     | zero=>
      have BX:=hv 0 (by simp[SB]);simp only[SB,List.getElem_cons_zero]at BX⊢;generalize u 0=u0 at BX;cases BX with
      | agg _ vsA hs JX=>
      rw[DF]at hs;refine .agg _ vsA (by rw[DF,hs,yW,L3]) ?_;refine zf1 ow (128 *k) TX cs (enc t x0) 0 (λj=>vsA.getD j undef) EW (λp t' _ h5 h6=>?_) JX;obtain⟨_,_,_,e3,e4⟩:=LE _ _ _ _ _ _ h6;refine hn _ t' ?_ ?_
      ·simp only[FA];rw[xC,h5];show FA ks (k+1) vs (128 *k+p)=none
       cases hr:FA ks (k+1) vs (128 *k+p)with
       | none=>rfl
       | some z=>have:=KG ks (k+1) vs _ z hr;omega
      ·simp only[FA];rw[xC,h6]
     | succ j=>exact e2 j (by simpa[SB]using hj)
    | _=>simp[FC]at hk
omit [jA]in
def zvB:∀(ks:List sB) (ats:List Ty) (as:List V) (x:eB ats) (k:Nat),FC ks ats=true→uD ats as=some x→
  (∀q row,FA ks k as q=some row→q<128 *(k+ks.length))∧
  ∀q row',FA ks k (fB ats x) q=some row'→q<128 *(k+ks.length)∧(FA ks k as q=some row'∨(FA ks k as q=none∧∃t,row'=⟨.arr t [], .own⟩)∨
   ∃ow B cs es,FA ks k as q=some ⟨.box (SA ow B 0 cs), .own⟩∧row'=⟨.box (SA ow B 0 es), .own⟩∧aC cs es∧
    ∀p t,cB ow B (λ_=>none) 0 cs (B+p)=none→cB ow B (λ_=>none) 0 es (B+p)=some ⟨.arr t [], .own⟩→FA ks k as (B+p)=none∧FA ks k (fB ats x) (B+p)=some ⟨.arr t [], .own⟩):=by
 intro ks;induction ks with
 | nil=>
  intro ats as x k hk hd;refine⟨λq row h=>by cases as<;>simp[FA]at h,λq row' h=>?_⟩;cases ats with
  | nil=>simp[FA]at h
  | cons=>simp[FC]at hk
 | cons g ks ih=>
  intro ats as x k hk hd;cases ats with
  | nil=>cases g<;>simp[FC]at hk
  | cons t ats=>
   obtain⟨v,vs,y,rfl,x0,h1,h3,h4⟩:=zj1 hd;rw[h4];cases g with
   | plain=>
    simp only[FC]at hk;obtain⟨i1,i2⟩:=ih ats vs y (k+1) hk h3;refine⟨λq row h=>?_,λq row' h=>?_⟩
    ·simp only[FA]at h;have:=i1 q row h;simp only[List.length_cons];omega
    ·simp only[FA]at h⊢;obtain⟨j1,j2⟩:=i2 q row' h;exact⟨by simp only[List.length_cons];omega,j2⟩
   | ptr ow=>
    cases t with
    | cells t=>
     simp only[FC,Bool.and_eq_true]at hk;obtain⟨YV,hk⟩:=hk;have YV:=Nat.le_of_ble_eq_true YV;simp only[nE]at h1;split at h1
     case h_2=>cases h1
     rename_i cs;obtain⟨i1,i2⟩:=ih ats vs y (k+1) hk h3;have EW:=JF t h1;have yW:(enc t x0).length=sz t:=oD t x0;have L3:cs.length=sz t:=by rw[EW.len,yW]
     refine⟨λq row h=>?_,λq row' h=>?_⟩
     ·simp only[List.length_cons];simp only[FA]at h
      by_cases hq:q=128 *k+127
      ·omega
      ·rw[DA _ _ _ _ hq,xC]at h;split at h
       ·rename_i z hz;obtain⟨_,_,_,e1,e2⟩:=LE _ _ _ _ _ _ hz;omega
       ·have:=i1 q row h;omega
     ·simp only[List.length_cons];simp only[WC,FA]at h
      by_cases hq:q=128 *k+127
      ·subst hq;rw[RA]at h;cases h;refine⟨by omega, .inr (.inr ⟨ow,128 *k,cs,enc t x0,by simp only[FA];exact RA _ _ _,rfl,EW,λp t' e1 e2=>?_⟩)⟩;obtain⟨_,_,_,e3,e4⟩:=LE _ _ _ _ _ _ e2;have SY:128 *k+p≠128 *k+127:=by omega
       simp only[FA,WC];rw[DA _ _ _ _ SY,DA _ _ _ _ SY,xC,xC ow (128 *k) (FA ks (k+1) (fB ats y)),e1,e2];refine⟨?_,rfl⟩;cases hr:FA ks (k+1) vs (128 *k+p)with
       | none=>rfl
       | some z=>have:=KG ks (k+1) vs _ z hr;omega
      ·rw[DA _ _ _ _ hq,xC]at h;split at h
       ·rename_i z hz;cases h;obtain⟨_,_,_,e1,e2⟩:=LE _ _ _ _ _ _ hz;refine⟨by omega,?_⟩;have oZ:=hz;rw[show q=128 *k+(q - 128 *k) by omega]at oZ
        rcases zf9 ow (128 *k) cs (enc t x0) 0 _ _ EW oZ with h5 | ⟨h5,h6⟩<;>rw[show 128 *k+(q - 128 *k)=q by omega]at h5
        ·left;simp only[FA];rw[DA _ _ _ _ hq,xC,h5]
        ·right;left;refine⟨?_,h6⟩;simp only[FA];rw[DA _ _ _ _ hq,xC,h5];show FA ks (k+1) vs q=none
         cases hr:FA ks (k+1) vs q with
         | none=>rfl
         | some z=>have:=KG ks (k+1) vs _ z hr;omega
       ·rename_i hz;obtain⟨j1,j2⟩:=i2 q row' h;have zY:=KG ks (k+1) _ q row' h
        have lift:∀q',128 *(k+1)≤q'→FA (.ptr ow :: ks) k (.agg cs :: vs) q'=FA ks (k+1) vs q'∧FA (.ptr ow :: ks) k (.agg (enc t x0) :: fB ats y) q'=FA ks (k+1) (fB ats y) q':=λq' mY=>by
         simp only[FA];rw[DA _ _ _ _ (by omega),DA _ _ _ _ (by omega),xC,xC ow (128 *k) (FA ks (k+1) (fB ats y)),dE _ _ _ _ _ (by omega),dE _ _ _ _ _ (by omega)];exact⟨rfl,rfl⟩
        obtain⟨l1,l2⟩:=lift q (by omega);refine⟨by omega,?_⟩;rw[l1]
        rcases j2 with j2 | j2 | ⟨ow',B,cs',es',j2,j3,j4,j5⟩
        ·exact .inl j2
        ·exact .inr (.inl j2)
        ·refine .inr (.inr ⟨ow',B,cs',es',j2,j3,j4,λp t' e1 e2=>?_⟩);obtain⟨j6,j7⟩:=j5 p t' e1 e2;have:=KG ks (k+1) _ _ _ j7;obtain⟨l3,l4⟩:=lift (B+p) (by omega);show FA (.ptr ow :: ks) k (.agg cs :: vs) (B+p)=none∧FA (.ptr ow :: ks) k (.agg (enc t x0) :: fB ats y) (B+p)=_
         rw[l3,l4];exact⟨j6,j7⟩
    | _=>simp[FC]at hk
   | mv ow=>
    cases t with
    | v t=>
     simp only[FC,Bool.and_eq_true]at hk;obtain⟨⟨DW,YV⟩,hk⟩:=hk;have YV:=Nat.le_of_ble_eq_true YV;simp only[nE]at h1;split at h1
     case h_2=>simp[DW]at h1
     rename_i cs;simp only[DW,cond_true]at h1;obtain⟨i1,i2⟩:=ih ats vs y (k+1) hk h3;have EW:=JF t h1;have yW:(enc t x0).length=sz t:=oD t x0;have L3:cs.length=sz t:=by rw[EW.len,yW]
     have U6:WC (.v t) x0= .agg (enc t x0):=by simp only[WC,yK,DW,cond_true]
     rw[U6];refine⟨λq row h=>?_,λq row' h=>?_⟩
     ·simp only[List.length_cons];simp only[FA]at h;rw[xC]at h;split at h
      ·rename_i z hz;obtain⟨_,_,_,e1,e2⟩:=LE _ _ _ _ _ _ hz;omega
      ·have:=i1 q row h;omega
     ·simp only[List.length_cons];simp only[FA]at h;rw[xC]at h;split at h
      ·rename_i z hz;cases h;obtain⟨_,_,_,e1,e2⟩:=LE _ _ _ _ _ _ hz;refine⟨by omega,?_⟩;have oZ:=hz;rw[show q=128 *k+(q - 128 *k) by omega]at oZ
       rcases zf9 ow (128 *k) cs (enc t x0) 0 _ _ EW oZ with h5 | ⟨h5,h6⟩<;>rw[show 128 *k+(q - 128 *k)=q by omega]at h5
       ·left;simp only[FA];rw[xC,h5]
       ·right;left;refine⟨?_,h6⟩;simp only[FA];rw[xC,h5];show FA ks (k+1) vs q=none
        cases hr:FA ks (k+1) vs q with
        | none=>rfl
        | some z=>have:=KG ks (k+1) vs _ z hr;omega
      ·rename_i hz;obtain⟨j1,j2⟩:=i2 q row' h;have zY:=KG ks (k+1) _ q row' h
       have lift:∀q',128 *(k+1)≤q'→FA (.mv ow :: ks) k (.agg cs :: vs) q'=FA ks (k+1) vs q'∧FA (.mv ow :: ks) k (.agg (enc t x0) :: fB ats y) q'=FA ks (k+1) (fB ats y) q':=λq' mY=>by
        simp only[FA];rw[xC,xC ow (128 *k) (FA ks (k+1) (fB ats y)),dE _ _ _ _ _ (by omega),dE _ _ _ _ _ (by omega)];exact⟨rfl,rfl⟩
       obtain⟨l1,l2⟩:=lift q (by omega);refine⟨by omega,?_⟩;rw[l1]
       rcases j2 with j2 | j2 | ⟨ow',B,cs',es',j2,j3,j4,j5⟩
       ·exact .inl j2
       ·exact .inr (.inl j2)
       ·refine .inr (.inr ⟨ow',B,cs',es',j2,j3,j4,λp t' e1 e2=>?_⟩);obtain⟨j6,j7⟩:=j5 p t' e1 e2;have:=KG ks (k+1) _ _ _ j7;obtain⟨l3,l4⟩:=lift (B+p) (by omega);rw[l3,l4];exact⟨j6,j7⟩
    | _=>simp[FC]at hk
def zlg{ks:List sB}{ats:List Ty}{as:List V}{x:eB ats}(yY:FC ks ats=true)(hd:uD ats as=some x)(hh:rB w0 outer own ρ (FA ks 0 as) w)(OW:∀q,FA ks 0 as q=none→ρ q=none):
  ∃ρ2,rB w0 outer own ρ2 (FA ks 0 (fB ats x)) w∧(∀u d,VR w ρ (tA outer ρ (FA ks 0 as)) u d→VR w ρ2 (tA outer ρ2 (FA ks 0 (fB ats x))) u d)∧
   (∀q ri,ρ q=some ri→ρ2 q=some ri)∧(∀q,128 *ks.length≤q→ρ2 q=none)∧∀q row,FA ks 0 as q=none→FA ks 0 (fB ats x) q=some row→ρ2 q=some ⟨0,0,0,true⟩:=by
 have hEE:∀q row,FA ks 0 as q=none→FA ks 0 (fB ats x) q=some row→ρ q=none:=λq _ h _=>OW q h;obtain⟨r1,r2⟩:=zvB ks ats as x 0 yY hd;generalize hE:FA ks 0 as=h at *;generalize hE2:FA ks 0 (fB ats x)=h2 at *
 let ρ2:Nat→Option RI:=λq=>match ρ q with
  | some ri=>some ri
  | none=>if(h2 q).isSome=true then some ⟨0,0,0,true⟩else none
 have e1:∀q ri,ρ q=some ri→ρ2 q=some ri:=λq ri hq=>by simp only[ρ2,hq]
 have e2:∀q row,ρ q=none→h2 q=some row→ρ2 q=some ⟨0,0,0,true⟩:=λq row hq hr=>by simp only[ρ2,hq,hr];rfl
 have e3:∀q,ρ q=none→h2 q=none→ρ2 q=none:=λq hq hr=>by simp only[ρ2,hq,hr];rfl
 have bW:∀b,tA outer ρ2 h2 b→tA outer ρ h b:=by
  rintro b (hb | ⟨q,row,ri,f1,f2,f3,f4,f5⟩)
  ·exact .inl hb
  ·rcases(r2 q row f1).2 with g | ⟨g,_⟩ | ⟨ow,B,cs,es,g,_⟩
   ·obtain⟨ri',k1,_⟩:=hh.rows q _ g;rw[e1 _ _ k1]at f3;cases f3;exact .inr ⟨q,row,_,g,f2,k1,f4,f5⟩
   ·rw[e2 q row (OW q g) f1]at f3;cases f3;cases f4
   ·obtain⟨ri',k1,_⟩:=hh.rows q _ g;rw[e1 _ _ k1]at f3;cases f3;exact .inr ⟨q,_,_,g,rfl,k1,f4,f5⟩
 have hk:∀u d,VR w ρ (tA outer ρ h) u d→VR w ρ2 (tA outer ρ2 h2) u d:=λu d hu=>hu.mono e1 (λ_ _ _=>rfl) λb hb=> .inl (bW b hb)
 have ZZ:∀q row' ri,h2 q=some row'→ρ2 q=some ri→ri.nl=false→∃row,h q=some row∧ρ q=some ri:=λq row' ri f1 f3 f4=>by
  rcases(r2 q row' f1).2 with g | ⟨g,_⟩ | ⟨ow,B,cs,es,g,_⟩
  ·obtain⟨ri',k1,_⟩:=hh.rows q _ g;rw[e1 _ _ k1]at f3;cases f3;exact⟨_,g,k1⟩
  ·rw[e2 q row' (OW q g) f1]at f3;cases f3;cases f4
  ·obtain⟨ri',k1,_⟩:=hh.rows q _ g;rw[e1 _ _ k1]at f3;cases f3;exact⟨_,g,k1⟩
 refine⟨ρ2,⟨hh.wx,hh.old,hh.outLt,λr row' hr=>?_,λq q' row row' qi qi' h1 h2 h3 h4 h5 h6 h7=>?_⟩,hk,e1,λq hq=>?_,λq row h1 h2=>e2 q row (OW q h1) h2⟩
 ·rcases(r2 r row' hr).2 with g | ⟨g,t,rfl⟩ | ⟨ow,B,cs,es,g,rfl,g2,g3⟩
  ·obtain⟨ri,k1,k2,k3⟩:=hh.rows r _ g;exact⟨ri,e1 _ _ k1,k2.keep (λ_=>rfl) hk,k3⟩
  ·exact⟨⟨0,0,0,true⟩,e2 r _ (OW r g) hr,⟨rfl, .inl ⟨rfl,rfl⟩⟩,λhn=>by cases hn⟩
  ·obtain⟨ri,k1,k2,k3⟩:=hh.rows r _ g;refine⟨ri,e1 _ _ k1,⟨k2.1,λj hj=>?_⟩,k3⟩;have hl:(SA ow B 0 es).length=(SA ow B 0 cs).length:=by rw[DF,DF,g2.len]
   obtain⟨f1,u,f2,f3⟩:=k2.2 j (by rw[←hl];exact hj);refine⟨f1,u,f2,?_⟩
   have:=zf1 (w:=w) (ρ:=ρ) ow B hk cs es 0 (λj=>(w.cell? (at_ ri.b j)).getD undef) g2 (λq t _ h5 h6=>by
    obtain⟨g4,g5⟩:=g3 q t h5 h6;exact e2 _ _ (OW _ g4) g5) (λj hj=>by
    obtain⟨_,u,f2,f3⟩:=k2.2 j hj;rw[f2];exact f3) j hj
   rw[f2]at this;exact this
 ·obtain⟨_,g1,g2⟩:=ZZ _ _ _ h1 h3 h5;obtain⟨_,g3,g4⟩:=ZZ _ _ _ h2 h4 h6;exact hh.inj q q' _ _ qi qi' g1 g3 g2 g4 h5 h6 h7
 ·refine e3 q (OW q ?_) ?_
  ·cases T2:h q with
   | none=>rfl
   | some row=>have:=r1 q row T2;omega
  ·cases T2:h2 q with
   | none=>rfl
   | some row=>have:=(r2 q row T2).1;omega
end
end Go.D
namespace Go.D
variable [jA]
section
variable {C:Cx} {w0:World} {outer own D:Nat→Prop} {R:Type} {st st1 st2:St} {ρ ρ1 ρ2:Nat→Option RI} {a a1 a2:Act} {w w1 w2:World} {j:JI}
omit [jA]in
def zcw{α:Type}(l m:List α)(i:Nat)(d:α)(h:i<l.length):(l++m).getD i d=l.getD i d:=by
 rw[List.getD_eq_getElem?_getD,List.getD_eq_getElem?_getD,List.getElem?_append_left h]
omit [jA]in
def zcz{α:Type}(l m:List α)(i:Nat)(d:α)(h:l.length≤i):(l++m).getD i d=m.getD (i - l.length) d:=by
 rw[List.getD_eq_getElem?_getD,List.getD_eq_getElem?_getD,List.getElem?_append_right h]
inductive zJ:List (Bool×Nat)→List Value→List Value→Prop
 | nil:zJ [] [] []
 | agg {n:Nat} {sh:List (Bool×Nat)} {rv cells:List Value} (vs:Array Value) (h:vs.size=n) (hr:zJ sh rv cells):zJ ((true,n) :: sh) (.agg vs :: rv) (vs.toList++cells)
 | one {sh:List (Bool×Nat)} {rv cells:List Value} (v:Value) (hr:zJ sh rv cells):zJ ((false,1) :: sh) (v :: rv) (v :: cells)
omit [jA]in
def zJ.len{sh:List (Bool×Nat)}{rv cells:List Value}(h:zJ sh rv cells):kL sh=cells.length∧rv.length=sh.length:=by
 induction h with
 | nil=>exact⟨rfl,rfl⟩
 | agg vs h hr ih=>simp only[kL,List.map_cons,List.sum_cons,List.length_append,Array.length_toList,List.length_cons]at ih⊢;omega
 | one v hr ih=>simp only[kL,List.map_cons,List.sum_cons,List.length_cons]at ih⊢;omega
def zun{bad:Nat→Prop}{sh:List (Bool×Nat)}{rv cells:List Value}(h:zJ sh rv cells):∀X:List V,cells.length≤X.length→(∀j (hj:j<X.length),j<cells.length→VR w ρ bad (cells.getD j undef) X[j])→
  (UE sh X).length=rv.length∧∀i (hi:i<(UE sh X).length),VR w ρ bad (rv.getD i undef) (UE sh X)[i]:=by
 induction h with
 | nil=>intro X _ _;exact⟨rfl,λi hi=>by simp[UE]at hi⟩
 | agg vs YV hr ih=>
  rename_i n sh rv cells;intro X hX hv;simp only[List.length_append,Array.length_toList]at hX
  obtain⟨h1,h2⟩:=ih (X.drop n) (by simp;omega) (λj hj aX=>by
   have:=hv (n+j) (by simp at hj;omega) (by simp;omega);rw[List.getElem_drop];rw[zcz _ _ _ _ (by simp;omega)]at this;simpa[YV]using this)
  refine⟨by simp[UE,h1],λi hi=>?_⟩;cases i with
  | zero=>
   show VR w ρ bad (.agg vs) (.agg (X.take n))
   refine .agg _ _ (by simp;omega) λj hj=>?_;have J9:j<n:=by simp at hj;omega
   have:=hv j (by simp at hj;omega) (by simp;omega);rw[zcw _ _ _ _ (by simp;omega)]at this;rw[List.getElem_take];rw[Array.getD_eq_getD_getElem?];rw[List.getD_eq_getElem?_getD]at this;simpa using this
  | succ i=>exact h2 i (by simpa[UE]using hi)
 | one v hr ih=>
  rename_i sh rv cells;intro X hX hv;cases X with
  | nil=>simp at hX
  | cons x X=>
   simp only[List.length_cons]at hX;obtain⟨h1,h2⟩:=ih X (by omega) (λj hj aX=>hv (j+1) (by simp;omega) (by simp;omega));refine⟨by simp[UE,h1],λi hi=>?_⟩;cases i with
   | zero=>exact hv 0 (by simp) (by simp)
   | succ i=>exact h2 i (by simpa[UE]using hi)
omit [jA]in
def zuB{sh:List (Bool×Nat)}{X:List V}{v:V}(h:UE sh X=[v]):BI sh X=v:=by simp[BI,h]
omit [jA]in
def zt7{sh:List (Bool×Nat)}{X:List V}(h:∀v,UE sh X≠[v]):BI sh X= .tup (UE sh X):=by
 unfold BI;split
 ·rename_i v hv;exact absurd hv (h v)
 ·rfl
def zvP{bad:Nat→Prop}{sh:List (Bool×Nat)}{rv cells:List Value}(h:zJ sh rv cells){X:List V}(hX:cells.length≤X.length)(hv:∀j (hj:j<X.length),j<cells.length→VR w ρ bad (cells.getD j undef) X[j]):
  VR w ρ bad (if h:rv.toArray.size=1 then rv.toArray[0]else .tuple rv.toArray) (BI sh X):=by
 obtain⟨h1,h2⟩:=zun h X hX hv
 by_cases hY:∃v,UE sh X=[v]
 ·obtain⟨v,hY⟩:=hY;rw[zuB hY];rw[hY]at h1;have hl:rv.toArray.size=1:=by simpa using h1.symm
  rw[dif_pos hl];have h3:=h2 0 (by rw[hY];simp);simp only[hY,List.getElem_cons_zero]at h3;rw[List.getD_eq_getElem?_getD,List.getElem?_eq_getElem (by simp at hl;omega)]at h3;simpa using h3
 ·have hl:¬rv.toArray.size=1:=λhl=>by
   have Q0:(UE sh X).length=1:=by rw[h1];simpa using hl
   exact hY (List.length_eq_one_iff.1 Q0)
  rw[dif_neg hl,zt7 λv hv=>hY ⟨v,hv⟩];refine .tup _ _ (by simp[h1]) λi hi=>?_;have:=h2 i hi;rw[Array.getD_eq_getD_getElem?];rw[List.getD_eq_getElem?_getD]at this;simpa using this
omit [jA]in
def zgq{α β:Type}{P:Program}{w:World}(f:α→Sem β):∀(l:List α) (r:List β),l.length=r.length→(∀i (hi:i<l.length) (hr:i<r.length),(f l[i]).run P w= .ok r[i] w)→(l.mapM f).run P w= .ok r w
 | [],[],_,_=>by simp
 | [],_ :: _,h,_=>by simp at h
 | _ :: _,[],h,_=>by simp at h
 | x :: l,y :: r,h,hf=>by
  have h0:=hf 0 (by simp) (by simp);simp only[List.getElem_cons_zero]at h0;have h1:=zgq f l r (by simpa using h) (λi hi hr=>hf (i+1) (by simp;omega) (by simp;omega));simp[List.mapM_cons,h0,h1,Result.andThen]
def xL(tmps:Array Value):ResultVar→Sem Value
 | .tmp t=>pure (tmps.getD t undef)
 | .cell x t=>do loadVar t (←asAddr (tmps.getD x undef))
def zdQ(hr:ZA C w0 outer own ρ st a w):∀(rs:List ResultVar) (sh:List (Bool×Nat)) (vs:List V),BH C.P st rs sh=some vs→
  ∃rv cells,zJ sh rv cells∧rs.length=rv.length∧cells.length=vs.length∧(∀j (hj:j<vs.length),VR w ρ (tA outer ρ st.h) (cells.getD j undef) vs[j])∧
   ∀i (hi:i<rs.length) (h2:i<rv.length),(xL a.tmps rs[i]).run C.P w= .ok rv[i] w
 | [],[],vs,h=>by
  simp only[BH,Option.some.injEq]at h;subst h;exact⟨[],[], .nil,rfl,rfl,λj hj=>by simp at hj,λi hi=>by simp at hi⟩
 | [],_ :: _,vs,h=>by simp[BH]at h
 | .tmp t :: _,[],vs,h=>by simp[BH]at h
 | .cell .. :: _,[],vs,h=>by simp[BH]at h
 | .tmp t :: rs,(ag,n) :: sh,vs,h=>by
  simp only[BH]at h;have hv:=hr.slots t;split at h
  ·rename_i cs us hs V6;cases hb:(ag&&Nat.beq n cs.length)
   case false=>simp[hb]at h
   simp only[hb,cond_true,Option.some.injEq]at h;subst h;simp only[Bool.and_eq_true]at hb;obtain⟨rfl,hn⟩:=hb;have hn:=Nat.eq_of_beq_eq_true hn;obtain⟨rv,cells,h1,h2,h3,h4,h5⟩:=zdQ hr rs sh us V6;rw[hs]at hv;generalize hA:a.tmps.getD t undef=A at hv;cases hv with
   | agg _ vs YV JX=>
   refine⟨.agg vs :: rv,vs.toList++cells, .agg vs (by omega) h1,by simp[h2],by simp[h3,YV],λj hj=>?_,λi hi hi2=>?_⟩
   ·by_cases mX:j<cs.length
    ·rw[List.getElem_append_left mX,zcw _ _ _ _ (by simp;omega)];have:=JX j mX;rw[Array.getD_eq_getD_getElem?]at this;rw[List.getD_eq_getElem?_getD];simpa using this
    ·have aX:j - cs.length<us.length:=by simp at hj;omega
     rw[List.getElem_append_right (by omega),zcz _ _ _ _ (by simp;omega)];have:=h4 _ aX;simpa[YV]using this
   ·cases i with
    | zero=>simp only[List.getElem_cons_zero,xL,hA];rfl
    | succ i=>exact h5 i (by simpa using hi) (by simpa using hi2)
  ·rename_i us V6 bX;cases hb:(!ag&&Nat.beq n 1&&(st.s t).leaf)
   case false=>simp[hb]at h
   simp only[hb,cond_true,Option.some.injEq]at h;subst h;simp only[Bool.and_eq_true,Bool.not_eq_true']at hb;obtain⟨⟨rfl,hn⟩,hlf⟩:=hb;have hn:=Nat.eq_of_beq_eq_true hn;subst hn;obtain⟨rv,cells,h1,h2,h3,h4,h5⟩:=zdQ hr rs sh us V6;refine⟨a.tmps.getD t undef :: rv,a.tmps.getD t undef :: cells, .one _ h1,by simp[h2],by simp[h3],λj hj=>?_,λi hi hi2=>?_⟩
   ·cases j with
    | zero=>exact hv
    | succ j=>exact h4 j (by simpa using hj)
   ·cases i with
    | zero=>rfl
    | succ i=>exact h5 i (by simpa using hi) (by simpa using hi2)
  ·cases h
 | .cell x t :: rs,(ag,n) :: sh,vs,h=>by
  simp only[BH]at h;have hv:=hr.slots x;split at h
  case h_2=>cases h
  rename_i b us ag' n' hs V6 DW YV;split at h
  case h_2=>cases h
  rename_i cs m JV;cases hb:((ag==ag')&&Nat.beq n n'&&Nat.beq n cs.length&&(ag||Nat.beq n 1))
  case false=>simp[hb]at h
  simp only[hb,cond_true,Option.some.injEq]at h;subst h;simp only[Bool.and_eq_true,beq_iff_eq]at hb;obtain⟨⟨⟨rfl,h1⟩,h2⟩,h3⟩:=hb;have h1:=Nat.eq_of_beq_eq_true h1;have h2:=Nat.eq_of_beq_eq_true h2;subst h1;obtain⟨rv,cells,k1,k2,k3,k4,k5⟩:=zdQ hr rs sh us V6;rw[hs]at hv;obtain⟨ri,hρ,ZV,_⟩:=hr.heap.rows _ _ JV;obtain⟨e1,e2⟩:=zgg hρ ZV hv
  have OV:qG ag n cs 0 some=some (if ag then .agg cs else cs.getD 0 .undef):=by
   unfold qG;cases ag with
   | true=>
    have:Nat.ble (0+n) cs.length=true:=Nat.ble_eq_true_of_le (by omega);simp only[aD,this,if_true,List.drop_zero];rw[List.take_of_length_le (by omega)]
   | false=>
    simp only[Bool.false_or]at h3;have:=Nat.eq_of_beq_eq_true h3
    match cs,h2 with
    | [c],_=>rfl
    | [],h2=>simp at h2;omega
    | _ :: _ :: _,h2=>simp at h2;omega
  obtain⟨d,v,g1,g2,g3⟩:=zl7 (K:=some) DW YV e2 OV;have g1:d=if ag then V.agg cs else cs.getD 0 .undef:=Option.some.inj g1
  subst g1
  have IV:(xL a.tmps (.cell x t)).run C.P w= .ok v w:=by
   simp only[xL,e1,asAddr,Sem.run_bind,Sem.run_pure,Result.andThen_ok];exact g3
  cases ag with
  | true=>
   simp only[if_true]at g2;cases g2 with
   | agg _ vs W6 JX=>
   refine⟨.agg vs :: rv,vs.toList++cells, .agg vs (by omega) k1,by simp[k2],by simp[k3,W6],λj hj=>?_,λi hi hi2=>?_⟩
   ·by_cases mX:j<cs.length
    ·rw[List.getElem_append_left mX,zcw _ _ _ _ (by simp;omega)];have:=JX j mX;rw[Array.getD_eq_getD_getElem?]at this;rw[List.getD_eq_getElem?_getD];simpa using this
    ·have aX:j - cs.length<us.length:=by simp at hj;omega
     rw[List.getElem_append_right (by omega),zcz _ _ _ _ (by simp;omega)];have:=k4 _ aX;simpa[W6]using this
   ·cases i with
    | zero=>exact IV
    | succ i=>exact k5 i (by simpa using hi) (by simpa using hi2)
  | false=>
   simp only[Bool.false_or]at h3;have h3:=Nat.eq_of_beq_eq_true h3;subst h3
   match cs,h2 with
   | [c],_=>
    simp only[Bool.false_eq_true,if_false]at g2;refine⟨v :: rv,v :: cells, .one v k1,by simp[k2],by simp[k3],λj hj=>?_,λi hi hi2=>?_⟩
    ·cases j with
     | zero=>exact g2
     | succ j=>exact k4 j (by simpa using hj)
    ·cases i with
     | zero=>exact IV
     | succ i=>exact k5 i (by simpa using hi) (by simpa using hi2)
   | [],h2=>simp at h2
   | _ :: _ :: _,h2=>simp at h2
def zsS(hr:ZA C w0 outer own ρ st a w){fn:Func}{sh:List (Bool×Nat)}{vs:List V}(h:BH C.P st fn.results.toList sh=some vs):
  ∃rv cells,zJ sh rv cells∧cells.length=vs.length∧(∀j (hj:j<vs.length),VR w ρ (tA outer ρ st.h) (cells.getD j undef) vs[j])∧
   (results fn a.tmps).run C.P w= .ok (if h:rv.toArray.size=1 then rv.toArray[0]else .tuple rv.toArray) w:=by
 obtain⟨rv,cells,h1,h2,h3,h4,h5⟩:=zdQ hr _ _ _ h;refine⟨rv,cells,h1,h3,h4,?_⟩;have:=zgq (P:=C.P) (w:=w) (xL a.tmps) fn.results.toList rv h2 h5;show((do let vs ←fn.results.mapM (xL a.tmps);pure (if h:vs.size=1 then vs[0]else .tuple vs)):Sem Value).run C.P w=_
 rw[Array.mapM_eq_mapM_toList];simp only[Sem.run_bind,Sem.run_map,this,Result.andThen_ok,Sem.run_pure]
end
end Go.D
namespace Go.D
variable [jA]
inductive Bd:V→Prop where
 | undef:Bd .undef
 | bool (b:Bool):Bd (.bool b)
 | int (k:IntKind) (n:Int) (h:yE k n):Bd (.int k n)
 | str (s:List UInt8) (h:s.length≤maxLen):Bd (.str s)
 | nil:Bd .nil
 | sl (t:TN) (l:List (El t)) (h:l.length≤maxLen) (hv:∀i (h:i<l.length) j,j<sz t→Bd ((enc t l[i]).getD j .undef)):Bd (.sl t l)
 | ow (r:Nat):Bd (.ow r)
 | ov (r:Nat) (t:TN) (off len:Nat):Bd (.ov r t off len)
 | bp (r off:Nat):Bd (.bp r off)
 | ep (r:Nat) (t:TN) (i off:Nat):Bd (.ep r t i off)
 | fp (cs:List V) (off:Nat) (h:∀j (h:j<cs.length),Bd cs[j]):Bd (.fp cs off)
 | fn (f:Nat) (cs:List V) (h:∀j (h:j<cs.length),Bd cs[j]):Bd (.fn f cs)
 | agg (cs:List V) (h:∀j (h:j<cs.length),Bd cs[j]):Bd (.agg cs)
 | tup (cs:List V) (h:∀j (h:j<cs.length),Bd cs[j]):Bd (.tup cs)
 | nili:Bd .nili
 | ifc (b:Bool):Bd (.ifc b)
section
variable {w:World} {ρ:Nat→Option RI} {bad:Nat→Prop} {v:Value} {d:V}
def VR.bd(h:VR w ρ bad v d):Bd d:=by
 induction h with
 | undef=>exact .undef
 | bool=>exact .bool _
 | int _ _ h=>exact .int _ _ h
 | str _ h=>exact .str _ h
 | nil=>exact .nil
 | slE=>exact .sl _ _ (Nat.zero_le _) (λi h=>by simp at h)
 | slC t l b off cap u hb hl hc he hu hv ih=>exact .sl _ _ (Nat.le_trans hl hc) ih
 | ow=>exact .ow _
 | owN=>exact .ow _
 | ov=>exact .ov _ _ _ _
 | bp=>exact .bp _ _
 | ep=>exact .ep _ _ _ _
 | fp cs off b o u h0 hb hu hv ih=>exact .fp _ _ ih
 | fn f cs caps hs hv ih=>exact .fn _ _ ih
 | agg cs vs hs hv ih=>exact .agg _ ih
 | tup cs vs hs hv ih=>exact .tup _ ih
 | nili=>exact .nili
 | ifc=>exact .ifc _
 | ifn=>exact .ifc _
def GI(t:TN)(x:El t):Prop:=∀j,j<sz t→Bd ((enc t x).getD j .undef)
def bdl(t:TN)(l:List (El t)):Prop:=l.length≤maxLen∧∀x∈l,GI t x
omit [jA]in
def Bd.list{t:TN}{l:List (El t)}(h:Bd (.sl t l)):bdl t l:=by
 cases h with
 | sl _ _ h hv=>
  refine⟨h,λx hx j hj=>?_⟩;obtain⟨i,hi,rfl⟩:=List.mem_iff_getElem.1 hx;exact hv i hi j hj
omit [jA]in
def Bd.len{s:List UInt8}(h:Bd (.str s)):s.length≤maxLen:=by cases h;assumption
omit [jA]in
def Bd.fits{k:IntKind}{n:Int}(h:Bd (.int k n)):yE k n:=by cases h;assumption
omit [jA]in
def zlM(t:TN)(h:t.isAgg=false)(x:El t):∃c,enc t x=[c]:=by cases t<;>first | exact⟨_,rfl⟩ | simp[TN.isAgg]at h
def zhF:(t:Ty)→t.T→Prop
 | .v t,x=>GI t x
 | .sl t,l=>bdl t l
 | .raw,v=>Bd v
 | .cells t,x=>GI t x
 | .pt t,x=>GI t x
 | .c1 _ t,x=>GI t x
 | .p1 _ t,x=>GI t x
 | .c2 _ _ t,x=>GI t x.1∧GI t x.2
omit [jA]in
def zav{t:TN}{x:El t}(h:Bd (.fp (enc t x) 0)):GI t x:=λj hj=>by
 have aX:j<(enc t x).length:=by rw[oD];exact hj
 rw[List.getD_eq_getElem?_getD,List.getElem?_eq_getElem aX];cases h with
 | fp _ _ h=>exact h j aX
omit [jA]in
def zdP{g:Nat}{c:V}{r:List V}(h:Bd (.fn g (c :: r))):Bd c:=by
 cases h with
 | fn _ _ h=>exact h 0 (by simp)
omit [jA]in
def zw9{g:Nat}{c d:V}(h:Bd (.fn g [c,d])):Bd d:=by
 cases h with
 | fn _ _ h=>exact h 1 (by simp)
omit [jA]in
def zml{c:V}(h:Bd (.fp [c] 0)):Bd c:=by
 cases h with
 | fp _ _ h=>exact h 0 (by simp)
def xA:(ts:List Ty)→eB ts→Prop
 | [],_=>True
 | [t],x=>zhF t x
 | t :: d :: r,x=>zhF t x.1∧xA (d :: r) x.2
omit [jA]in
def zlQ{t:Ty}{x:t.T}(h:Bd (WC t x)):zhF t x:=by
 cases t with
 | v t=>
  intro j hj;simp only[WC,yK]at h;have aX:j<(enc t x).length:=by rw[oD];exact hj
  cases DW:t.isAgg
  ·simp only[DW,cond_false]at h;have YV:sz t=1:=by cases t<;>first | rfl | simp[TN.isAgg]at DW
   obtain⟨c,hc⟩:=zlM t DW x;simp only[hc]at h⊢;have:j=0:=by omega
   subst this;exact h
  ·simp only[DW,cond_true]at h;rw[List.getD_eq_getElem?_getD,List.getElem?_eq_getElem aX];cases h with
   | agg _ h=>exact h j aX
 | sl t=>exact Bd.list h
 | raw=>exact h
 | cells t=>
  intro j hj;have aX:j<(enc t x).length:=by rw[oD];exact hj
  rw[List.getD_eq_getElem?_getD,List.getElem?_eq_getElem aX];cases h with
  | agg _ h=>exact h j aX
 | pt t=>exact zav h
 | c1 g t=>exact zav (zdP h)
 | p1 g t=>exact zav (zdP (zml h))
 | c2 g h' t=>exact⟨zav (zdP (zml (zdP h))),zav (zw9 h)⟩
omit [jA]in
def zgb:∀(ts:List Ty) (x:eB ts),(∀v∈fB ts x,Bd v)→xA ts x
 | [],x,h=>trivial
 | [t],x,h=>zlQ (h _ (by simp[fB]))
 | t :: d :: r,x,h=>⟨zlQ (h _ (by simp[fB])),zgb (d :: r) x.2 λv hv=>h v (by simp[fB,hv])⟩
omit [jA]in
def ztA{t:Ty}{ats:List Ty}(x:eB (t :: ats)):∃(x0:t.T) (y:eB ats),fB (t :: ats) x=WC t x0 :: fB ats y:=by
 cases ats with
 | nil=>exact⟨x,(),rfl⟩
 | cons d r=>exact⟨x.1,x.2,rfl⟩
def zmk{outer own:Nat→Prop}{w0:World}{h:Nat→Option uA}(hh:rB w0 outer own ρ h w){r:Nat}{t:TN}{l:List (El t)}{m:oH}(hr:h r=some ⟨.arr t l,m⟩):Bd (.sl t l):=by
 obtain⟨ri,_,⟨hn,ho⟩,_⟩:=hh.rows r _ hr
 rcases ho with⟨_,rfl⟩ | ⟨_,_,h1,h2,_,h3⟩
 ·exact .sl _ _ (Nat.zero_le _) λi h=>by simp at h
 ·refine .sl _ _ (by omega) λi hi j hj=>?_;obtain⟨u,_,h4⟩:=h3 i hi j hj;exact h4.bd
omit [jA]in
def zgL(ow:List Nat)(B:Nat):∀(es:List V) (p:Nat),(∀j (hj:j<(SA ow B p es).length),Bd (SA ow B p es)[j])→(∀q t l,cB ow B (λ_=>none) p es q=some ⟨.arr t l, .own⟩→Bd (.sl t l))→∀j (hj:j<es.length),Bd es[j]
 | [],p,hv,hr,j,hj=>by simp at hj
 | e :: es,p,hv,hr,j,hj=>by
  have hd:∃e',SA ow B p (e :: es)=e' :: SA ow B (p+1) es:=by cases e<;>exact⟨_,rfl⟩
  obtain⟨e',CX⟩:=hd
  have F3:∀j (hj:j<(e' :: SA ow B (p+1) es).length),Bd (e' :: SA ow B (p+1) es)[j]:=λj hj=>by
   have:=hv j (by rw[CX];exact hj);simpa only[CX]using this
  cases j with
  | succ j=>
   refine zgL ow B es (p+1) (λj hj=>by have:=F3 (j+1) (by simp;omega);simpa using this) (λq t l hq=>?_) j (by simpa using hj);obtain⟨_,_,_,h1,_⟩:=LE _ _ _ _ _ _ hq;refine hr q t l ?_;have:=zb2 ow B e es p (q - B) (by omega);rw[show B+(q - B)=q by omega]at this;rw[this];exact hq
  | zero=>
   have h0:=F3 0 (by simp);simp only[List.getElem_cons_zero]at h0⊢;have h1:=congrArg List.head? CX;cases e<;>simp only[SA,List.head?_cons,Option.some.injEq]at h1<;>try (subst h1;exact h0)
   rename_i t l;cases hb:ow.any (Nat.beq p)
   ·simp only[hb,cond_false]at h1;subst h1;exact h0
   ·exact hr (B+p) t l (by simp only[cB,hb,cond_true,RA])
def zmw{outer own:Nat→Prop}{w0:World}{h:Nat→Option uA}(hh:rB w0 outer own ρ h w):∀(ks:List sB) (ats:List Ty) (x:eB ats) (k:Nat) (u:Nat→Value),FC ks ats=true→
  (∀q row,FA ks k (fB ats x) q=some row→h q=some row)→
  (∀j (hj:j<(SB ks k (fB ats x)).length),VR w ρ (tA outer ρ h) (u j) (SB ks k (fB ats x))[j])→∀v∈fB ats x,Bd v:=by
 intro ks;induction ks with
 | nil=>
  intro ats x k u hk hE hS v hv;cases ats with
  | nil=>simp[fB]at hv
  | cons=>simp[FC]at hk
 | cons g ks ih=>
  intro ats x k u hk hE hS v hv;cases ats with
  | nil=>cases g<;>simp[FC]at hk
  | cons t ats=>
   obtain⟨x0,y,he⟩:=ztA x;rw[he]at hE hS hv;cases g with
   | plain=>
    simp only[FC]at hk
    rcases List.mem_cons.1 hv with rfl | hv
    ·exact(hS 0 (by simp[SB])).bd
    ·exact ih ats y (k+1) (λj=>u (j+1)) hk (λq row hq=>hE q row (by simpa only[FA]using hq)) (λj hj=>hS (j+1) (by simp[SB];omega)) v hv
   | mv ow=>
    cases t with
    | v t=>
     simp only[FC,Bool.and_eq_true]at hk;obtain⟨⟨DW,YV⟩,hk⟩:=hk;have YV:=Nat.le_of_ble_eq_true YV;have U6:WC (.v t) x0= .agg (enc t x0):=by simp only[WC,yK,DW,cond_true]
     rw[U6]at hE hS hv;have yW:(enc t x0).length=sz t:=oD t x0
     rcases List.mem_cons.1 hv with rfl | hv
     ·have h0:=hS 0 (by simp[SB]);simp only[SB,List.getElem_cons_zero]at h0;generalize u 0=u0 at h0;cases h0 with
      | agg _ vsA hs JX=>
      refine .agg _ (zgL ow (128 *k) _ 0 (λj hj=>(JX j hj).bd) λq t' l hq=>?_);obtain⟨_,_,_,e1,e2⟩:=LE _ _ _ _ _ _ hq;refine zmk hh (hE q ⟨.arr t' l, .own⟩ ?_);simp only[FA];rw[xC,hq]
     ·refine ih ats y (k+1) (λj=>u (j+1)) hk (λq row hq=>hE q row ?_) (λj hj=>hS (j+1) (by simp[SB];omega)) v hv;have zY:=KG ks (k+1) _ q row hq;simp only[FA];rw[xC,dE _ _ _ _ _ (by omega)];exact hq
    | _=>simp[FC]at hk
   | ptr ow=>
    cases t with
    | cells t=>
     simp only[FC,Bool.and_eq_true]at hk;obtain⟨YV,hk⟩:=hk;have YV:=Nat.le_of_ble_eq_true YV;simp only[WC]at hE hS hv;have yW:(enc t x0).length=sz t:=oD t x0;have JV:=hE (128 *k+127) _ (by simp only[FA];exact RA _ _ _)
     rcases List.mem_cons.1 hv with rfl | hv
     ·obtain⟨ri,_,ZV,_⟩:=hh.rows _ _ JV;refine .agg _ (zgL ow (128 *k) _ 0 (λj hj=>?_) λq t' l hq=>?_)
      ·obtain⟨_,x,_,h2⟩:=ZV.2 j hj;exact h2.bd
      ·obtain⟨_,_,_,e1,e2⟩:=LE _ _ _ _ _ _ hq;refine zmk hh (hE q ⟨.arr t' l, .own⟩ ?_);simp only[FA];rw[DA _ _ _ _ (by omega),xC,hq]
     ·refine ih ats y (k+1) (λj=>u (j+1)) hk (λq row hq=>hE q row ?_) (λj hj=>hS (j+1) (by simp[SB];omega)) v hv;have zY:=KG ks (k+1) _ q row hq;simp only[FA];rw[DA _ _ _ _ (by omega),xC,dE _ _ _ _ _ (by omega)];exact hq
    | _=>simp[FC]at hk
end
end Go.D
namespace Go.D
variable [jA]
section
variable {C:Cx} {w0:World} {outer own D:Nat→Prop} {R:Type} {st st1 st2:St} {ρ ρ1 ρ2:Nat→Option RI} {a a1 a2:Act} {w w1 w2:World} {j:JI}
omit [jA]in
def ztx{t:Ty}{ats:List Ty}{as:List V}{x:eB (t :: ats)}(hd:uD (t :: ats) as=some x):
  ∃v vs y,as=v :: vs∧∃(x0:t.T),nE t v=some x0∧uD ats vs=some y∧fB (t :: ats) x=WC t x0 :: fB ats y:=by
 cases ats with
 | nil=>
  cases as with
  | nil=>simp[uD]at hd
  | cons v vs=>
   cases vs with
   | nil=>exact⟨v,[],(),rfl,x,by simpa[uD]using hd,rfl,rfl⟩
   | cons=>simp[uD]at hd
 | cons d r=>
  cases as with
  | nil=>simp[uD]at hd
  | cons v vs=>
   simp only[uD]at hd;obtain⟨x0,h1,h2⟩:=Option.bind_eq_some_iff.1 hd;obtain⟨y,h3,h4⟩:=Option.bind_eq_some_iff.1 h2;cases h4;exact⟨v,vs,y,rfl,x0,h1,h3,rfl⟩
omit [jA]in
def zru:∀(ks:List sB) (ats:List Ty) (as:List V) (x:eB ats) (k:Nat),FC ks ats=true→uD ats as=some x→
  (∀bs vs h,WB ks (fB ats x) bs vs h=WB ks as bs vs h)∧∀bs q b,uB ks k bs q=some b→∃row,FA ks k as q=some row:=by
 intro ks;induction ks with
 | nil=>
  intro ats as x k hk hd;cases ats with
  | nil=>cases as with
   | nil=>exact⟨λ_ _ _=>rfl,λbs q b h=>by simp[uB]at h⟩
   | cons=>simp[uD]at hd
  | cons=>simp[FC]at hk
 | cons g ks ih=>
  intro ats as x k hk hd;cases ats with
  | nil=>cases g<;>simp[FC]at hk
  | cons t ats=>
   obtain⟨v,vs,y,rfl,x0,h1,h3,h4⟩:=ztx hd;rw[h4];cases g with
   | plain=>
    simp only[FC]at hk;obtain⟨e1,e2⟩:=ih ats vs y (k+1) hk h3;exact⟨λbs ws h=>e1 bs ws h,λbs q b h=>by simp only[uB]at h;exact e2 bs q b h⟩
   | mv ow=>
    cases t with
    | v t=>
     simp only[FC,Bool.and_eq_true]at hk;obtain⟨⟨DW,YV⟩,hk⟩:=hk;have YV:=Nat.le_of_ble_eq_true YV;obtain⟨e1,e2⟩:=ih ats vs y (k+1) hk h3;simp only[nE]at h1;split at h1
     case h_2=>simp[DW]at h1
     rename_i cs;simp only[DW,cond_true]at h1;have yW:(enc t x0).length=sz t:=oD t x0;have L3:cs.length=sz t:=by rw[(JF t h1).len,yW]
     refine⟨λbs ws h=>e1 bs ws h,λbs q b h=>?_⟩;simp only[uB]at h;have zY:=(FF _ _ _ _ _ h).1;simp only[FA];rw[xC,dE _ _ _ _ _ (by omega)];exact e2 bs q b h
    | _=>simp[FC]at hk
   | ptr ow=>
    cases t with
    | cells t=>
     simp only[FC,Bool.and_eq_true]at hk;obtain⟨YV,hk⟩:=hk;have YV:=Nat.le_of_ble_eq_true YV;obtain⟨e1,e2⟩:=ih ats vs y (k+1) hk h3;simp only[nE]at h1;split at h1
     ·rename_i cs;have hl:=(JF t h1).len;refine⟨λbs ws h=>?_,λbs q b h=>?_⟩
      ·cases bs with
       | nil=>rfl
       | cons b bs=>simp only[WC,WB, ←hl,e1]
      ·cases bs with
       | nil=>simp[uB]at h
       | cons c bs=>
        simp only[uB]at h;simp only[FA]
        by_cases hq:q=128 *k+127
        ·subst hq;exact⟨_,RA _ _ _⟩
        ·rw[if_neg hq]at h;have zY:=(FF _ _ _ _ _ h).1;have yW:(enc t x0).length=sz t:=oD t x0;rw[DA _ _ _ _ hq,xC,dE _ _ _ _ _ (by omega)];exact e2 bs q b h
     ·cases h1
    | _=>simp[FC]at hk
def zuk(hh:rB w0 outer own ρ st.h w):∀(ks:List sB) (as:List V) (k:Nat) (us:List V),pG st ks as k=some us→
  ∃uc:Nat→Value,(∀j (hj:j<us.length),VR w ρ (tA outer ρ st.h) (uc j) us[j])∧
   ∀(bs:List Nat) (vs:List V) (h0:Nat→Option uA) (r:Nat) (row:uA),WB ks as bs vs h0 r=some row→h0 r=some row∨
    ∃q off n cs ri,uB ks k bs q=some r∧row=⟨.box ((vs.drop off).take n), .own⟩∧off+n≤us.length∧st.h q=some ⟨.box cs, .own⟩∧ρ q=some ri∧ri.nl=false∧
     ∀i,i<n→w.frozen? (at_ ri.b i)=false∧w.cell? (at_ ri.b i)=some (uc (off+i)):=by
 intro ks;induction ks with
 | nil=>
  intro as k us h;cases as with
  | nil=>
   simp only[pG,Option.some.injEq]at h;subst h;exact⟨λ_=>undef,λj hj=>by simp at hj,λbs vs h0 r row hr=> .inl (by simpa[WB]using hr)⟩
  | cons=>simp[pG]at h
 | cons g ks ih=>
  intro as k us h;cases g with
  | plain=>
   cases as with
   | nil=>simp[pG]at h
   | cons v as=>
    simp only[pG]at h;obtain⟨uc,h1,h2⟩:=ih as (k+1) us h;exact⟨uc,h1,λbs vs h0 r row hr=>by simp only[WB]at hr;simp only[uB];exact h2 bs vs h0 r row hr⟩
  | mv ow=>
   cases as with
   | nil=>simp[pG]at h
   | cons v as=>
    simp only[pG]at h;obtain⟨uc,h1,h2⟩:=ih as (k+1) us h;exact⟨uc,h1,λbs vs h0 r row hr=>by simp only[WB]at hr;simp only[uB];exact h2 bs vs h0 r row hr⟩
  | ptr ow=>
   cases as with
   | nil=>simp[pG]at h
   | cons v as=>
    cases v with
    | agg cs0=>
     simp only[pG]at h;split at h
     case h_2=>cases h
     rename_i cs us' JV X6;cases hb:Nat.beq cs.length cs0.length
     case false=>simp[hb]at h
     simp only[hb,cond_true,Option.some.injEq]at h;subst h;have hl:=Nat.eq_of_beq_eq_true hb;obtain⟨uc,h1,h2⟩:=ih as (k+1) us' X6;obtain⟨ri,hρ,ZV,_⟩:=hh.rows _ _ JV;refine⟨λj=>if j<cs.length then(w.cell? (at_ ri.b j)).getD undef else uc (j - cs.length),λj hj=>?_,λbs vs h0 r row hr=>?_⟩
     ·dsimp only
      by_cases mX:j<cs.length
      ·rw[if_pos mX,List.getElem_append_left mX];obtain⟨_,u,f1,f2⟩:=ZV.2 j mX;rw[f1];exact f2
      ·rw[if_neg mX,List.getElem_append_right (by omega)];exact h1 _ _
     ·cases bs with
      | nil=>exact .inl (by simpa[WB]using hr)
      | cons b bs=>
       simp only[WB]at hr
       by_cases hrb:r=b
       ·subst hrb;rw[RA]at hr;cases hr;refine .inr ⟨128 *k+127,0,cs0.length,cs,ri,by simp[uB],by simp,by simp;omega,JV,hρ,ZV.1,λi hi=>?_⟩;obtain⟨f0,u,f1,f2⟩:=ZV.2 i (by omega);refine⟨f0,?_⟩;dsimp only;rw[if_pos (by omega)];simp[f1]
       ·rw[DA _ _ _ _ hrb]at hr
        rcases h2 bs _ h0 r row hr with h3 | ⟨q,off,n,cs',ri',e1,e2,e3,e4,e5,e6,e7⟩
        ·exact .inl h3
        ·refine .inr ⟨q,cs0.length+off,n,cs',ri',?_,by rw[e2,List.drop_drop],by simp;omega,e4,e5,e6,λi hi=>?_⟩
         ·have:=(FF _ _ _ _ _ e1).1;simp only[uB];rw[if_neg (by omega)];exact e1
         ·obtain⟨g1,g2⟩:=e7 i hi;refine⟨g1,?_⟩;dsimp only;rw[g2,if_neg (by omega)];congr 2;omega
    | _=>simp[pG]at h
omit [jA]in
def zsh{h:Nat→Option uA}{v:V}{x:V×List Nat}(hf:IG h v=some x):∀r∈x.2,∃t l m,h r=some ⟨.arr t l,m⟩:=by
 unfold IG at hf;split at hf
 ·rename_i r;split at hf
  ·rename_i t l m hr;cases hm:m.isLock<;>simp[hm]at hf
   subst hf;intro q hq;simp at hq;subst hq;exact⟨_,_,_,hr⟩
  ·cases hf
 ·rename_i r t off len;split at hf
  ·rename_i t' l m hr;cases hm:m.isLock
   ·simp only[hm,cond_false]at hf;split at hf
    ·simp at hf;subst hf;intro q hq;simp at hq;subst hq;exact⟨_,_,_,hr⟩
    ·cases hf
   ·simp[hm]at hf
  ·cases hf
 ·cases hb:wG 8 v<;>simp[hb]at hf
  subst hf;simp
omit [jA]in
def dU(ow:List Nat):∀(cs:List V) (p:Nat) (h:Nat→Option uA) (x:List V×(Nat→Option uA)) (q:Nat) (c:List V),bE ow p cs h=some x→h q=some ⟨.box c, .own⟩→x.2 q=some ⟨.box c, .own⟩
 | [],p,h,x,q,c,ht,hq=>by simp[bE]at ht;subst ht;exact hq
 | v :: cs,p,h,x,q,c,ht,hq=>by
  simp only[bE]at ht;cases hb:ow.any (Nat.beq p)
  ·simp only[hb,cond_false]at ht;split at ht
   case h_2=>cases ht
   rename_i c' ids FZ;split at ht
   case h_2=>cases ht
   rename_i hr;cases ht;have hx:=dU ow cs _ _ _ q c hr;refine hx ?_;rw[AF,if_neg]
   ·exact hq
   ·intro hm;obtain⟨t,l,m,h3⟩:=zsh FZ q hm;rw[hq]at h3;cases h3
  ·simp only[hb,cond_true]at ht;split at ht
   ·split at ht
    case h_2=>cases ht
    rename_i JV;split at ht
    case h_2=>cases ht
    rename_i hr;cases ht;have hx:=dU ow cs _ _ _ q c hr;refine hx ?_;rw[DA _ _ _ _ (by rintro rfl;rw[JV]at hq;cases hq)];exact hq
   ·split at ht
    case h_2=>cases ht
    rename_i hr;cases ht;have hx:=dU ow cs _ _ _ q c hr;exact hx hq
   ·split at ht
    case h_2=>cases ht
    rename_i JV;split at ht
    case h_2=>cases ht
    rename_i hr;cases ht;have hx:=dU ow cs _ _ _ q c hr;refine hx ?_;rw[DA _ _ _ _ (by rintro rfl;rw[JV]at hq;cases hq)];exact hq
   ·cases ht
open Classical in
theorem zwP{fn:Func}{ks:List sB}{as:List V}{bs ow:List Nat}{base:Nat}{shape:List (Bool×Nat)}{rts:List Ty}{vs us rs:List V}{h2:Nat→Option uA}{r:eB rts}
  (hr:ZA C w0 outer own ρ st a w) (hf:∀q,st.nx≤q→ρ q=none) (GX:BH C.P st fn.results.toList shape=some vs) (X6:pG st ks as 0=some us)
  (QW:bE ow 0 (vs++us) st.h=some (rs,h2)) (hun:qJ rts rs=some r) (MV:(vE rts r).length≤128) (W4:bs.Nodup) (l9:∀b∈bs,Out base 128 b):
  ∃v,(results fn a.tmps).run C.P w= .ok v w∧∃ρf,rB w0 outer own ρf (mF ks as bs ow base shape (vE rts r)) w∧
   VR w ρf (tA outer ρf (mF ks as bs ow base shape (vE rts r))) v (BI shape (SA ow base 0 (vE rts r)))∧
   (∀q b,uB ks 0 bs q=some b→ρf b=ρ q)∧(∀r,ρf r≠none→(base≤r∧r<base+128)∨r∈bs):=by
 obtain⟨rv,cells,k1,k2,k3,k4⟩:=zsS hr GX;obtain⟨uc,u1,u2⟩:=zuk hr.heap ks as 0 us X6;have EW:=zfI rts rs r hun;have Y6:=AP ow _ _ _ _ QW;simp only at Y6;generalize hR0:vE rts r=R0 at *;have hRl:R0.length=vs.length+us.length:=by rw[←EW.len,Y6,List.length_append]
 have hsh:kL shape=vs.length:=by rw[k1.len.1,k2]
 let M:=st.nx;let u:Nat→Value:=λj=>if j<vs.length then cells.getD j undef else uc (j - vs.length)
 have hhn:∀q,st.nx≤q→st.h q=none:=λq hq=>by
  cases hg:st.h q with
  | none=>rfl
  | some row=>obtain⟨ri,h3,_⟩:=hr.heap.rows _ _ hg;rw[hf q hq]at h3;cases h3
 obtain⟨ρ2,g2,T,hTl⟩:=mV ow M 128 (vs++us) 0 st.h h2 rs R0 ρ st.h u QW EW (by rw[List.length_append];omega) hr.heap (λj hj=>by
   simp only[u]
   by_cases mX:j<vs.length
   ·rw[if_pos mX,List.getElem_append_left mX];exact k3 j mX
   ·rw[if_neg mX,List.getElem_append_right (by omega)];exact u1 _ (by simp at hj;omega)) (λ_ _ h=>h) (λq _=>hhn _ (by simp only[M];omega)) (λq _ _=>hf _ (by simp only[M];omega))
 let ρf:Nat→Option RI:=λr=>if base≤r∧r<base+128 then ρ2 (M+(r - base))else if h:∃q,uB ks 0 bs q=some r then ρ (Classical.choose h)else none
 let φ:Nat→Nat:=λr=>if base≤r∧r<base+128 then M+(r - base)else if h:∃q,uB ks 0 bs q=some r then Classical.choose h else 0
 have VY:∀q,q<128→ρf (base+q)=ρ2 (M+q)∧φ (base+q)=M+q:=λq hq=>by
  have h1:base≤base+q∧base+q<base+128:=by omega
  simp only[ρf,φ,if_pos h1];have:base+q - base=q:=by omega
  simp[this]
 have J0:∀q b,uB ks 0 bs q=some b→ρf b=ρ q∧φ b=q:=λq b hq=>by
  have h1:¬(base≤b∧b<base+128):=l9 b (FF _ _ _ _ _ hq).2.2;have h2:∃q,uB ks 0 bs q=some b:=⟨q,hq⟩;have h3:Classical.choose h2=q:=oV ks 0 bs _ _ b W4 (Classical.choose_spec h2) hq;simp only[ρf,φ,if_neg h1,dif_pos h2,h3];exact⟨trivial,trivial⟩
 -- the rows
 have JV:∀q row,mF ks as bs ow base shape R0 q=some row→
   (∃p t l,p<128∧q=base+p∧row=⟨.arr t l, .own⟩∧g2 (M+p)=some row)∨
   ∃p off n cs ri,uB ks 0 bs p=some q∧row=⟨.box ((((SA ow base 0 R0).drop (kL shape)).drop off).take n), .own⟩∧off+n≤us.length∧g2 p=some ⟨.box cs, .own⟩∧ρ p=some ri∧ri.nl=false∧p<M∧
    ∀i,i<n→w.frozen? (at_ ri.b i)=false∧w.cell? (at_ ri.b i)=some (uc (off+i)):=λq row hq=>by
  rcases u2 bs _ _ q row hq with h1 | ⟨p,off,n,cs,ri,e1,e2,e3,e4,e5,e6,e7⟩
  ·obtain⟨t,l,h3,h4,h5⟩:=LE _ _ _ _ _ _ h1;refine .inl ⟨q - base,t,l,by omega,by omega,h3,?_⟩;rw[T.new (q - base) (by omega) (by omega), ←TU ow base M R0 0 (q - base),show base+(q - base)=q by omega];exact h1
  ·refine .inr ⟨p,off,n,cs,ri,e1,e2,e3,T.lies _ _ (dU ow _ _ _ _ p cs QW e4),e5,e6,?_,e7⟩
   rcases Nat.lt_or_ge p st.nx with h | h
   ·exact h
   ·rw[hf p h]at e5;cases e5
 have bW:∀b,tA outer ρf (mF ks as bs ow base shape R0) b→tA outer ρ2 g2 b:=by
  rintro b (hb | ⟨q,row,ri,f1,f2,f3,f4,f5⟩)
  ·exact .inl hb
  ·rcases JV q row f1 with⟨p,t,l,h1,rfl,h3,h4⟩ | ⟨p,off,n,cs,ri',e1,e2,e3,e4,e5,e6,e7,e8⟩
   ·rw[(VY p h1).1]at f3;exact .inr ⟨_,row,ri,h4,f2,f3,f4,f5⟩
   ·rw[(J0 p q e1).1]at f3;exact .inr ⟨p,_,ri,e4,rfl,T.ext _ _ f3,f4,f5⟩
 have hX:∀j (hj:j<(SA ow base 0 R0).length),VR w ρf (tA outer ρf (mF ks as bs ow base shape R0)) (u j) (SA ow base 0 R0)[j]:=
  ZU (w:=w) (ρ:=ρ2) (ρ2:=ρf) (bad:=tA outer ρ2 g2) (bad2:=tA outer ρf (mF ks as bs ow base shape R0)) ow M base R0 0 u (λq _ hq _ _=>(VY q (by omega)).1) (λj hj=>(T.closed j hj).1) bW T.vals
 refine⟨_,k4,ρf,?_,?_,λq b hq=>(J0 q b hq).1,λq hq=>?_⟩
 ·refine T.heap.sub φ T.heap.wx T.heap.old T.heap.outLt (λq row hq=>?_) (λq q' row row' h1 h2 h3=>?_)
  ·rcases JV q row hq with⟨p,t,l,h1,rfl,rfl,h4⟩ | ⟨p,off,n,cs,ri,e1,e2,e3,e4,e5,e6,e7,e8⟩
   ·obtain⟨ri,f1,f2,f3⟩:=T.heap.rows _ _ h4;exact⟨_,ri,by rw[(VY p h1).2];exact h4,by rw[(VY p h1).1];exact f1,by rw[(VY p h1).2];exact f1,zbf f2 bW ρf,λhn=>(f3 hn).1⟩
   ·obtain⟨ri',f1,f2,f3⟩:=T.heap.rows _ _ e4;rw[T.ext _ _ e5]at f1;cases f1;refine⟨_,ri,by rw[(J0 p q e1).2];exact e4,by rw[(J0 p q e1).1];exact e5,by rw[(J0 p q e1).2];exact T.ext _ _ e5,?_,λhn=>⟨(f3 hn).1.1,λ_=>(f3 hn).1.2 rfl⟩⟩;rw[e2];refine⟨e6,λi hi=>?_⟩
    have NW:i<n∧vs.length+off+i<(SA ow base 0 R0).length:=by
     simp only[List.length_take,List.length_drop]at hi;omega
    obtain⟨g3,g4⟩:=e8 i NW.1;refine⟨g3,_,g4,?_⟩;have h5:=hX (vs.length+(off+i)) (by omega);simp only[u]at h5;rw[if_neg (by omega),show vs.length+(off+i) - vs.length=off+i by omega]at h5;simp only[List.getElem_take,List.getElem_drop,hsh];exact h5
  ·rcases JV q row h1 with⟨p,t,l,f1,rfl,f3,f4⟩ | ⟨p,off,n,cs,ri,e1,e2,e3,e4,e5,e6,e7,e8⟩<;>
   rcases JV q' row' h2 with⟨p',t',l',f1',rfl,f3',f4'⟩ | ⟨p',off',n',cs',ri',e1',e2',e3',e4',e5',e6',e7',e8'⟩
   ·rw[(VY p f1).2,(VY p' f1').2]at h3;omega
   ·rw[(VY p f1).2,(J0 p' q' e1').2]at h3;omega
   ·rw[(J0 p q e1).2,(VY p' f1').2]at h3;omega
   ·rw[(J0 p q e1).2,(J0 p' q' e1').2]at h3;subst h3;rw[e1]at e1';exact Option.some.inj e1'
 ·refine zvP k1 (by rw[DF];omega) λj hj aX=>?_;have h5:=hX j hj;simp only[u]at h5;rw[if_pos (by omega)]at h5;exact h5
 ·by_cases h1:base≤q∧q<base+128
  ·exact .inl h1
  ·by_cases h2:∃p,uB ks 0 bs p=some q
   ·obtain⟨p,h2⟩:=h2;exact .inr (FF _ _ _ _ _ h2).2.2
   ·simp only[ρf,if_neg h1,dif_neg h2]at hq;exact absurd rfl hq
def zuO (hC : UF C) (hΦ : gG C) {f : Nat} {fn : Func} {body : Code} (hf : C.P.funcs[f]? = some fn) (hb : fn.body = some body) (PW : (fn.name == "runtime.NumGoroutine") = false)
  (hnt:C.nt=fn.ntmps) (an:An) (ks:List sB) (ow:List Nat) (shape:List (Bool×Nat)) (ats rts:List Ty) (F:eB ats→Option (eB rts))
  (yY:FC ks ats=true) (s4:Nat.ble ks.length fn.ntmps=true)
  (m9:∀x r,xA ats x→F x=some r→zat C fn body an ks ow shape rts (fB ats x)=some r):
  BB C.P f ⟨ks,eB ats,eB rts,uD ats,F,vE rts,shape,ow,false⟩ C.g:=by
 intro w args as outer ownw ρ x r base bs YV lZ hh QX OW W4 l9 KZ hF Z6 hgl;simp only at YV lZ hh QX OW KZ hF Z6;have s4:=Nat.le_of_ble_eq_true s4;refine .inl ⟨?_,calls_of_wp hf hb ?_⟩
 ·have WX : ¬ fn.name = "runtime.NumGoroutine" := by simpa using PW
  simp[callFunc,program,hf,hb,WX,Sem.run]
 obtain⟨pb1,pb2⟩:=zru ks ats as x 0 yY KZ;obtain⟨ρ2,H1,H2,H3,H4,H5⟩:=zlg yY KZ hh OW;obtain⟨e1,e2⟩:=zlA (w:=w) (ρ:=ρ) H2 ks ats as x 0 (λj=>args.getD j undef) yY KZ (λq t h1 h2=>H5 q _ h1 h2) QX;have I9:∀base rs,mF ks (fB ats x) bs ow base shape rs=mF ks as bs ow base shape rs:=λbase rs=>by simp only[mF,pb1]
 have uZ:ZA C w outer ownw ρ2 {s:=λi=>match(SB ks 0 (fB ats x)).drop i with | v :: _=>v | []=> .undef,h:=FA ks 0 (fB ats x),nx:=128 *ks.length}
   {tmps:=args++Array.replicate (fn.ntmps - args.size) undef,defers:=[]} w:=by
  refine⟨H1,λi=>?_,by simp;omega,rfl,hgl⟩;show VR w ρ2 _ _ (match(SB ks 0 (fB ats x)).drop i with | v :: _=>v | []=> .undef)
  by_cases hi:i<(SB ks 0 (fB ats x)).length
  ·rw[List.drop_eq_getElem_cons hi];have h3:=e2 i hi;have hia:i<args.size:=by omega
   rw[Array.getD_eq_getD_getElem?]at h3⊢;rw[Array.getElem?_append_left hia];exact h3
  ·rw[List.drop_eq_nil_of_le (by omega)];exact .undef _
 refine zlJ hC hΦ an body (λ_=>True) (zkH an body) _ _ w ρ2 _ r _ uZ (λq hq=>H4 q hq) (m9 x r (zgb ats x (zmw H1 ks ats x 0 (λj=>args.getD j undef) yY (λ_ _ h=>h) λj hj=>e2 j hj)) hF) λe st' a' w' ρ' hg hk=>?_
 have key:(match BH C.P st' fn.results.toList shape,pG st' ks (fB ats x) 0 with
   | some vs,some us=>match bE ow 0 (vs++us) st'.h with
    | some (rs,_)=>qJ rts rs
    | none=>none
   | _,_=>none)=some r→a'.defers=[]∧∃v,(results fn a'.tmps).run C.P w'= .ok v w'∧∃v',Ending.returned v= .returned v'∧∃ρf,rB w outer ownw ρf (mF ks as bs ow base shape (vE rts r)) w'∧
   VR w' ρf (tA outer ρf (mF ks as bs ow base shape (vE rts r))) v' (BI shape (SA ow base 0 (vE rts r)))∧
   (∀q b,uB ks 0 bs q=some b→ρf b=ρ q)∧(∀r,ρf r≠none→(base≤r∧r<base+128)∨r∈bs):=by
  intro hk;split at hk
  case h_2=>cases hk
  rename_i vs us GX X6;split at hk
  case h_2=>cases hk
  rename_i rs h2 QW;obtain⟨v,h3,ρf,h4,h5,h6,h7⟩:=zwP (bs:=bs) (base:=base) hg.rel hg.fresh GX X6 QW hk Z6 W4 l9;rw[I9]at h4 h5;refine⟨hg.rel.defers,v,h3,v,rfl,ρf,h4,h5,λq b hq=>?_,h7⟩;rw[h6 q b hq];obtain⟨row,JV⟩:=pb2 bs q b hq;obtain⟨ri,h8,_⟩:=hh.rows _ _ JV;rw[hg.ext _ _ (H3 _ _ h8),h8]
 cases e with
 | exit id=>cases hk
 | normal=>exact key hk
 | ret=>exact key hk
noncomputable def zd2(C:Cx)(fn:Func)(body:Code)(an:An)(ks:List sB)(ts:List Ty)(as:List V):Option (eB ts):=
 XE C an body {s:=λi=>match(SB ks 0 as).drop i with | v :: _=>v | []=> .undef,h:=FA ks 0 as,nx:=128 *ks.length} λe st=>
  match e with
  | .exit _=>none
  | _=>match fn.results.toList with
   | [.tmp t]=>match st.s t with
    | .bp b 0=>match st.h b with
     | some ⟨.box cs, .own⟩=>bif cs.all (wG 8)then qJ ts cs else none
     | _=>none
    | _=>none
   | _=>none
def zwg{fn:Func}{ks:List sB}{as:List V}{bs:List Nat}{base t b:Nat}{rts:List Ty}{cs:List V}{r:eB rts}
  (hr:ZA C w0 outer own ρ st a w) (GX:fn.results.toList=[.tmp t]) (hs:st.s t= .bp b 0) (JV:st.h b=some ⟨.box cs, .own⟩) (bX:cs.all (wG 8)=true) (hun:qJ rts cs=some r):
  ∃v,(results fn a.tmps).run C.P w= .ok v w∧∃ρf,rB w0 outer own ρf (CA (λ_=>none) base (some ⟨.box (vE rts r), .own⟩)) w∧
   VR w ρf (tA outer ρf (CA (λ_=>none) base (some ⟨.box (vE rts r), .own⟩))) v (.bp base 0)∧(∀q,ρf q≠none→q=base):=by
 have hv:=hr.slots t;rw[hs]at hv;obtain⟨ri,hρ,ZV,m4⟩:=hr.heap.rows _ _ JV;have EW:=zfI rts cs r hun;generalize vE rts r=es at EW;generalize hA:a.tmps.getD t undef=A at hv;cases hv with
 | bp _ _ ri' h1 h2=>
 rw[hρ]at h1;cases h1;let ρf:Nat→Option RI:=λq=>if q=base then some ri else none
 have bW:∀c,tA outer ρf (CA (λ_=>none) base (some ⟨.box es, .own⟩)) c→tA outer ρ st.h c:=by
  rintro c (hb | ⟨q,row,ri',f1,f2,f3,f4,f5⟩)
  ·exact .inl hb
  ·by_cases hq:q=base
   ·subst hq;simp only[ρf,if_true,Option.some.injEq]at f3;subst f3;exact .inr ⟨b,_,ri,JV,rfl,hρ,f4,f5⟩
   ·rw[DA _ _ _ _ hq]at f1;cases f1
 refine⟨.pointer (some (at_ ri.b 0)),?_,ρf,?_, .bp _ _ ri (by simp[ρf]) h2,λq hq=>?_⟩
 ·have:=zgq (P:=C.P) (w:=w) (xL a.tmps) fn.results.toList [.pointer (some (at_ ri.b 0))] (by rw[GX];rfl) (λi hi hi2=>by
   simp only[GX]at hi⊢;have:i=0:=by simp at hi;omega
   subst this;simp only[List.getElem_cons_zero,xL,hA];rfl)
  show((do let vs ←fn.results.mapM (xL a.tmps);pure (if h:vs.size=1 then vs[0]else .tuple vs)):Sem Value).run C.P w=_
  rw[Array.mapM_eq_mapM_toList];simp only[Sem.run_bind,Sem.run_map,this,Result.andThen_ok,Sem.run_pure];rfl
 ·refine hr.heap.sub (λ_=>b) hr.heap.wx hr.heap.old hr.heap.outLt (λq row hq=>?_) (λq q' row row' g1 g2 _=>?_)
  ·by_cases O3:q=base
   ·subst O3;rw[RA]at hq;cases hq;refine⟨_,ri,JV,by simp[ρf],hρ,⟨h2,λj hj=>?_⟩,λhn=>⟨(m4 hn).1.1,λ_=>(m4 hn).1.2 rfl⟩⟩;have aX:j<cs.length:=by rw[EW.len];exact hj
    obtain⟨e1,u,e2,e3⟩:=ZV.2 j aX;refine⟨e1,u,e2,VR.sub (EW.get j aX hj) ?_⟩;have hn:=(zct 8 _ (List.all_eq_true.1 bX _ (List.getElem_mem aX))).1;exact(e3.noRef hn ρf).mono (λ_ _ h=>h) (λ_ _ _=>rfl) λc hc=> .inl (bW c hc)
   ·rw[DA _ _ _ _ O3]at hq;cases hq
  ·have k1:q=base:=by
    rcases Nat.decEq q base with h | h
    ·rw[DA _ _ _ _ h]at g1;cases g1
    ·exact h
   have k2:q'=base:=by
    rcases Nat.decEq q' base with h | h
    ·rw[DA _ _ _ _ h]at g2;cases g2
    ·exact h
   rw[k1,k2]
 ·by_cases h:q=base
  ·exact h
  ·simp only[ρf,if_neg h]at hq;exact absurd rfl hq
omit [jA]in
def zjD:∀(n k:Nat) (bs:List Nat) (q:Nat),uB (List.replicate n .plain) k bs q=none
 | 0,k,bs,q=>by simp[uB]
 | n+1,k,bs,q=>by simp only[List.replicate_succ,uB];exact zjD n (k+1) bs q
def zvn (hC : UF C) (hΦ : gG C) {f : Nat} {fn : Func} {body : Code} (hf : C.P.funcs[f]? = some fn) (hb : fn.body = some body) (PW : (fn.name == "runtime.NumGoroutine") = false)
  (hnt:C.nt=fn.ntmps) (an:An) (n:Nat) (shape:List (Bool×Nat)) (ats rts:List Ty) (F:eB ats→Option (eB rts))
  (yY:FC (List.replicate n .plain) ats=true) (s4:Nat.ble n fn.ntmps=true)
  (m9:∀x r,xA ats x→F x=some r→zd2 C fn body an (List.replicate n sB.plain) rts (fB ats x)=some r):
  BB C.P f ⟨List.replicate n .plain,eB ats,eB rts,uD ats,F,vE rts,shape,[],true⟩ C.g:=by
 generalize b7:List.replicate n sB.plain=ks at yY m9⊢;have hkn:ks.length=n:=by rw[←b7];simp
 intro w args as outer ownw ρ x r base bs YV lZ hh QX OW W4 l9 KZ hF Z6 hgl;simp only at YV lZ hh QX OW KZ hF Z6;have s4:=Nat.le_of_ble_eq_true s4;refine .inl ⟨?_,calls_of_wp hf hb ?_⟩
 ·have WX : ¬ fn.name = "runtime.NumGoroutine" := by simpa using PW
  simp[callFunc,program,hf,hb,WX,Sem.run]
 obtain⟨ρ2,H1,H2,H3,H4,H5⟩:=zlg yY KZ hh OW;obtain⟨e1,e2⟩:=zlA (w:=w) (ρ:=ρ) H2 ks ats as x 0 (λj=>args.getD j undef) yY KZ (λq t h1 h2=>H5 q _ h1 h2) QX
 have uZ:ZA C w outer ownw ρ2 {s:=λi=>match(SB ks 0 (fB ats x)).drop i with | v :: _=>v | []=> .undef,h:=FA ks 0 (fB ats x),nx:=128 *ks.length}
   {tmps:=args++Array.replicate (fn.ntmps - args.size) undef,defers:=[]} w:=by
  refine⟨H1,λi=>?_,by simp;omega,rfl,hgl⟩;show VR w ρ2 _ _ (match(SB ks 0 (fB ats x)).drop i with | v :: _=>v | []=> .undef)
  by_cases hi:i<(SB ks 0 (fB ats x)).length
  ·rw[List.drop_eq_getElem_cons hi];have h3:=e2 i hi;have hia:i<args.size:=by omega
   rw[Array.getD_eq_getD_getElem?]at h3⊢;rw[Array.getElem?_append_left hia];exact h3
  ·rw[List.drop_eq_nil_of_le (by omega)];exact .undef _
 refine zlJ hC hΦ an body (λ_=>True) (zkH an body) _ _ w ρ2 _ r _ uZ (λq hq=>H4 q hq) (m9 x r (zgb ats x (zmw H1 ks ats x 0 (λj=>args.getD j undef) yY (λ_ _ h=>h) λj hj=>e2 j hj)) hF) λe st' a' w' ρ' hg hk=>?_
 have key:(match fn.results.toList with
   | [.tmp t]=>match st'.s t with
    | .bp b 0=>match st'.h b with
     | some ⟨.box cs, .own⟩=>bif cs.all (wG 8)then qJ rts cs else none
     | _=>none
    | _=>none
   | _=>none)=some r→a'.defers=[]∧∃v,(results fn a'.tmps).run C.P w'= .ok v w'∧∃v',Ending.returned v= .returned v'∧∃ρf,rB w outer ownw ρf (CA (λ_=>none) base (some ⟨.box (vE rts r), .own⟩)) w'∧
   VR w' ρf (tA outer ρf (CA (λ_=>none) base (some ⟨.box (vE rts r), .own⟩))) v' (.bp base 0)∧
   (∀q b,uB ks 0 bs q=some b→ρf b=ρ q)∧(∀r,ρf r≠none→(base≤r∧r<base+128)∨r∈bs):=by
  intro hk;split at hk
  case h_2=>cases hk
  rename_i t GX;split at hk
  case h_2=>cases hk
  rename_i b hs;split at hk
  case h_2=>cases hk
  rename_i cs JV;cases bX:cs.all (wG 8)
  case false=>simp[bX]at hk
  simp only[bX,cond_true]at hk;obtain⟨v,h3,ρf,h4,h5,h6⟩:=zwg (ks:=ks) (as:=as) (bs:=bs) (base:=base) hg.rel GX hs JV bX hk;refine⟨hg.rel.defers,v,h3,v,rfl,ρf,h4,h5,λq b hq=>?_,λq hq=>?_⟩
  ·rw[←b7,zjD]at hq;cases hq
  ·rw[h6 q hq];exact .inl ⟨Nat.le_refl _,by omega⟩
 cases e with
 | exit id=>cases hk
 | normal=>exact key hk
 | ret=>exact key hk
end
end Go.D
namespace Go.D
inductive LK where
 | i | by | b | s
 | l (t:TN)
 deriving DecidableEq
def lk:TN→List LK
 | .byte=>[.by] | .int=>[.i] | .bool=>[.b] | .str=>[.s] | .bs=>[.l .byte]
 | .Addr=>[.i, .i]
 | .Op=>[.i, .i, .i, .l .byte]
 | .Event=>[.i, .i, .i, .i, .l .byte, .l .Op]
 | .Jar=>[.l .byte]
 | .Dice=>[.l .byte, .i]
 | .Win=>[.i, .l .int]
 | .Ep=>[.i, .l .byte, .i, .i, .l .int]
 | .Chan=>[.i, .l .byte, .i, .l .byte, .i, .i, .l .int, .i, .l .byte, .i, .i, .l .int, .b, .i, .l .byte]
 | .Cand=>[.i, .i, .l .byte, .i]
 | .Paths=>[.i, .i, .l .Cand]
 | .Sess=>[.i, .l .byte, .l .byte, .i, .l .byte, .i, .l .byte, .i, .i, .l .int, .i, .l .byte, .i, .i, .l .int, .b, .i, .l .byte, .i, .i, .l .Cand, .i, .i, .b]
 | .Tab=>[.i, .l .Sess]
 | .Credit=>[.i, .i, .i, .i]
 | .Server=>[.l .bs, .l .byte, .l .byte, .i, .i, .l .Sess, .l .Credit]
 | .Frame=>[.i, .i, .l .byte, .l .byte, .i, .l .byte, .l .byte, .i, .i, .l .byte, .l .byte]
 | .Timer=>[.b, .i, .i, .i]
 | .Client=>[.i, .l .byte, .i, .i, .i, .l .byte, .i, .i, .l .byte, .l .byte, .i, .l .byte, .l .byte, .i, .i, .l .byte, .l .byte, .i, .l .byte, .i, .l .byte, .i, .i, .l .int, .i, .l .byte, .i, .i, .l .int, .b, .i, .l .byte, .b, .i, .i, .i, .b, .i, .i, .i, .i]
 | .Wire=>[.i, .i, .i, .i, .l .byte]
 | .Note=>[.i, .i, .i, .l .byte, .l .byte, .i, .i, .l .byte, .l .byte, .i, .i, .i]
 | .World=>[.i, .l .Client, .l .bs, .l .byte, .l .byte, .i, .i, .l .Sess, .l .Credit, .l .byte, .i, .l .Wire, .l .bs, .l .Note]
 | .Cur=>[.l .byte, .i, .i]
 | .Out=>[.i, .i, .i, .i, .l .byte, .l .byte, .i, .l .byte, .l .byte, .i, .i, .l .byte, .l .byte]
 | .Form=>[.i, .s]
 | .Hash=>[.l .int, .l .byte, .i]
def Mat:LK→V→Prop
 | .i,v=>∃n,HA v=some n
 | .by,v=>∃n,uT v=some n
 | .b,v=>∃n,WH v=some n
 | .s,v=>∃n,aP v=some n
 | .l t,v=>∃n,WA t v=some n
inductive gC:List LK→List V→Prop
 | nil:gC [] []
 | cons {k:LK} {v:V} {ks:List LK} {vs:List V} (h:Mat k v) (r:gC ks vs):gC (k :: ks) (v :: vs)
def gC.app{a b:List LK}{x y:List V}(h:gC a x)(k:gC b y):gC (a++b) (x++y):=by
 induction h with
 | nil=>exact k
 | cons h _ ih=>exact .cons h ih
def gC.len{a:List LK}{x:List V}(h:gC a x):a.length=x.length:=by
 induction h with
 | nil=>rfl
 | cons h _ ih=>simp[ih]
def gC.take{k:LK}{ks:List LK}{x:List V}(h:gC (k :: ks) x):∃v r,x=v :: r∧Mat k v∧gC ks r:=by
 cases h with | cons h r=>exact⟨_,_,rfl,h,r⟩
def zaj{α β:Type}{p:V→Option α}{v:V}{a:α}(h:p v=some a)(cs:List V)(k:α→List V→Option β):tk p (v :: cs) k=k a cs:=by simp[tk,h]
def QD{β:Type}(r:β){x:List V}(h:gC [] x):∃y,cC x r=some y:=by cases h;exact⟨r,rfl⟩
def LA{β:Type}{ks:List LK}{K:Int→List V→Option β}{x:List V}(h:gC (.i :: ks) x)(hk:∀a r,gC ks r→∃y,K a r=some y):∃y,tk HA x K=some y:=by
 cases h with | cons h r=>obtain⟨a,h⟩:=h;rw[zaj h];exact hk _ _ r
def XM{β:Type}{ks:List LK}{K:Bool→List V→Option β}{x:List V}(h:gC (.b :: ks) x)(hk:∀a r,gC ks r→∃y,K a r=some y):∃y,tk WH x K=some y:=by
 cases h with | cons h r=>obtain⟨a,h⟩:=h;rw[zaj h];exact hk _ _ r
def zmQ{β:Type}{ks:List LK}{K:List UInt8→List V→Option β}{x:List V}(h:gC (.s :: ks) x)(hk:∀a r,gC ks r→∃y,K a r=some y):∃y,tk aP x K=some y:=by
 cases h with | cons h r=>obtain⟨a,h⟩:=h;rw[zaj h];exact hk _ _ r
def dB{β:Type}{t:TN}{ks:List LK}{K:List (El t)→List V→Option β}{x:List V}(h:gC (.l t :: ks) x)(hk:∀a r,gC ks r→∃y,K a r=some y):∃y,tk (WA t) x K=some y:=by
 cases h with | cons h r=>obtain⟨a,h⟩:=h;rw[zaj h];exact hk _ _ r
def zu3{x:List V}(h:gC (lk .Addr) x):∃y,zdw x=some y:=LA h λ_ _ h=>LA h λ_ _ h=>QD _ h
def zw6{x:List V}(h:gC (lk .Op) x):∃y,zea x=some y:=LA h λ_ _ h=>LA h λ_ _ h=>LA h λ_ _ h=>dB h λ_ _ h=>QD _ h
def ztJ{x:List V}(h:gC (lk .Event) x):∃y,zde x=some y:=LA h λ_ _ h=>LA h λ_ _ h=>LA h λ_ _ h=>LA h λ_ _ h=>dB h λ_ _ h=>dB h λ_ _ h=>QD _ h
def zv6{x:List V}(h:gC (lk .Jar) x):∃y,zdY x=some y:=dB h λ_ _ h=>QD _ h
def zvm{x:List V}(h:gC (lk .Dice) x):∃y,zdB x=some y:=dB h λ_ _ h=>LA h λ_ _ h=>QD _ h
def zvO{x:List V}(h:gC (lk .Win) x):∃y,zdM x=some y:=LA h λ_ _ h=>dB h λ_ _ h=>QD _ h
def zwX{x:List V}(h:gC (lk .Ep) x):∃y,zd7 x=some y:=LA h λ_ _ h=>dB h λ_ _ h=>LA h λ_ _ h=>LA h λ_ _ h=>dB h λ_ _ h=>QD _ h
def zva{x:List V}(h:gC (lk .Chan) x):∃y,zdF x=some y:=LA h λ_ _ h=>dB h λ_ _ h=>LA h λ_ _ h=>dB h λ_ _ h=>LA h λ_ _ h=>LA h λ_ _ h=>dB h λ_ _ h=>LA h λ_ _ h=>dB h λ_ _ h=>LA h λ_ _ h=>LA h λ_ _ h=>dB h λ_ _ h=>XM h λ_ _ h=>LA h λ_ _ h=>dB h λ_ _ h=>QD _ h
def zuu{x:List V}(h:gC (lk .Cand) x):∃y,zdq x=some y:=LA h λ_ _ h=>LA h λ_ _ h=>dB h λ_ _ h=>LA h λ_ _ h=>QD _ h
def ztM{x:List V}(h:gC (lk .Paths) x):∃y,zcQ x=some y:=LA h λ_ _ h=>LA h λ_ _ h=>dB h λ_ _ h=>QD _ h
def zvt{x:List V}(h:gC (lk .Sess) x):∃y,zdH x=some y:=LA h λ_ _ h=>dB h λ_ _ h=>dB h λ_ _ h=>LA h λ_ _ h=>dB h λ_ _ h=>LA h λ_ _ h=>dB h λ_ _ h=>LA h λ_ _ h=>LA h λ_ _ h=>dB h λ_ _ h=>LA h λ_ _ h=>dB h λ_ _ h=>LA h λ_ _ h=>LA h λ_ _ h=>dB h λ_ _ h=>XM h λ_ _ h=>LA h λ_ _ h=>dB h λ_ _ h=>LA h λ_ _ h=>LA h λ_ _ h=>dB h λ_ _ h=>LA h λ_ _ h=>LA h λ_ _ h=>XM h λ_ _ h=>QD _ h
def zvw{x:List V}(h:gC (lk .Tab) x):∃y,zdS x=some y:=LA h λ_ _ h=>dB h λ_ _ h=>QD _ h
def zs0{x:List V}(h:gC (lk .Credit) x):∃y,zcC x=some y:=LA h λ_ _ h=>LA h λ_ _ h=>LA h λ_ _ h=>LA h λ_ _ h=>QD _ h
def zsA{x:List V}(h:gC (lk .Server) x):∃y,zcy x=some y:=dB h λ_ _ h=>dB h λ_ _ h=>dB h λ_ _ h=>LA h λ_ _ h=>LA h λ_ _ h=>dB h λ_ _ h=>dB h λ_ _ h=>QD _ h
def ztt{x:List V}(h:gC (lk .Frame) x):∃y,zc4 x=some y:=LA h λ_ _ h=>LA h λ_ _ h=>dB h λ_ _ h=>dB h λ_ _ h=>LA h λ_ _ h=>dB h λ_ _ h=>dB h λ_ _ h=>LA h λ_ _ h=>LA h λ_ _ h=>dB h λ_ _ h=>dB h λ_ _ h=>QD _ h
def ztT{x:List V}(h:gC (lk .Timer) x):∃y,zc7 x=some y:=XM h λ_ _ h=>LA h λ_ _ h=>LA h λ_ _ h=>LA h λ_ _ h=>QD _ h
def zsO{x:List V}(h:gC (lk .Client) x):∃y,zcx x=some y:=LA h λ_ _ h=>dB h λ_ _ h=>LA h λ_ _ h=>LA h λ_ _ h=>LA h λ_ _ h=>dB h λ_ _ h=>LA h λ_ _ h=>LA h λ_ _ h=>dB h λ_ _ h=>dB h λ_ _ h=>LA h λ_ _ h=>dB h λ_ _ h=>dB h λ_ _ h=>LA h λ_ _ h=>LA h λ_ _ h=>dB h λ_ _ h=>dB h λ_ _ h=>LA h λ_ _ h=>dB h λ_ _ h=>LA h λ_ _ h=>dB h λ_ _ h=>LA h λ_ _ h=>LA h λ_ _ h=>dB h λ_ _ h=>LA h λ_ _ h=>dB h λ_ _ h=>LA h λ_ _ h=>LA h λ_ _ h=>dB h λ_ _ h=>XM h λ_ _ h=>LA h λ_ _ h=>dB h λ_ _ h=>XM h λ_ _ h=>LA h λ_ _ h=>LA h λ_ _ h=>LA h λ_ _ h=>XM h λ_ _ h=>LA h λ_ _ h=>LA h λ_ _ h=>LA h λ_ _ h=>LA h λ_ _ h=>QD _ h
def zu1{x:List V}(h:gC (lk .Wire) x):∃y,zdC x=some y:=LA h λ_ _ h=>LA h λ_ _ h=>LA h λ_ _ h=>LA h λ_ _ h=>dB h λ_ _ h=>QD _ h
def zuU{x:List V}(h:gC (lk .Note) x):∃y,zdm x=some y:=LA h λ_ _ h=>LA h λ_ _ h=>LA h λ_ _ h=>dB h λ_ _ h=>dB h λ_ _ h=>LA h λ_ _ h=>LA h λ_ _ h=>dB h λ_ _ h=>dB h λ_ _ h=>LA h λ_ _ h=>LA h λ_ _ h=>LA h λ_ _ h=>QD _ h
def zta{x:List V}(h:gC (lk .World) x):∃y,zcS x=some y:=LA h λ_ _ h=>dB h λ_ _ h=>dB h λ_ _ h=>dB h λ_ _ h=>dB h λ_ _ h=>LA h λ_ _ h=>LA h λ_ _ h=>dB h λ_ _ h=>dB h λ_ _ h=>dB h λ_ _ h=>LA h λ_ _ h=>dB h λ_ _ h=>dB h λ_ _ h=>dB h λ_ _ h=>QD _ h
def zwo{x:List V}(h:gC (lk .Cur) x):∃y,zd0 x=some y:=dB h λ_ _ h=>LA h λ_ _ h=>LA h λ_ _ h=>QD _ h
def zww{x:List V}(h:gC (lk .Out) x):∃y,zdU x=some y:=LA h λ_ _ h=>LA h λ_ _ h=>LA h λ_ _ h=>LA h λ_ _ h=>dB h λ_ _ h=>dB h λ_ _ h=>LA h λ_ _ h=>dB h λ_ _ h=>dB h λ_ _ h=>LA h λ_ _ h=>LA h λ_ _ h=>dB h λ_ _ h=>dB h λ_ _ h=>QD _ h
def zvr{x:List V}(h:gC (lk .Form) x):∃y,zdu x=some y:=LA h λ_ _ h=>zmQ h λ_ _ h=>QD _ h
def zvb{x:List V}(h:gC (lk .Hash) x):∃y,zdJ x=some y:=dB h λ_ _ h=>dB h λ_ _ h=>LA h λ_ _ h=>QD _ h
def zkL(t:TN)(x:List V)(h:gC (lk t) x):∃y,lF t x=some y:=by
 cases t with
 | byte=>
  cases h with
  | cons h r=>
   obtain⟨a,h⟩:=h;cases r;refine⟨a,?_⟩;simp only[lF];rw[zaj h];rfl
 | int=>exact LA h λ_ _ h=>QD _ h
 | bool=>exact XM h λ_ _ h=>QD _ h
 | str=>exact zmQ h λ_ _ h=>QD _ h
 | bs=>exact dB h λ_ _ h=>QD _ h
 | Addr=>exact zu3 h
 | Op=>exact zw6 h
 | Event=>exact ztJ h
 | Jar=>exact zv6 h
 | Dice=>exact zvm h
 | Win=>exact zvO h
 | Ep=>exact zwX h
 | Chan=>exact zva h
 | Cand=>exact zuu h
 | Paths=>exact ztM h
 | Sess=>exact zvt h
 | Tab=>exact zvw h
 | Credit=>exact zs0 h
 | Server=>exact zsA h
 | Frame=>exact ztt h
 | Timer=>exact ztT h
 | Client=>exact zsO h
 | Wire=>exact zu1 h
 | Note=>exact zuU h
 | World=>exact zta h
 | Cur=>exact zwo h
 | Out=>exact zww h
 | Form=>exact zvr h
 | Hash=>exact zvb h
end Go.D
namespace Go.D
variable [jA]
open Go.RowKit Go.ChangeShapes
section
variable {H:Type} {encH:TypeId×Value→H} {P:Program} {W:World}
def yJ:Nat→Option RI:=λ_=>none
def RG:Nat→Prop:=λ_=>False
def rI(P:Program)(tn:TypeId→Option TN):Nat→TypeId→Option (List LK)
 | 0,_=>none
 | d+1,t=>match P.underlying t with
  | some (.int .i64)=>some [.i]
  | some (.int .u8)=>some [.by]
  | some .bool=>some [.b]
  | some .string=>some [.s]
  | some (.slice e)=>(tn e).map λt=>[.l t]
  | some (.struct fs)=>(kindsF (rI P tn d) P 0 fs.toList).bind λks=>bif Nat.beq (P.cellsOf t) ks.length then some ks else none
  | _=>none
where
 kindsF (f:TypeId→Option (List LK)) (P:Program):Nat→List Field→Option (List LK)
  | _,[]=>some []
  | k,x :: xs=>bif Nat.beq x.offset k then
    match f x.type with
    | some ks=>bif Nat.beq (P.cellsOf x.type) ks.length then(kindsF f P (k+ks.length) xs).map λr=>ks++r else none
    | none=>none
   else none
structure LM(P:Program)(tn:TypeId→Option TN)(D:Nat):Prop where
 ok:∀e t,tn e=some t→rI P tn D e=some (lk t)∧P.cellsOf e=sz t
def sH(W:World)(cs:List Value)(vs:List V):Prop:=cs.length=vs.length∧∀j (hj:j<vs.length),VR W yJ RG (cs.getD j undef) vs[j]
def sH.one{c:Value}{v:V}(h:VR W yJ RG c v):sH W [c] [v]:=⟨rfl,λj hj=>by
 have:j=0:=by simp at hj;omega
 subst this;exact h⟩
def sH.app{a b:List Value}{x y:List V}(h:sH W a x)(k:sH W b y):sH W (a++b) (x++y):=by
 refine⟨by simp[h.1,k.1],λj hj=>?_⟩
 by_cases mX:j<x.length
 ·rw[List.getElem_append_left mX,zcw _ _ _ _ (by rw[h.1];exact mX)];exact h.2 j mX
 ·rw[List.getElem_append_right (by omega),zcz _ _ _ _ (by rw[h.1];omega),h.1];exact k.2 _ (by simp at hj;omega)
omit [jA]in
def zwm{k:IntKind}{n:Int}(h:(Lit.int k n).wf=true):yE k n:=by
 simp only[Lit.wf,Bool.and_eq_true,decide_eq_true_eq]at h;exact h
omit [jA]in
def zfY{α β:Type}{f:α→Option β}:∀{l:List α} {r:List β},l.mapM f=some r→r.length=l.length∧∀i (hi:i<l.length) (hr:i<r.length),f l[i]=some r[i]
 | [],r,h=>by simp at h;subst h;exact⟨rfl,λi hi=>by simp at hi⟩
 | x :: l,r,h=>by
  rw[List.mapM_cons]at h;cases hx:f x with
  | none=>rw[hx]at h;simp at h
  | some y=>
   rw[hx]at h;cases hl:l.mapM f with
   | none=>rw[hl]at h;simp at h
   | some ys=>
    rw[hl]at h;simp at h;subst h;obtain⟨h1,h2⟩:=zfY hl;refine⟨by simp[h1],λi hi hr=>?_⟩;cases i with
    | zero=>exact hx
    | succ i=>exact h2 i (by simpa using hi) (by simpa using hr)
omit [jA]in
def zjF{α:Type}{p:Nat→α→Prop}:∀(n:Nat),(∀i,i<n→∃x,p i x)→∃l:List α,l.length=n∧∀i (hi:i<l.length),p i l[i]
 | 0,_=>⟨[],rfl,λi hi=>by simp at hi⟩
 | n+1,h=>by
  obtain⟨l,h1,h2⟩:=zjF n (λi hi=>h i (by omega));obtain⟨x,hx⟩:=h n (by omega);refine⟨l++[x],by simp[h1],λi hi=>?_⟩
  grind
omit [jA]in
def zfN{a:Addr}{n:Nat}{cs:List Value}(h:W.cells? 0 a n=some cs):cs.length=n∧∀i (_:i<n),W.cell? (a.add i)=some (cs.getD i undef):=by
 simp only[World.cells?,Nat.zero_le,if_true]at h;obtain⟨h1,h2⟩:=zfY h
 grind
variable (hB:W.heap.size≤jA.base)in
include hB in
theorem zds{tn:TypeId→Option TN}{D:Nat}(hK:LM P tn D){sp:Nat→Bool}{qY:Bool}:∀(fuel:Nat) (T:TypeId) (cs:List Value) (x:DataW H×List MemPlace) (d:Nat) (ks:List LK),
  DataW.trod encH P W 0 sp qY fuel T cs=some x→rI P tn d T=some ks→∃vs,sH W cs vs∧gC ks vs
 | 0,T,cs,x,d,ks,h,hk=>by simp[DataW.trod]at h
 | fuel+1,T,cs,x,0,ks,h,hk=>by simp[rI]at hk
 | fuel+1,T,cs,x,d+1,ks,h,hk=>by
  have slice:∀e,P.underlying T=some (.slice e)→(tn e).map (λt=>[LK.l t])=some ks→∃vs,sH W cs vs∧gC ks vs:=λe hu hk=>by
   obtain⟨t,ht,hk⟩:=Option.map_eq_some_iff.1 hk;subst hk;obtain⟨kk,YV⟩:=hK.ok e t ht;cases cs with
   | nil=>simp[DataW.trod,hu]at h
   | cons v r=>
   cases r with
   | cons v2 r2=>cases v<;>simp[DataW.trod,hu]at h
   | nil=>
   have hv:∃ao len cap,v= .slice ao len cap:=by cases v<;>first | exact⟨_,_,_,rfl⟩ | simp[DataW.trod,hu]at h
   obtain⟨ao,len,cap,rfl⟩:=hv;cases ao with
   | none=>
    have hz:len=0∧cap=0:=by
     cases len<;>cases cap<;>simp[DataW.trod,hu]at h
     exact⟨rfl,rfl⟩
    obtain⟨rfl,rfl⟩:=hz;exact⟨[.nil],sH.one .nil, .cons ⟨[],rfl⟩ .nil⟩
   | some a=>
    simp only[DataW.trod,hu]at h;split at h
    case isFalse=>cases h
    rename_i X4;obtain⟨_,MV,M0⟩:=X4;obtain⟨elems,lZ,_⟩:=Option.bind_eq_some_iff.1 h;rw[YV]at lZ;obtain⟨m1,m2⟩:=zfY lZ;simp at m1
    have one:∀i,i<len→∃y:El t,∃u:List Value,W.cells? 0 (a.add (i *sz t)) (sz t)=some u∧∀j (_:j<sz t),VR W yJ RG (u.getD j undef) ((enc t y).getD j .undef):=λi hi=>by
     have h1:=m2 i (by simpa using hi) (by omega);simp only[List.getElem_range]at h1;obtain⟨u,h2,h3⟩:=Option.bind_eq_some_iff.1 h1;obtain⟨vs,h4,h5⟩:=zds hK fuel e u _ D (lk t) h3 kk;obtain⟨y,h6⟩:=zkL t vs h5;have h7:=JF t h6;refine⟨y,u,h2,λj hj=>?_⟩;have aX:j<(enc t y).length:=by rw[oD];exact hj
     have mX:j<vs.length:=by rw[h7.len];exact aX
     rw[List.getD_eq_getElem?_getD (l:=enc t y),List.getElem?_eq_getElem aX];exact VR.sub (h7.get j mX aX) (h4.2 j mX)
    obtain⟨l,C3,Q0⟩:=zjF (p:=λi y=>∃u:List Value,W.cells? 0 (a.add (i *sz t)) (sz t)=some u∧∀j (_:j<sz t),VR W yJ RG (u.getD j undef) ((enc t y).getD j .undef)) len one;refine⟨[.sl t l],sH.one ?_, .cons ⟨l,by simp[WA,TN.cast]⟩ .nil⟩;cases l with
    | nil=>
     simp at C3;subst C3;exact .slE t _ cap M0
    | cons y0 l0=>
    -- there is a cell:the address is a plain one
    obtain⟨u0,I0,_⟩:=Q0 0 (by simp);have U3:=(zfN I0).2 0 (FO t)
    have V3:a.spot=none:=by
     simp only[World.cell?]at U3;split at U3
     ·simp only[Addr.add,Nat.zero_mul,if_true]at U3;cases hs:a.spot with
      | none=>rfl
      | some _=>rw[hs]at U3;simp at U3
     ·cases U3
    obtain⟨b,off,spot⟩:=a;simp only at V3;subst V3;subst C3
    refine .slC t _ b off cap (λi j=>(W.cell? (at_ b (off+i *sz t+j))).getD undef) (λh=>h) MV M0 (λ_=> .inl (Nat.lt_of_lt_of_le (yV (show W.cell? (at_ b (off+0 *sz t+0))=_ by
     have h:=U3;rw[show(⟨b,off,none⟩:Addr)=at_ b off from rfl,vG,vG]at h;exact h)) hB)) (λi hi j hj=>?_) (λi hi j hj=>?_)
    ·obtain⟨u,h1,_⟩:=Q0 i hi;have:=(zfN h1).2 j hj
     have e:((⟨b,off,none⟩:Addr).add (i *sz t)).add j=at_ b (off+i *sz t+j):=by
      show((at_ b off).add (i *sz t)).add j=_
      rw[vG,vG]
     rw[e]at this;rw[this];rfl
    ·obtain⟨u,h1,h2⟩:=Q0 i hi;have:=(zfN h1).2 j hj
     have e:((⟨b,off,none⟩:Addr).add (i *sz t)).add j=at_ b (off+i *sz t+j):=by
      show((at_ b off).add (i *sz t)).add j=_
      rw[vG,vG]
     rw[e]at this;rw[this];exact h2 j hj
  simp only[rI]at hk;cases hu:P.underlying T with
  | none=>rw[hu]at hk;cases hk
  | some td=>
   rw[hu]at hk;cases td with
   | int k=>
    cases cs with
    | nil=>simp[DataW.trod,hu]at h
    | cons v r=>
    cases r with
    | cons v2 r2=>cases v<;>simp[DataW.trod,hu]at h
    | nil=>
    cases v with
    | int k' n=>
     simp only[DataW.trod,hu]at h;split at h
     case isFalse=>cases h
     rename_i X4;obtain⟨rfl,hw⟩:=X4;have hf:=zwm hw;refine⟨[.int k' n],sH.one (.int _ _ hf),?_⟩;cases k'<;>simp at hk<;>subst hk
     ·exact .cons ⟨n,rfl⟩ .nil
     ·exact .cons ⟨_,rfl⟩ .nil
    | _=>simp[DataW.trod,hu]at h
   | bool=>
    cases cs with
    | nil=>simp[DataW.trod,hu]at h
    | cons v r=>
    cases r with
    | cons v2 r2=>cases v<;>simp[DataW.trod,hu]at h
    | nil=>
    cases v with
    | bool b=>
     simp at hk;subst hk;exact⟨[.bool b],sH.one (.bool _), .cons ⟨b,rfl⟩ .nil⟩
    | _=>simp[DataW.trod,hu]at h
   | string=>
    cases cs with
    | nil=>simp[DataW.trod,hu]at h
    | cons v r=>
    cases r with
    | cons v2 r2=>cases v<;>simp[DataW.trod,hu]at h
    | nil=>
    cases v with
    | string s=>
     simp only[DataW.trod,hu]at h;split at h
     case isFalse=>cases h
     rename_i hs;simp at hk;subst hk;refine⟨[.str s.data.toList],sH.one ?_, .cons ⟨_,rfl⟩ .nil⟩
     have K5:s.data.toList.length≤maxLen:=by
      rw[Array.length_toList];exact hs
     exact VR.str (w:=W) (ρ:=yJ) (bad:=RG) s.data.toList K5
    | _=>simp[DataW.trod,hu]at h
   | slice e=>exact slice e hu hk
   | struct fs=>
    unfold DataW.trod at h;rw[hu]at h;simp only at h;split at h
    case isFalse=>cases h
    rename_i MV;obtain⟨xs,L5,_⟩:=Option.map_eq_some_iff.1 h;clear h slice
    -- the fields
    have go:∀(l:List Field) (k:Nat) (ks:List LK) (xs:List (DataW H×List MemPlace)),rI.kindsF (rI P tn d) P k l=some ks→
      l.mapM (λf=>DataW.trod encH P W 0 sp qY fuel f.type ((cs.drop f.offset).take (P.cellsOf f.type)))=some xs→
      ∃vs,gC ks vs∧k+vs.length≤max k cs.length∧sH W ((cs.drop k).take vs.length) vs:=by
     intro l;induction l with
     | nil=>
      intro k ks xs hk _;simp[rI.kindsF]at hk;subst hk;exact⟨[], .nil,by simp;omega,by simp,λj hj=>by simp at hj⟩
     | cons f l ih=>
      intro k ks xs hk hx;simp only[rI.kindsF]at hk;cases hb:Nat.beq f.offset k
      case false=>simp[hb]at hk
      have EY:=Nat.eq_of_beq_eq_true hb;simp only[hb,cond_true]at hk;split at hk
      case h_2=>cases hk
      rename_i k0 OZ;cases N2:Nat.beq (P.cellsOf f.type) k0.length
      case false=>simp[N2]at hk
      have U0:=Nat.eq_of_beq_eq_true N2;simp only[N2,cond_true]at hk;obtain⟨r,hr,rfl⟩:=Option.map_eq_some_iff.1 hk;rw[List.mapM_cons]at hx;cases h0:DataW.trod encH P W 0 sp qY fuel f.type ((cs.drop f.offset).take (P.cellsOf f.type))with
      | none=>rw[h0]at hx;simp at hx
      | some y=>
       rw[h0]at hx;cases h1:l.mapM (λf=>DataW.trod encH P W 0 sp qY fuel f.type ((cs.drop f.offset).take (P.cellsOf f.type)))with
       | none=>rw[h1]at hx;simp at hx
       | some ys=>
        obtain⟨v0,g1,g2⟩:=zds hK fuel f.type _ y d k0 h0 OZ;have BX:v0.length=k0.length:=g2.len.symm;rw[←EY]at hr⊢;obtain⟨vs,e1,e2,e3⟩:=ih (f.offset+k0.length) r ys hr h1;have E2:=g1.1;rw[U0]at E2 g1;simp only[List.length_take,List.length_drop]at E2;refine⟨v0++vs,g2.app e1,by simp;omega,?_⟩
        have es:(cs.drop f.offset).take (v0++vs).length=(cs.drop f.offset).take k0.length++(cs.drop (f.offset+k0.length)).take vs.length:=by
         rw[List.length_append,BX,List.take_add,List.drop_drop]
        rw[es];exact g1.app e3
    obtain⟨ks',XZ,KV⟩:=Option.bind_eq_some_iff.1 hk;cases hb:Nat.beq (P.cellsOf T) ks'.length
    case false=>simp[hb]at KV
    have U0:=Nat.eq_of_beq_eq_true hb;simp only[hb,cond_true,Option.some.injEq]at KV;subst KV;obtain⟨vs,e1,e2,e3⟩:=go fs.toList 0 ks' xs XZ L5;have hvl:vs.length=cs.length:=by rw[←e1.len,MV,U0]
    refine⟨vs,?_,e1⟩;rw[List.drop_zero,List.take_of_length_le (by omega)]at e3;exact e3
   | _=>simp at hk
def zaA(P:Program)(tn:TypeId→Option TN)(D:Nat)(T:TypeId):Ty→Bool
 | .v t=>(match P.underlying T with
   | some (.struct _)=>t.isAgg
   | some (.int _) | some .bool | some .string=>!t.isAgg
   | _=>false)&&decide (rI P tn D T=some (lk t))
 | .sl t=>(match P.underlying T with
   | some (.slice _)=>true
   | _=>false)&&decide (rI P tn D T=some [.l t])
 | _=>false
variable (hB:W.heap.size≤jA.base)in
include hB in
theorem zwM{tn:TypeId→Option TN}{D:Nat}(hK:LM P tn D){sp:Nat→Bool}{qY:Bool}{T:TypeId}{ty:Ty}(PZ:zaA P tn D T ty=true){v:Value}{d:DataW H}{ps:List MemPlace}
  (h:DataW.Trod encH P W 0 sp qY T v d ps) {r:Reach} {b:Nat} (hw:Value.okWide P W r b T v):∃x:ty.T,VR W yJ RG v (WC ty x)∧nE ty (WC ty x)=some x:=by
 obtain⟨fuel,h⟩:=h
 -- a value of one cell
 have P0:(∀fs,P.underlying T≠some (.struct fs))→(∀n e,P.underlying T≠some (.array n e))→v.cells.toList=[v]:=λh1 h2=>by
  unfold Value.okWide at hw;split at hw
  ·rename_i fs hu;exact absurd hu (h1 _)
  ·rename_i hu;exact absurd hu (h2 _ _)
  ·cases v with
   | agg cs=>
    exfalso;unfold Cell.okWide at hw;split at hw<;>simp_all[Cell.ok]
   | _=>rfl
 cases ty with
 | v t=>
  simp only[zaA,Bool.and_eq_true,decide_eq_true_eq]at PZ;obtain⟨vs,h1,h2⟩:=zds hB hK fuel T _ _ D _ h PZ.2;obtain⟨x,hx⟩:=zkL t vs h2;have hs:=JF t hx
  have hd:lF t (enc t x)=some x:=by
   cases t<;>first | rfl | (simp[lF,enc,tk,uT,cC];done)
  refine⟨x,?_⟩;have eW:∀j (hj:j<(enc t x).length),VR W yJ RG (v.cells.toList.getD j undef) (enc t x)[j]:=λj hj=>VR.sub (hs.get j (by rw[hs.len];exact hj) hj) (h1.2 j (by rw[hs.len];exact hj));cases DW:t.isAgg
  ·obtain⟨c,hc⟩:=zlM t DW x
   have hv:v.cells.toList=[v]:=by
    refine P0 (λfs hu=>?_) (λn e hu=>?_)
    ·rw[hu]at PZ;simp[DW]at PZ
    ·rw[hu]at PZ;simp at PZ
   have he:WC (.v t) x=c:=by simp[WC,yK,DW,hc]
   rw[he];have h0:=eW 0 (by rw[hc];simp);simp only[hv,hc,List.getElem_cons_zero]at h0;refine⟨h0,?_⟩;rw[hc]at hd;cases c<;>first | (simp only[nE,DW,cond_false];exact hd) | skip
   exfalso;have:=zkT t x;rw[hc]at this;simp[V.leaf]at this
  ·have hu:∃fs,P.underlying T=some (.struct fs):=by
    revert PZ
    cases P.underlying T with
    | none=>simp
    | some td=>cases td<;>simp[DW]
   obtain⟨fs,hu⟩:=hu;unfold Value.okWide at hw;rw[hu]at hw;obtain⟨cs,rfl,YV,_⟩:=hw;have he:WC (.v t) x= .agg (enc t x):=by simp[WC,yK,DW]
   rw[he];refine⟨.agg _ _ ?_ λj hj=>?_,by simp only[nE,DW,cond_true];exact hd⟩
   ·have:=h1.1;simp only[Value.cells,Array.length_toList]at this;rw[this,hs.len]
   ·have:=eW j hj;simp only[Value.cells]at this;rw[Array.getD_eq_getD_getElem?];rw[List.getD_eq_getElem?_getD]at this;simpa using this
 | sl t=>
  simp only[zaA,Bool.and_eq_true,decide_eq_true_eq]at PZ;obtain⟨vs,h1,h2⟩:=zds hB hK fuel T _ _ D _ h PZ.2;obtain⟨c,r,rfl,⟨l,hl⟩,hr⟩:=h2.take;cases hr
  have hv:v.cells.toList=[v]:=by
   refine P0 (λfs hu=>?_) (λn e hu=>?_)
   ·rw[hu]at PZ;simp at PZ
   ·rw[hu]at PZ;simp at PZ
  refine⟨l,?_,by simp[nE,WC,WA,TN.cast]⟩;have h0:=h1.2 0 (by simp);simp only[hv]at h0;exact VR.sub (YA hl) h0
 | _=>simp[zaA]at PZ
def bN(P:Program)(tn:TypeId→Option TN)(D:Nat):List TypeId→List Ty→Bool
 | [],[]=>true
 | T :: Ts,t :: ts=>zaA P tn D T t&&bN P tn D Ts ts
 | _,_=>false
variable (hB:W.heap.size≤jA.base)in
include hB in
theorem zlN{tn:TypeId→Option TN}{D:Nat}(hK:LM P tn D){sp:Nat→Bool}{qY:Bool}{r:Reach}{b:Nat}:∀(Ts:List TypeId) (ats:List Ty) (vs:List Value) (ds:List (DataW H)) (ps:List MemPlace),
  bN P tn D Ts ats=true→DataW.TrodAll encH P W 0 sp qY Ts vs ds ps→(∀(j:Nat) t v,Ts[j]?=some t→vs[j]?=some v→Value.okWide P W r b t v)→
  vs.length=ats.length∧∃x:eB ats,uD ats (fB ats x)=some x∧(fB ats x).length=ats.length∧∀j (hj:j<(fB ats x).length),VR W yJ RG (vs.getD j undef) (fB ats x)[j]
 | [],[],vs,ds,ps,_,h,_=>by
  cases vs<;>cases ds<;>simp[DataW.TrodAll]at h
  exact⟨rfl,(),rfl,rfl,λj hj=>by simp[fB]at hj⟩
 | [],_ :: _,vs,ds,ps,ht,_,_=>by simp[bN]at ht
 | _ :: _,[],vs,ds,ps,ht,_,_=>by simp[bN]at ht
 | T :: Ts,t :: ts,vs,ds,ps,ht,h,hw=>by
  simp only[bN,Bool.and_eq_true]at ht;obtain⟨v,vs',d,ds',p,q,rfl,rfl,rfl,h0,h1⟩:=ChangeShapes.trodAll_cons h;obtain⟨x0,k1,k2⟩:=zwM hB hK ht.1 h0 (hw 0 T v rfl rfl);obtain⟨e1,y,e2,e3,e4⟩:=zlN hK Ts ts vs' ds' q ht.2 h1 (λj t v h1 h2=>hw (j+1) t v h1 h2);refine⟨by simp[e1],?_⟩;cases ts with
  | nil=>
   refine⟨x0,by simpa[uD,fB]using k2,rfl,λj hj=>?_⟩;have:j=0:=by simp[fB]at hj;omega
   subst this;exact k1
  | cons d r=>
   refine⟨(x0,y),?_,by simp[fB]at e3⊢;exact e3,λj hj=>?_⟩
   ·simp only[uD,fB];rw[k2];simp only[Option.bind_some];rw[e2];rfl
   ·cases j with
    | zero=>exact k1
    | succ j=>exact e4 j (by simpa[fB]using hj)
def eE(n:Nat):List sB:=List.replicate n .plain
omit [jA]in
def zkf:∀(n k:Nat) (as:List V),as.length=n→SB (eE n) k as=as∧FA (eE n) k as=λ_=>none
 | 0,k,[],_=>⟨rfl,rfl⟩
 | 0,k,_ :: _,h=>by simp at h
 | n+1,k,[],h=>by simp at h
 | n+1,k,a :: as,h=>by
  obtain⟨h1,h2⟩:=zkf n (k+1) as (by simpa using h);refine⟨?_,?_⟩
  ·show a :: SB (eE n) (k+1) as=_;rw[h1]
  ·show FA (eE n) (k+1) as=_;exact h2
def ztS(hB:jA.base=W.heap.size){tn:TypeId→Option TN}{D:Nat}(hK:LM P tn D){f:Nat}{ats:List Ty}{F:eB ats→Option Bool}{n:Nat}
  {g:Gl} (hg:g.p W) (hc:BB P f ⟨eE n,eB ats,eB [.v .bool],uD ats,F,vE [.v .bool],[(false,1)],[],false⟩ g) (hn:ats.length=n) (hF:∀x,F x=some true) {Ts:List TypeId} (ht:bN P tn D Ts ats=true)
  {sp:Nat→Bool} {qY:Bool} {r:Reach} {b:Nat} {args:Array Value} {ds:List (DataW H)} {ps:List MemPlace} (h:DataW.TrodAll encH P W 0 sp qY Ts args.toList ds ps)
  (hw:∀(j:Nat) t v,Ts[j]?=some t→args[j]?=some v→Value.okWide P W r b t v) (P4:(callFunc f args).run P W= .ok (.enter f args) W):
  Calls P f args W λe W'=>e= .returned (.bool true)∧Below W.heap.size W W':=by
 obtain⟨h1,x,h2,h3,h4⟩:=zlN (Nat.le_of_eq hB.symm) hK Ts ats args.toList ds ps ht h (λj t v h5 h6=>hw j t v h5 (by simpa using h6));have MV:(fB ats x).length=n:=by rw[h3,hn]
 obtain⟨e1,e2⟩:=zkf n 0 (fB ats x) MV;have hp:(eE n).length=n:=by simp[eE]
 have bW:∀b,tA RG yJ (FA (eE n) 0 (fB ats x)) b→RG b:=by
  rintro b (h | ⟨q,row,ri,h,_⟩)
  ·exact h
  ·rw[e2]at h;cases h
 have hemp:∀h:Nat→Option uA,h=(λ_=>none)→rB W RG RG yJ h W:=λh he=>by
  subst he;exact⟨Wx.refl _,λ_ _ _=>rfl,λb hb=>hb.elim,λr row hr=>(by cases hr),λq q' row row' qi qi' hq=>(by cases hq)⟩
 have G:=hc W args (fB ats x) RG RG yJ x true 0 [] (by simp at h1;rw[hp];omega) (by rw[e1,hp,MV])
  (hemp (FA (eE n) 0 (fB ats x)) e2)
  (fun j hj=>by
   have aX:j<(fB ats x).length:=by rw[←e1];exact hj
   have h5:=h4 j aX;have h6:(SB (eE n) 0 (fB ats x))[j]=(fB ats x)[j]:=by simp only[e1]
   rw[h6];rw[Array.getD_eq_getD_getElem?];rw[List.getD_eq_getElem?_getD]at h5;rw[Array.getElem?_toList]at h5;exact h5.mono (λ_ _ h=>h) (λ_ _ _=>rfl) λb hb=> .inl (bW b hb))
  (λ_ _=>rfl) (by simp) (λb hb=>by simp at hb) h2 (hF x) (by simp[vE,zdZ,enc]) ⟨hg,λ_ _ h=>h,Nat.le_of_eq hB,λ_ _ h=>h⟩
 rcases G with⟨_,G⟩ | ⟨v,w',G,_⟩
 ·refine Calls.mono' G λe w' ⟨v,he,ρ',g1,g2,_⟩=>?_;subst he;refine⟨?_,g1.wx.os,g1.wx.tape,g1.wx.output,g1.wx.size,λk hk=>g1.old k hk λh=>h⟩;have g3:VR w' ρ' (tA RG ρ' (rE ⟨eE n,eB ats,eB [.v .bool],uD ats,F,vE [.v .bool],[(false,1)],[],false⟩ (fB ats x) [] 0 (vE [.v .bool] true))) v (.bool true):=g2;cases g3;rfl
 ·rw[P4]at G;cases G
omit [jA]in
def zrz{W W':World}(hb:Below W.heap.size W W'){b off:Nat}(h:b<W.heap.size):W'.frozen? ⟨b,off,none⟩=W.frozen? ⟨b,off,none⟩:=by
 simp only[World.frozen?,hb.block b h]
omit [jA]in
def zi7(hl:laidOutB P=true){W':World}(hb:Below W.heap.size W W'){sp':Nat→Bool}:∀(ts:List TypeId) (vs:List Value) (ds:List (DataW H)) (ps:List MemPlace),
  (∀t∈ts,P.readableRec t=true∧t<P.types.size)→DataW.TrodAll encH P W 0 (λ_=>true) true ts vs ds ps→(∀x∈ps,x.block<W.heap.size)→(∀x∈ps,sp' x.block=true)→DataW.TrodAll encH P W' 0 sp' true ts vs ds ps
 | [],vs,ds,ps,hr,h,OV,hs=>by
  cases vs<;>cases ds<;>simp[DataW.TrodAll]at h⊢
  exact h
 | t :: ts,vs,ds,ps,hr,h,OV,hs=>by
  obtain⟨v,vs',d,ds',p,q,rfl,rfl,rfl,h0,h1⟩:=ChangeShapes.trodAll_cons h
  refine⟨p,q,WideElems.Trod_stays hl (hr t (by simp)).1 (hr t (by simp)).2 h0 (λx hx=>hb.same (OV x (by simp[hx]))) (λx hx=>hs x (by simp[hx])),
   zi7 hl hb ts vs' ds' q (λt ht=>hr t (List.mem_cons_of_mem _ ht)) h1 (λx hx=>OV x (by simp[hx])) (λx hx=>hs x (by simp[hx])),rfl⟩
omit [jA]in
def zu0(hl:laidOutB P=true){f:Func}{s:ChangeSpec}{apart fresh vX again:Bool}{W':World}{args:Array Value}{ds gs:List (DataW H)}{before:List MemPlace}
  (d7:∀t∈f.params.toList,P.readableRec t=true∧t<P.types.size) (XX:s.vars=[]) (hW:DataW.Whole encH P f.params.toList s.vars apart W args.toList ds gs before) (hb:Below W.heap.size W W')
  {T:TypeId} (hT:f.resultTypes= #[T]) (AY:P.underlying T=some .bool) (VY:s.fn H (ds++gs)={results:=[.lit (.bool true)],args:=ds}):
  s.post encH P f apart fresh vX again W args (.bool true) W':=by
 obtain⟨p,q,h1,h2,rfl,h3,h4⟩:=id hW;rw[XX]at h2;have hq:gs=[]∧q=[]:=by cases gs<;>simp[DataW.TrodVars]at h2;exact⟨rfl,h2⟩
 obtain⟨rfl,rfl⟩:=hq;have OV:∀x∈p,x.block<W.heap.size:=λx hx=>hW.lt x (by simp[hx])
 have FW:∀sp:Nat→Bool,(∀x∈p,sp x.block=true)→DataW.TrodAll encH P W' 0 sp true f.params.toList args.toList (s.fn H (ds++[])).args p:=λsp hs=>by
  rw[VY];exact zi7 hl hb _ _ _ _ d7 h1 OV hs
 have GX:∀(b:Nat) (sp:Nat→Bool) (hd:Bool),DataW.TrodAll encH P W' b sp hd f.resultTypes.toList ((Value.bool true).resultList f.resultTypes.size) (s.fn H (ds++[])).results []:=λb sp hd=>by
  rw[VY,hT];refine⟨[],[],RowKit.shut_bool AY _,rfl,rfl⟩
 have JX:∀sp:Nat→Bool,DataW.TrodVars encH P W' sp s.vars (s.fn H (ds++[])).vars []:=λsp=>by
  rw[VY,XX];rfl
 have ZZ:∀x∈p,(λb=>decide (b<W.heap.size)) x.block=true:=λx hx=>by simpa using OV x hx
 refine⟨ds,[],p++[],[],p,[],hW,GX _ _ _,FW _ ZZ,JX _,?_,λ_=>⟨?_,_,_,([]++p)++[],⟨[]++p,[],trodAll_append (FW _ (λ_ _=>rfl)) (GX _ _ _),JX _,rfl,?_,?_⟩,?_⟩⟩
 ·refine⟨hb.os,hb.output,λi hi=>?_⟩;rw[hb.block i hi];exact(World.keptBut_refl W (λx=>x∈p++[]∧(x∈[]∨x∈p∨x∈[]))).2.2 i hi
 ·exact ok_one hT rfl (okWide_bool_mk AY _)
 ·intro c off hp;have V9:MemPlace.cell c off∈p++[]:=by simpa using hp
  have:=OV (.cell c off) (by simpa using V9);rw[zrz (b:=c) (off:=off) hb this];exact h3 c off V9
 ·intro ha;have:=h4 ha;simpa using this
 ·intro x hx _;simpa using hx
omit [jA]in
def zvj {f : Nat} {fn : Func} {body : Code} (hf : P.funcs[f]? = some fn) (hb : fn.body = some body) (PW : (fn.name == "runtime.NumGoroutine") = false) (args : Array Value) :
  (callFunc f args).run P W= .ok (.enter f args) W:=by
 have WX : ¬ fn.name = "runtime.NumGoroutine" := by simpa using PW
 simp[callFunc,program,hf,hb,WX,Sem.run]
omit [jA]in
def zu7{g:Gl}(hg:g.p W){tn:TypeId→Option TN}{D:Nat}(hK:LM P tn D){f:Nat}{fn:Func}{body:Code}{ats:List Ty}{F:eB ats→Option Bool}{n:Nat}
  {tns:TypeId→Option TN} (hc:∀m:Nat,@BB ⟨tns,m⟩ P f ⟨eE n,eB ats,eB [.v .bool],uD ats,F,vE [.v .bool],[(false,1)],[],false⟩ g) (hn:ats.length=n) (hF:∀x,F x=some true)
  (hf : P.funcs[f]? = some fn) (hb : fn.body = some body) (PW : (fn.name == "runtime.NumGoroutine") = false) (ht : bN P tn D fn.params.toList ats = true)
  (hl:laidOutB P=true) (d7:(fn.params.toList.all λt=>P.readableRec t&&Nat.blt t P.types.size)=true) {T:TypeId} (hT:fn.resultTypes= #[T]) (AY:P.underlying T=some .bool)
  {s:ChangeSpec} (XX:s.vars=[]) {apart fresh vX again:Bool} {args:Array Value} {ds gs:List (DataW H)} {before:List MemPlace} {r:Reach} {b:Nat}
  (hW:DataW.Whole encH P fn.params.toList s.vars apart W args.toList ds gs before) (VY:gs=[]→s.fn H (ds++gs)={results:=[.lit (.bool true)],args:=ds})
  (tZ:∀(j:Nat) t v,fn.params[j]?=some t→args[j]?=some v→Value.okWide P W r b t v):
  Calls P f args W λe W'=>∃v,e= .returned v∧s.post encH P fn apart fresh vX again W args v W':=by
 obtain⟨p,q,h1,h2,h3⟩:=id hW
 have hgs:gs=[]:=by
  rw[XX]at h2;cases gs
  ·rfl
  ·simp[DataW.TrodVars]at h2
 letI:jA:=⟨tns,W.heap.size⟩
 refine Calls.mono' (ztS rfl hK hg (hc W.heap.size) hn hF ht h1 (λj t v h5 h6=>tZ j t v (by simpa using h5) h6) (zvj hf hb PW args)) λe W' ⟨he,hb⟩=>⟨_,he,zu0 hl (λt ht=>?_) XX hW hb hT AY (VY hgs)⟩;have:=List.all_eq_true.1 d7 t ht;simpa using this
omit [jA]in
def zvY{tn:TypeId→Option TN}{D:Nat}(hK:LM P tn D){f:Nat}{fn:Func}{body:Code}{ats:List Ty}{F:eB ats→Option Bool}{n:Nat}
  {tns:TypeId→Option TN} (hc:∀m:Nat,@BB ⟨tns,m⟩ P f ⟨eE n,eB ats,eB [.v .bool],uD ats,F,vE [.v .bool],[(false,1)],[],false⟩ IL) (hn:ats.length=n) (hF:∀x,F x=some true)
  (hf : P.funcs[f]? = some fn) (hb : fn.body = some body) (PW : (fn.name == "runtime.NumGoroutine") = false) (ht : bN P tn D fn.params.toList ats = true)
  (hl:laidOutB P=true) (d7:(fn.params.toList.all λt=>P.readableRec t&&Nat.blt t P.types.size)=true) {T:TypeId} (hT:fn.resultTypes= #[T]) (AY:P.underlying T=some .bool)
  {s:ChangeSpec} (XX:s.vars=[]) {apart fresh vX again:Bool} {args:Array Value} {ds gs:List (DataW H)} {before:List MemPlace} {r:Reach} {b:Nat}
  (hW:DataW.Whole encH P fn.params.toList s.vars apart W args.toList ds gs before) (VY:gs=[]→s.fn H (ds++gs)={results:=[.lit (.bool true)],args:=ds})
  (tZ:∀(j:Nat) t v,fn.params[j]?=some t→args[j]?=some v→Value.okWide P W r b t v):
  Calls P f args W λe W'=>∃v,e= .returned v∧s.post encH P fn apart fresh vX again W args v W':=
 zu7 (g:=IL) trivial hK hc hn hF hf hb PW ht hl d7 hT AY XX hW VY tZ
end
end Go.D

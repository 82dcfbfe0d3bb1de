/-
 A body's end: what the function gives.
-/
import Derived.Test.YtkpkommmdacjlaaGreatL6
import Derived.Test.YtkpkommmdacjlaaGreatL5
import Derived.Carry
import Derived.WideKeyArgs
import Derived.ChangeSame
set_option linter.all false
namespace Go.D
variable [aA]
omit [aA]in
def ZA.app{a b c d:List V}(h:ZA a b)(k:ZA c d):ZA (a++c) (b++d):=by
 induction h with
 | nil=>exact k
 | cons h1 _ ih=>exact .cons h1 ih
omit [aA]in
def uU(t:Ty)(vs:List V)(x:t.T×List V)(h:XE t vs=some x):∃us,vs=us++x.2∧ZA us (NQ t x.1):=by
 cases t with
 | v t=>
  simp only[XE]at h;obtain⟨a,h1,h2⟩:=Option.bind_eq_some_iff.1 h;cases h2;exact⟨_,(List.take_append_drop _ _).symm,LC t h1⟩
 | cells t=>
  simp only[XE]at h;obtain⟨a,h1,h2⟩:=Option.bind_eq_some_iff.1 h;cases h2;exact⟨_,(List.take_append_drop _ _).symm,LC t h1⟩
 | sl t=>
  cases vs with
  | nil=>simp[XE]at h
  | cons v vs=>
   simp only[XE]at h;obtain⟨a,h1,h2⟩:=Option.bind_eq_some_iff.1 h;cases h2;exact⟨[v],rfl, .cons (GA h1) .nil⟩
 | raw=>
  cases vs with
  | nil=>simp[XE]at h
  | cons v vs=>simp only[XE,Option.some.injEq]at h;subst h;exact⟨[v],rfl, .cons (.refl _) .nil⟩
 | pt=>simp[XE]at h
 | c1=>simp[XE]at h
 | p1=>simp[XE]at h
 | c2=>simp[XE]at h
omit [aA]in
def kV:∀(ts:List Ty) (vs:List V) (x:MA ts),fI ts vs=some x→ZA vs (tC ts x)
 | [],[],x,h=> .nil
 | [],_ :: _,x,h=>by simp[fI]at h
 | [t],vs,x,h=>by
  simp only[fI]at h;obtain⟨y,h1,h2⟩:=Option.bind_eq_some_iff.1 h;obtain⟨us,h3,h4⟩:=uU t vs y h1;split at h2
  ·rename_i h5;cases h2;rw[h5,List.append_nil]at h3;subst h3;exact h4
  ·cases h2
 | t :: d :: r,vs,x,h=>by
  simp only[fI]at h;obtain⟨y,h1,h2⟩:=Option.bind_eq_some_iff.1 h;obtain⟨z,h3,h4⟩:=Option.bind_eq_some_iff.1 h2;cases h4;obtain⟨us,h5,h6⟩:=uU t vs y h1;rw[h5];exact h6.app (kV (d :: r) _ z h3)
section
variable {C:Cx} {w0:World} {outer D:Nat→Prop} {own:Ow} {R:Type} {st st1 st2:St} {ρ ρ1 ρ2:Nat→Option RI} {a a1 a2:Act} {w w1 w2:World} {j:JI}
omit [aA]in
def zfS(an:An):∀c:Code,gF an (λ_=>True) c:=by
 have jd:∀o,JD (λ_=>True) o:=λo=>by cases o<;>simp[JD]
 intro c;induction c with
 | region id ops d=>exact⟨λ_ _ _ _=>trivial,jd _⟩
 | seq x y hx hy=>exact⟨hx,hy⟩
 | cond c x y hx hy=>cases c<;>first | exact⟨hx,hy,jd _⟩ | exact⟨hx,hy⟩
 | block id x hx=>exact⟨hx,jd _⟩
 | loop x hx=>
  refine⟨hx,?_⟩;split
  ·exact jd _
  ·trivial
 | scope x hx=>exact hx
 | _=>trivial
omit [aA]in
def HO(ow:List Nat)(B:Nat)(e:V)(es:List V)(p q:Nat)(h:q≠p):HA ow B (λ_=>none) p (e :: es) (B+q)=HA ow B (λ_=>none) (p+1) es (B+q):=by
 cases e<;>simp only[HA]
 cases hb:ow.any (Nat.beq p)
 ·rfl
 ·simp only[cond_true];rw[kA _ _ _ _ (by omega)]
omit [aA]in
def CP(ow:List Nat)(B:Nat):∀(cs es:List V) (p q:Nat) (row:gA),ZA cs es→HA ow B (λ_=>none) p es (B+q)=some row→
  HA ow B (λ_=>none) p cs (B+q)=some row∨(HA ow B (λ_=>none) p cs (B+q)=none∧∃t m,row=⟨.arr t [],m⟩)
 | [],_,p,q,row,hs,h=>by cases hs;simp[HA]at h
 | c :: cs,_,p,q,row,hs,h=>by
  cases hs with
  | cons NX nX=>
  rename_i e es
  by_cases hq:q=p
  ·subst hq;cases NX with
   | refl=>
    have hn:∀l:List V,HA ow B (λ_=>none) (q+1) l (B+q)=none:=λl=>CB _ _ _ _ _ (by omega);left;cases c<;>simp only[HA]at h⊢ <;>try (rw[hn]at h;cases h)
    cases hb:ow.any (Nat.beq q)
    ·simp only[hb,cond_false]at h;rw[hn]at h;cases h
    ·simp only[hb,cond_true,tA]at h⊢;exact h
   | byte n=>simp only[HA]at h;rw[CB _ _ _ _ _ (by omega)]at h;cases h
   | nil t=>
    right;simp only[HA]at h⊢;refine⟨CB _ _ _ _ _ (by omega),?_⟩;cases hb:ow.any (Nat.beq q)
    ·simp only[hb,cond_false]at h;rw[CB _ _ _ _ _ (by omega)]at h;cases h
    ·simp only[hb,cond_true,tA]at h;cases h;exact⟨t,_,rfl⟩
  ·rw[HO _ _ _ _ _ _ hq]at h⊢;exact CP ow B cs es (p+1) q row nX h
def tP(ow:List Nat)(B:Nat){bad bad2:Nat→Prop}{ρ2:Nat→Option RI}(hk:∀u d,VR w ρ bad u d→VR w ρ2 bad2 u d):∀(cs es:List V) (p:Nat) (u:Nat→Value),ZA cs es→
  (∀q t m,p≤q→HA ow B (λ_=>none) p cs (B+q)=none→HA ow B (λ_=>none) p es (B+q)=some ⟨.arr t [],m⟩→ρ2 (B+q)=some ⟨0,0,0,true⟩)→
  (∀j (hj:j<(zA ow B p cs).length),VR w ρ bad (u j) (zA ow B p cs)[j])→∀j (hj:j<(zA ow B p es).length),VR w ρ2 bad2 (u j) (zA ow B p es)[j]
 | [],_,p,u,hs,hn,hv,j,hj=>by cases hs;simp[zA]at hj
 | c :: cs,_,p,u,hs,hn,hv,j,hj=>by
  cases hs with
  | cons NX nX=>
  rename_i e es;have hd:∀(c:V) (cs:List V),∃c',zA ow B p (c :: cs)=c' :: zA ow B (p+1) cs:=λc cs=>by cases c<;>exact⟨_,rfl⟩
  obtain⟨c',bX⟩:=hd c cs;obtain⟨e',RW⟩:=hd e es
  have IZ:∀j (hj:j<(c' :: zA ow B (p+1) cs).length),VR w ρ bad (u j) (c' :: zA ow B (p+1) cs)[j]:=λj hj=>by
   have:=hv j (by rw[bX];exact hj);simpa only[bX]using this
  have ih:=tP ow B hk cs es (p+1) (λj=>u (j+1)) nX (λq t m h1 h2 h3=>hn q t m (by omega) (by rw[HO _ _ _ _ _ _ (by omega)];exact h2) (by rw[HO _ _ _ _ _ _ (by omega)];exact h3))
   (λj hj=>by have:=IZ (j+1) (by simp;omega);simpa using this)
  have gW:=IZ 0 (by simp);simp only[List.getElem_cons_zero]at gW
  have goal0:VR w ρ2 bad2 (u 0) e':=by
   cases NX with
   | refl=>
    have:e'=c':=by
     have h1:=congrArg List.head? bX;have h2:=congrArg List.head? RW;cases c<;>simp[zA]at h1 h2<;>rw[←h1, ←h2]
    rw[this];exact hk _ _ gW
   | byte n=>
    have h1:=congrArg List.head? bX;have h2:=congrArg List.head? RW;simp only[zA,List.head?_cons,Option.some.injEq]at h1 h2;subst h1;subst h2;exact hk _ _ (VR.sub (.byte n) gW)
   | nil t=>
    have h1:=congrArg List.head? bX;have h2:=congrArg List.head? RW;simp only[zA,List.head?_cons,Option.some.injEq]at h1 h2;subst h1;have kY:u 0= .slice none 0 0:=by generalize u 0=x at gW;cases gW;rfl
    cases hb:ow.any (Nat.beq p)
    ·simp only[hb,cond_false]at h2;subst h2;rw[kY];exact .slE _ _ _ (Nat.zero_le _)
    ·simp only[hb,cond_true]at h2;subst h2;rw[kY];refine .owN _ ⟨0,0,0,true⟩ none (hn p t (PC ow p) (Nat.le_refl _) ?_ ?_) rfl rfl
     ·simp only[HA];exact CB _ _ _ _ _ (by omega)
     ·simp only[HA,hb,cond_true,tA]
  cases j with
  | zero=>simp only[RW,List.getElem_cons_zero];exact goal0
  | succ j=>simp only[RW,List.getElem_cons_succ];exact ih j (by rw[RW]at hj;simpa using hj)
omit [aA]in
def XU{t:Ty}{ats:List Ty}{as:List V}{x:MA (t :: ats)}(hd:DB (t :: ats) as=some x):
  ∃v vs y,as=v :: vs∧∃(x0:t.T),CC t v=some x0∧DB ats vs=some y∧CA (t :: ats) x=uB t x0 :: CA ats y:=by
 cases ats with
 | nil=>
  cases as with
  | nil=>simp[DB]at hd
  | cons v vs=>
   cases vs with
   | nil=>exact⟨v,[],(),rfl,x,by simpa[DB]using hd,rfl,rfl⟩
   | cons=>simp[DB]at hd
 | cons d r=>
  cases as with
  | nil=>simp[DB]at hd
  | cons v vs=>
   simp only[DB]at hd;obtain⟨x0,h1,h2⟩:=Option.bind_eq_some_iff.1 hd;obtain⟨y,h3,h4⟩:=Option.bind_eq_some_iff.1 h2;cases h4;exact⟨v,vs,y,rfl,x0,h1,h3,rfl⟩
omit [aA]in
def aD:∀(ks:List IA) (k:Nat) (as:List V) (q:Nat) (row:gA),pA ks k as q=some row→128 *k≤q
  | [],k,as,q,row,h=>by cases as<;>simp[pA]at h
  | .plain :: ks,k,[],q,row,h=>by simp[pA]at h
  | .plain :: ks,k,a :: as,q,row,h=>by
   have:=aD ks (k+1) as q row (by simpa only[pA]using h);omega
  | .mv ow :: ks,k,[],q,row,h=>by simp[pA]at h
  | .mv ow :: ks,k,a :: as,q,row,h=>by
   cases a<;>simp only[pA]at h<;>try (cases h;done)
   rw[PA]at h;split at h
   ·rename_i x hx;obtain⟨_,_,_,h1,_⟩:=UB _ _ _ _ _ _ hx;omega
   ·have:=aD ks (k+1) as q row h;omega
  | .ms :: ks,k,[],q,row,h=>by simp[pA]at h
  | .ms :: ks,k,a :: as,q,row,h=>by
   simp only[pA]at h;rw[PA]at h;split at h
   ·rename_i x hx;obtain⟨_,_,_,h1,_⟩:=UB _ _ _ _ _ _ hx;omega
   ·have:=aD ks (k+1) as q row h;omega
  | .ptr ow :: ks,k,[],q,row,h=>by simp[pA]at h
  | .ptr ow :: ks,k,a :: as,q,row,h=>by
   cases a<;>simp only[pA]at h<;>try (cases h;done)
   by_cases hq:q=128 *k+127
   ·omega
   ·rw[kA _ _ _ _ hq,PA]at h;split at h
    ·rename_i x hx;obtain⟨_,_,_,h1,_⟩:=UB _ _ _ _ _ _ hx;omega
    ·have:=aD ks (k+1) as q row h;omega
def zbr{bad bad2:Nat→Prop}{ρ2:Nat→Option RI}(JW:∀u d,VR w ρ bad u d→VR w ρ2 bad2 u d):∀(ks:List IA) (ats:List Ty) (as:List V) (x:MA ats) (k:Nat) (u:Nat→Value),QA ks ats=true→DB ats as=some x→
  (∀q t m,pA ks k as q=none→pA ks k (CA ats x) q=some ⟨.arr t [],m⟩→ρ2 q=some ⟨0,0,0,true⟩)→
  (∀j (hj:j<(UA ks k as).length),VR w ρ bad (u j) (UA ks k as)[j])→
  (UA ks k (CA ats x)).length=(UA ks k as).length∧∀j (hj:j<(UA ks k (CA ats x)).length),VR w ρ2 bad2 (u j) (UA ks k (CA ats x))[j]:=by
 intro ks;induction ks with
 | nil=>
  intro ats as x k u hk hd hn hv;cases ats with
  | nil=>cases as with
   | nil=>exact⟨rfl,λj hj=>by simp[UA]at hj⟩
   | cons=>simp[DB]at hd
  | cons=>simp[QA]at hk
 | cons q ks ih=>
  intro ats as x k u hk hd hn hv;cases ats with
  | nil=>cases q<;>simp[QA]at hk
  | cons t ats=>
   obtain⟨v,vs,y,rfl,x0,h1,h3,h4⟩:=XU hd;rw[h4]at hn⊢;cases q with
   | plain=>
    simp only[QA]at hk;obtain⟨e1,e2⟩:=ih ats vs y (k+1) (λj=>u (j+1)) hk h3 (λq t m a b=>hn q t m a b) (λj hj=>hv (j+1) (by simp[UA];omega));refine⟨by simp[UA,e1],λj hj=>?_⟩;cases j with
    | zero=>exact JW _ _ (zbb t v x0 h1 (hv 0 (by simp[UA])))
    | succ j=>exact e2 j (by simpa[UA]using hj)
   | ptr ow=>
    cases t with
    | cells t=>
     simp only[QA,Bool.and_eq_true]at hk;have xV:=Nat.le_of_ble_eq_true hk.1.1;simp only[CC]at h1;split at h1
     case h_2=>cases h1
     rename_i cs;have JV:(enc t x0).length=sz t:=WA t x0;have OZ:cs.length=sz t:=by rw[(LC t h1).len,JV]
     obtain⟨e1,e2⟩:=ih ats vs y (k+1) (λj=>u (j+1)) hk.2 h3 (λq t' m' a b=>by
      have GW:=aD ks (k+1) _ q _ b;refine hn q t' m' ?_ ?_
      ·simp only[pA];rw[kA _ _ _ _ (by omega),PA,CB _ _ _ _ _ (by omega)];exact a
      ·simp only[pA,uB];rw[kA _ _ _ _ (by omega),PA,CB _ _ _ _ _ (by omega)];exact b) (λj hj=>hv (j+1) (by simp[UA];omega))
     refine⟨by simp[UA,e1],λj hj=>?_⟩;cases j with
     | zero=>exact JW _ _ (hv 0 (by simp[UA]))
     | succ j=>exact e2 j (by simpa[UA]using hj)
    | _=>simp[QA]at hk
   | mv ow=>
    cases t with
    | v t=>
     simp only[QA,Bool.and_eq_true]at hk;obtain⟨⟨⟨RV,xV⟩,_⟩,hk⟩:=hk;have xV:=Nat.le_of_ble_eq_true xV;simp only[CC]at h1;split at h1
     case h_2=>simp[RV]at h1
     rename_i cs;simp only[RV,cond_true]at h1;have GV:=LC t h1;have JV:(enc t x0).length=sz t:=WA t x0;have OZ:cs.length=sz t:=by rw[GV.len,JV]
     have ZX:uB (.v t) x0= .agg (enc t x0):=by simp only[uB,GF,RV,cond_true]
     rw[ZX]at hn⊢
     obtain⟨e1,e2⟩:=ih ats vs y (k+1) (λj=>u (j+1)) hk h3 (λq t' m' a b=>by
      have GW:=aD ks (k+1) _ q _ b;refine hn q t' m' ?_ ?_
      ·simp only[pA];rw[PA,CB _ _ _ _ _ (by omega)];exact a
      ·simp only[pA];rw[PA,CB _ _ _ _ _ (by omega)];exact b) (λj hj=>hv (j+1) (by simp[UA];omega))
     refine⟨by simp[UA,e1],λj hj=>?_⟩;cases j with
     | zero=>
      have gW:=hv 0 (by simp[UA]);simp only[UA,List.getElem_cons_zero]at gW⊢;generalize u 0=u0 at gW;cases gW with
      | agg _ vsA hs DW=>
      rw[SC]at hs;refine .agg _ vsA (by rw[SC,hs,JV,OZ]) ?_;refine tP ow (128 *k) JW cs (enc t x0) 0 (λj=>vsA.getD j undef) GV (λp t' m' _ h5 h6=>?_) DW;obtain⟨_,_,_,e3,e4⟩:=UB _ _ _ _ _ _ h6;refine hn _ t' m' ?_ ?_
      ·simp only[pA];rw[PA,h5];show pA ks (k+1) vs (128 *k+p)=none
       cases hr:pA ks (k+1) vs (128 *k+p)with
       | none=>rfl
       | some z=>have:=aD ks (k+1) vs _ z hr;omega
      ·simp only[pA];rw[PA,h6]
     | succ j=>exact e2 j (by simpa[UA]using hj)
    | _=>simp[QA]at hk
   | ms=>
    cases t with
    | sl t=>
     simp only[QA]at hk;have GV:ZA [v] [.sl t x0]:= .cons (GA h1) .nil
     obtain⟨e1,e2⟩:=ih ats vs y (k+1) (λj=>u (j+1)) hk h3 (λq t' m' a b=>by
      have GW:=aD ks (k+1) _ q _ b;refine hn q t' m' ?_ ?_
      ·simp only[pA];rw[PA,CB _ _ _ _ _ (by simp;omega)];exact a
      ·simp only[pA];rw[PA,CB _ _ _ _ _ (by simp;omega)];exact b) (λj hj=>hv (j+1) (by simp[UA];omega))
     refine⟨by simp[UA,e1],λj hj=>?_⟩;cases j with
     | zero=>
      have gW:=hv 0 (by simp[UA]);simp only[UA,List.getElem_cons_zero]at gW⊢
      have:=tP [0] (128 *k) JW [v] [.sl t x0] 0 (λ_=>u 0) GV (λp t' m' _ h5 h6=>by
       obtain⟨_,_,_,e3,e4⟩:=UB _ _ _ _ _ _ h6;simp only[List.length_singleton]at e4;refine hn _ t' m' ?_ ?_
       ·simp only[pA];rw[PA,h5];show pA ks (k+1) vs (128 *k+p)=none
        cases hr:pA ks (k+1) vs (128 *k+p)with
        | none=>rfl
        | some z=>have:=aD ks (k+1) vs _ z hr;omega
       ·simp only[pA,uB];rw[PA,h6]) (λj hj=>by
       have yZ:j=0:=by simpa[SC]using hj
       subst yZ;simpa only[WM,List.getElem_cons_zero]using gW) 0 (by rw[SC];simp)
      simpa only[WM,List.getElem_cons_zero,uB]using this
     | succ j=>exact e2 j (by simpa[UA]using hj)
    | _=>simp[QA]at hk
omit [aA]in
def zhG:∀(ks:List IA) (ats:List Ty) (as:List V) (x:MA ats) (k:Nat),QA ks ats=true→DB ats as=some x→
  (∀q row,pA ks k as q=some row→q<128 *(k+ks.length))∧
  ∀q row',pA ks k (CA ats x) q=some row'→q<128 *(k+ks.length)∧(pA ks k as q=some row'∨(pA ks k as q=none∧∃t m,row'=⟨.arr t [],m⟩)∨
   ∃ow B cs es,pA ks k as q=some ⟨.box (zA ow B 0 cs), .own⟩∧row'=⟨.box (zA ow B 0 es), .own⟩∧ZA cs es∧
    ∀p t m,HA ow B (λ_=>none) 0 cs (B+p)=none→HA ow B (λ_=>none) 0 es (B+p)=some ⟨.arr t [],m⟩→pA ks k as (B+p)=none∧pA ks k (CA ats x) (B+p)=some ⟨.arr t [],m⟩):=by
 intro ks;induction ks with
 | nil=>
  intro ats as x k hk hd;refine⟨λq row h=>by cases as<;>simp[pA]at h,λq row' h=>?_⟩;cases ats with
  | nil=>simp[pA]at h
  | cons=>simp[QA]at hk
 | cons g ks ih=>
  intro ats as x k hk hd;cases ats with
  | nil=>cases g<;>simp[QA]at hk
  | cons t ats=>
   obtain⟨v,vs,y,rfl,x0,h1,h3,h4⟩:=XU hd;rw[h4];cases g with
   | plain=>
    simp only[QA]at hk;obtain⟨i1,i2⟩:=ih ats vs y (k+1) hk h3;refine⟨λq row h=>?_,λq row' h=>?_⟩
    ·simp only[pA]at h;have:=i1 q row h;simp only[List.length_cons];omega
    ·simp only[pA]at h⊢;obtain⟨j1,j2⟩:=i2 q row' h;exact⟨by simp only[List.length_cons];omega,j2⟩
   | ptr ow=>
    cases t with
    | cells t=>
     simp only[QA,Bool.and_eq_true]at hk;obtain⟨⟨xV,_⟩,hk⟩:=hk;have xV:=Nat.le_of_ble_eq_true xV;simp only[CC]at h1;split at h1
     case h_2=>cases h1
     rename_i cs;obtain⟨i1,i2⟩:=ih ats vs y (k+1) hk h3;have GV:=LC t h1;have JV:(enc t x0).length=sz t:=WA t x0;have OZ:cs.length=sz t:=by rw[GV.len,JV]
     refine⟨λq row h=>?_,λq row' h=>?_⟩
     ·simp only[List.length_cons];simp only[pA]at h
      by_cases hq:q=128 *k+127
      ·omega
      ·rw[kA _ _ _ _ hq,PA]at h;split at h
       ·rename_i z hz;obtain⟨_,_,_,e1,e2⟩:=UB _ _ _ _ _ _ hz;omega
       ·have:=i1 q row h;omega
     ·simp only[List.length_cons];simp only[uB,pA]at h
      by_cases hq:q=128 *k+127
      ·subst hq;rw[tA]at h;cases h;refine⟨by omega, .inr (.inr ⟨ow,128 *k,cs,enc t x0,by simp only[pA];exact tA _ _ _,rfl,GV,λp t' m' e1 e2=>?_⟩)⟩;obtain⟨_,_,_,e3,e4⟩:=UB _ _ _ _ _ _ e2;have iW:128 *k+p≠128 *k+127:=by omega
       simp only[pA,uB];rw[kA _ _ _ _ iW,kA _ _ _ _ iW,PA,PA ow (128 *k) (pA ks (k+1) (CA ats y)),e1,e2];refine⟨?_,rfl⟩;cases hr:pA ks (k+1) vs (128 *k+p)with
       | none=>rfl
       | some z=>have:=aD ks (k+1) vs _ z hr;omega
      ·rw[kA _ _ _ _ hq,PA]at h;split at h
       ·rename_i z hz;cases h;obtain⟨_,_,_,e1,e2⟩:=UB _ _ _ _ _ _ hz;refine⟨by omega,?_⟩;have kX:=hz;rw[show q=128 *k+(q - 128 *k) by omega]at kX
        rcases CP ow (128 *k) cs (enc t x0) 0 _ _ GV kX with h5 | ⟨h5,h6⟩<;>rw[show 128 *k+(q - 128 *k)=q by omega]at h5
        ·left;simp only[pA];rw[kA _ _ _ _ hq,PA,h5]
        ·right;left;refine⟨?_,h6⟩;simp only[pA];rw[kA _ _ _ _ hq,PA,h5];show pA ks (k+1) vs q=none
         cases hr:pA ks (k+1) vs q with
         | none=>rfl
         | some z=>have:=aD ks (k+1) vs _ z hr;omega
       ·rename_i hz;obtain⟨j1,j2⟩:=i2 q row' h;have GW:=aD ks (k+1) _ q row' h
        have lift:∀q',128 *(k+1)≤q'→pA (.ptr ow :: ks) k (.agg cs :: vs) q'=pA ks (k+1) vs q'∧pA (.ptr ow :: ks) k (.agg (enc t x0) :: CA ats y) q'=pA ks (k+1) (CA ats y) q':=λq' MW=>by
         simp only[pA];rw[kA _ _ _ _ (by omega),kA _ _ _ _ (by omega),PA,PA ow (128 *k) (pA ks (k+1) (CA ats y)),CB _ _ _ _ _ (by omega),CB _ _ _ _ _ (by omega)];exact⟨rfl,rfl⟩
        obtain⟨l1,l2⟩:=lift q (by omega);refine⟨by omega,?_⟩;rw[l1]
        rcases j2 with j2 | j2 | ⟨ow',B,cs',es',j2,j3,j4,j5⟩
        ·exact .inl j2
        ·exact .inr (.inl j2)
        ·refine .inr (.inr ⟨ow',B,cs',es',j2,j3,j4,λp t' m' e1 e2=>?_⟩);obtain⟨j6,j7⟩:=j5 p t' m' e1 e2;have:=aD ks (k+1) _ _ _ j7;obtain⟨l3,l4⟩:=lift (B+p) (by omega);show pA (.ptr ow :: ks) k (.agg cs :: vs) (B+p)=none∧pA (.ptr ow :: ks) k (.agg (enc t x0) :: CA ats y) (B+p)=_
         rw[l3,l4];exact⟨j6,j7⟩
    | _=>simp[QA]at hk
   | mv ow=>
    cases t with
    | v t=>
     simp only[QA,Bool.and_eq_true]at hk;obtain⟨⟨⟨RV,xV⟩,_⟩,hk⟩:=hk;have xV:=Nat.le_of_ble_eq_true xV;simp only[CC]at h1;split at h1
     case h_2=>simp[RV]at h1
     rename_i cs;simp only[RV,cond_true]at h1;obtain⟨i1,i2⟩:=ih ats vs y (k+1) hk h3;have GV:=LC t h1;have JV:(enc t x0).length=sz t:=WA t x0;have OZ:cs.length=sz t:=by rw[GV.len,JV]
     have ZX:uB (.v t) x0= .agg (enc t x0):=by simp only[uB,GF,RV,cond_true]
     rw[ZX];refine⟨λq row h=>?_,λq row' h=>?_⟩
     ·simp only[List.length_cons];simp only[pA]at h;rw[PA]at h;split at h
      ·rename_i z hz;obtain⟨_,_,_,e1,e2⟩:=UB _ _ _ _ _ _ hz;omega
      ·have:=i1 q row h;omega
     ·simp only[List.length_cons];simp only[pA]at h;rw[PA]at h;split at h
      ·rename_i z hz;cases h;obtain⟨_,_,_,e1,e2⟩:=UB _ _ _ _ _ _ hz;refine⟨by omega,?_⟩;have kX:=hz;rw[show q=128 *k+(q - 128 *k) by omega]at kX
       rcases CP ow (128 *k) cs (enc t x0) 0 _ _ GV kX with h5 | ⟨h5,h6⟩<;>rw[show 128 *k+(q - 128 *k)=q by omega]at h5
       ·left;simp only[pA];rw[PA,h5]
       ·right;left;refine⟨?_,h6⟩;simp only[pA];rw[PA,h5];show pA ks (k+1) vs q=none
        cases hr:pA ks (k+1) vs q with
        | none=>rfl
        | some z=>have:=aD ks (k+1) vs _ z hr;omega
      ·rename_i hz;obtain⟨j1,j2⟩:=i2 q row' h;have GW:=aD ks (k+1) _ q row' h
       have lift:∀q',128 *(k+1)≤q'→pA (.mv ow :: ks) k (.agg cs :: vs) q'=pA ks (k+1) vs q'∧pA (.mv ow :: ks) k (.agg (enc t x0) :: CA ats y) q'=pA ks (k+1) (CA ats y) q':=λq' MW=>by
        simp only[pA];rw[PA,PA ow (128 *k) (pA ks (k+1) (CA ats y)),CB _ _ _ _ _ (by omega),CB _ _ _ _ _ (by omega)];exact⟨rfl,rfl⟩
       obtain⟨l1,l2⟩:=lift q (by omega);refine⟨by omega,?_⟩;rw[l1]
       rcases j2 with j2 | j2 | ⟨ow',B,cs',es',j2,j3,j4,j5⟩
       ·exact .inl j2
       ·exact .inr (.inl j2)
       ·refine .inr (.inr ⟨ow',B,cs',es',j2,j3,j4,λp t' m' e1 e2=>?_⟩);obtain⟨j6,j7⟩:=j5 p t' m' e1 e2;have:=aD ks (k+1) _ _ _ j7;obtain⟨l3,l4⟩:=lift (B+p) (by omega);rw[l3,l4];exact⟨j6,j7⟩
    | _=>simp[QA]at hk
   | ms=>
    cases t with
    | sl t=>
     simp only[QA]at hk;obtain⟨i1,i2⟩:=ih ats vs y (k+1) hk h3;have GV:ZA [v] [.sl t x0]:= .cons (GA h1) .nil;have ZX:uB (.sl t) x0= .sl t x0:=rfl;rw[ZX];refine⟨λq row h=>?_,λq row' h=>?_⟩
     ·simp only[List.length_cons];simp only[pA]at h;rw[PA]at h;split at h
      ·rename_i z hz;obtain⟨_,_,_,e1,e2⟩:=UB _ _ _ _ _ _ hz;simp only[List.length_singleton]at e2;omega
      ·have:=i1 q row h;omega
     ·simp only[List.length_cons];simp only[pA]at h;rw[PA]at h;split at h
      ·rename_i z hz;cases h;obtain⟨_,_,_,e1,e2⟩:=UB _ _ _ _ _ _ hz;simp only[List.length_singleton]at e2;refine⟨by omega,?_⟩;have kX:=hz;rw[show q=128 *k+(q - 128 *k) by omega]at kX
       rcases CP [0] (128 *k) [v] [.sl t x0] 0 _ _ GV kX with h5 | ⟨h5,h6⟩<;>rw[show 128 *k+(q - 128 *k)=q by omega]at h5
       ·left;simp only[pA];rw[PA,h5]
       ·right;left;refine⟨?_,h6⟩;simp only[pA];rw[PA,h5];show pA ks (k+1) vs q=none
        cases hr:pA ks (k+1) vs q with
        | none=>rfl
        | some z=>have:=aD ks (k+1) vs _ z hr;omega
      ·rename_i hz;obtain⟨j1,j2⟩:=i2 q row' h;have GW:=aD ks (k+1) _ q row' h
       have lift:∀q',128 *(k+1)≤q'→pA (.ms :: ks) k (v :: vs) q'=pA ks (k+1) vs q'∧pA (.ms :: ks) k (.sl t x0 :: CA ats y) q'=pA ks (k+1) (CA ats y) q':=λq' MW=>by
        simp only[pA];rw[PA,PA [0] (128 *k) (pA ks (k+1) (CA ats y)),CB _ _ _ _ _ (by simp;omega),CB _ _ _ _ _ (by simp;omega)];exact⟨rfl,rfl⟩
       obtain⟨l1,l2⟩:=lift q (by omega);refine⟨by omega,?_⟩;rw[l1]
       rcases j2 with j2 | j2 | ⟨ow',B,cs',es',j2,j3,j4,j5⟩
       ·exact .inl j2
       ·exact .inr (.inl j2)
       ·refine .inr (.inr ⟨ow',B,cs',es',j2,j3,j4,λp t' m' e1 e2=>?_⟩);obtain⟨j6,j7⟩:=j5 p t' m' e1 e2;have:=aD ks (k+1) _ _ _ j7;obtain⟨l3,l4⟩:=lift (B+p) (by omega);rw[l3,l4];exact⟨j6,j7⟩
    | _=>simp[QA]at hk
omit [aA]in
def EI:∀(ks:List IA) (ts:List Ty),QA ks ts=true→ks.all IA.noTre=true
 | [],ts,_=>rfl
 | .plain :: ks,[],h=>by simp[QA]at h
 | .plain :: ks,t :: ts,h=>by
  simp only[QA]at h;simpa[IA.noTre]using EI ks ts h
 | .ms :: ks,[],h=>by simp[QA]at h
 | .ms :: ks,t :: ts,h=>by
  cases t<;>simp only[QA]at h<;>try (cases h;done)
  simpa[IA.noTre]using EI ks ts h
 | .ptr ow :: ks,[],h=>by simp[QA]at h
 | .ptr ow :: ks,t :: ts,h=>by
  cases t<;>simp only[QA,Bool.and_eq_true]at h<;>try (cases h;done)
  have:=EI ks ts h.2;rw[List.all_cons,this,Bool.and_true];exact h.1.2
 | .mv ow :: ks,[],h=>by simp[QA]at h
 | .mv ow :: ks,t :: ts,h=>by
  cases t<;>simp only[QA,Bool.and_eq_true]at h<;>try (cases h;done)
  have:=EI ks ts h.2;rw[List.all_cons,this,Bool.and_true];exact h.1.2
def za6{ks:List IA}{ats:List Ty}{as:List V}{x:MA ats}(oW:QA ks ats=true)(hd:DB ats as=some x)(hh:EA w0 outer own ρ (pA ks 0 as) w)(KV:∀q,pA ks 0 as q=none→ρ q=none):
  ∃ρ2,EA w0 outer own ρ2 (pA ks 0 (CA ats x)) w∧(∀u d,VR w ρ (bA outer ρ (pA ks 0 as)) u d→VR w ρ2 (bA outer ρ2 (pA ks 0 (CA ats x))) u d)∧
   (∀q ri,ρ q=some ri→ρ2 q=some ri)∧(∀q,128 *ks.length≤q→ρ2 q=none)∧∀q row,pA ks 0 as q=none→pA ks 0 (CA ats x) q=some row→ρ2 q=some ⟨0,0,0,true⟩:=by
 have hEE:∀q row,pA ks 0 as q=none→pA ks 0 (CA ats x) q=some row→ρ q=none:=λq _ h _=>KV q h;obtain⟨r1,r2⟩:=zhG ks ats as x 0 oW hd;have I3:∀q t (l:List (El t)) m,pA ks 0 (CA ats x) q=some ⟨.arr t l,m⟩→m.isTre=false:=λq t l m hq=>by rw[show m= .own from EK _ _ _ _ _ (EI ks ats oW) hq];rfl
 generalize hE:pA ks 0 as=h at *;generalize hE2:pA ks 0 (CA ats x)=h2 at *
 let ρ2:Nat→Option RI:=λq=>match ρ q with
  | some ri=>some ri
  | none=>if(h2 q).isSome=true then some ⟨0,0,0,true⟩else none
 have e1:∀q ri,ρ q=some ri→ρ2 q=some ri:=λq ri hq=>by simp only[ρ2,hq]
 have e2:∀q row,ρ q=none→h2 q=some row→ρ2 q=some ⟨0,0,0,true⟩:=λq row hq hr=>by simp only[ρ2,hq,hr];rfl
 have e3:∀q,ρ q=none→h2 q=none→ρ2 q=none:=λq hq hr=>by simp only[ρ2,hq,hr];rfl
 have uV:∀b,bA outer ρ2 h2 b→bA outer ρ h b:=by
  rintro b (hb | ⟨q,row,ri,f1,f2,f3,f4,f5⟩)
  ·exact .inl hb
  ·rcases(r2 q row f1).2 with g | ⟨g,_⟩ | ⟨ow,B,cs,es,g,_⟩
   ·obtain⟨ri',k1,_⟩:=hh.rows q _ g;rw[e1 _ _ k1]at f3;cases f3;exact .inr ⟨q,row,_,g,f2,k1,f4,f5⟩
   ·rw[e2 q row (KV q g) f1]at f3;cases f3;cases f4
   ·obtain⟨ri',k1,_⟩:=hh.rows q _ g;rw[e1 _ _ k1]at f3;cases f3;exact .inr ⟨q,_,_,g,rfl,k1,f4,f5⟩
 have hk:∀u d,VR w ρ (bA outer ρ h) u d→VR w ρ2 (bA outer ρ2 h2) u d:=λu d hu=>hu.mono e1 (λ_ _ _=>rfl) λb hb=> .inl (uV b hb)
 have bW:∀q row' ri,h2 q=some row'→ρ2 q=some ri→ri.nl=false→∃row,h q=some row∧ρ q=some ri:=λq row' ri f1 f3 f4=>by
  rcases(r2 q row' f1).2 with g | ⟨g,_⟩ | ⟨ow,B,cs,es,g,_⟩
  ·obtain⟨ri',k1,_⟩:=hh.rows q _ g;rw[e1 _ _ k1]at f3;cases f3;exact⟨_,g,k1⟩
  ·rw[e2 q row' (KV q g) f1]at f3;cases f3;cases f4
  ·obtain⟨ri',k1,_⟩:=hh.rows q _ g;rw[e1 _ _ k1]at f3;cases f3;exact⟨_,g,k1⟩
 refine⟨ρ2,⟨hh.wx,hh.old,hh.outLt,λr row' hr=>?_,λq q' row row' qi qi' h1 h2 h3 h4 h5 h6 h7=>?_,pB.zero I3⟩,hk,e1,λq hq=>?_,λq row h1 h2=>e2 q row (KV q h1) h2⟩
 ·rcases(r2 r row' hr).2 with g | ⟨g,t,m,rfl⟩ | ⟨ow,B,cs,es,g,rfl,g2,g3⟩
  ·obtain⟨ri,k1,k2,k3⟩:=hh.rows r _ g;exact⟨ri,e1 _ _ k1,k2.keep (λ_=>rfl) hk,k3⟩
  ·exact⟨⟨0,0,0,true⟩,e2 r _ (KV r g) hr,⟨rfl, .inl ⟨rfl,rfl⟩⟩,λhn=>by cases hn⟩
  ·obtain⟨ri,k1,k2,k3⟩:=hh.rows r _ g;refine⟨ri,e1 _ _ k1,⟨k2.1,λj hj=>?_⟩,k3⟩;have hl:(zA ow B 0 es).length=(zA ow B 0 cs).length:=by rw[SC,SC,g2.len]
   obtain⟨f1,u,f2,f3⟩:=k2.2 j (by rw[←hl];exact hj);refine⟨f1,u,f2,?_⟩
   have:=tP (w:=w) (ρ:=ρ) ow B hk cs es 0 (λj=>(w.cell? (iA ri.b j)).getD undef) g2 (λq t m _ h5 h6=>by
    obtain⟨g4,g5⟩:=g3 q t m h5 h6;exact e2 _ _ (KV _ g4) g5) (λj hj=>by
    obtain⟨_,u,f2,f3⟩:=k2.2 j hj;rw[f2];exact f3) j hj
   rw[f2]at this;exact this
 ·obtain⟨_,g1,g2⟩:=bW _ _ _ h1 h3 h5;obtain⟨_,g3,g4⟩:=bW _ _ _ h2 h4 h6;exact hh.inj q q' _ _ qi qi' g1 g3 g2 g4 h5 h6 h7
 ·refine e3 q (KV q ?_) ?_
  ·cases PY:h q with
   | none=>rfl
   | some row=>have:=r1 q row PY;omega
  ·cases PY:h2 q with
   | none=>rfl
   | some row=>have:=(r2 q row PY).1;omega
end
end Go.D
namespace Go.D
variable [aA]
section
variable {C:Cx} {w0:World} {outer D:Nat→Prop} {own:Ow} {R:Type} {st st1 st2:St} {ρ ρ1 ρ2:Nat→Option RI} {a a1 a2:Act} {w w1 w2:World} {j:JI}
omit [aA]in
def gP{α:Type}(l m:List α)(i:Nat)(d:α)(h:i<l.length):(l++m).getD i d=l.getD i d:=by
 rw[List.getD_eq_getElem?_getD,List.getD_eq_getElem?_getD,List.getElem?_append_left h]
omit [aA]in
def kP{α:Type}(l m:List α)(i:Nat)(d:α)(h:l.length≤i):(l++m).getD i d=m.getD (i - l.length) d:=by
 rw[List.getD_eq_getElem?_getD,List.getD_eq_getElem?_getD,List.getElem?_append_right h]
inductive pG:List (Bool×Nat)→List Value→List Value→Prop
 | nil:pG [] [] []
 | agg {n:Nat} {sh:List (Bool×Nat)} {rv cells:List Value} (vs:Array Value) (h:vs.size=n) (hr:pG sh rv cells):pG ((true,n) :: sh) (.agg vs :: rv) (vs.toList++cells)
 | one {sh:List (Bool×Nat)} {rv cells:List Value} (v:Value) (hr:pG sh rv cells):pG ((false,1) :: sh) (v :: rv) (v :: cells)
omit [aA]in
def pG.len{sh:List (Bool×Nat)}{rv cells:List Value}(h:pG sh rv cells):iH sh=cells.length∧rv.length=sh.length:=by
 induction h with
 | nil=>exact⟨rfl,rfl⟩
 | agg vs h hr ih=>simp only[iH,List.map_cons,List.sum_cons,List.length_append,Array.length_toList,List.length_cons]at ih⊢;omega
 | one v hr ih=>simp only[iH,List.map_cons,List.sum_cons,List.length_cons]at ih⊢;omega
def zgz{bad:Nat→Prop}{sh:List (Bool×Nat)}{rv cells:List Value}(h:pG sh rv cells):∀X:List V,cells.length≤X.length→(∀j (hj:j<X.length),j<cells.length→VR w ρ bad (cells.getD j undef) X[j])→
  (lD sh X).length=rv.length∧∀i (hi:i<(lD sh X).length),VR w ρ bad (rv.getD i undef) (lD sh X)[i]:=by
 induction h with
 | nil=>intro X _ _;exact⟨rfl,λi hi=>by simp[lD]at hi⟩
 | agg vs xV hr ih=>
  rename_i n sh rv cells;intro X hX hv;simp only[List.length_append,Array.length_toList]at hX
  obtain⟨h1,h2⟩:=ih (X.drop n) (by simp;omega) (λj hj MV=>by
   have:=hv (n+j) (by simp at hj;omega) (by simp;omega);rw[List.getElem_drop];rw[kP _ _ _ _ (by simp;omega)]at this;simpa[xV]using this)
  refine⟨by simp[lD,h1],λi hi=>?_⟩;cases i with
  | zero=>
   show VR w ρ bad (.agg vs) (.agg (X.take n))
   refine .agg _ _ (by simp;omega) λj hj=>?_;have EY:j<n:=by simp at hj;omega
   have:=hv j (by simp at hj;omega) (by simp;omega);rw[gP _ _ _ _ (by simp;omega)]at this;rw[List.getElem_take];rw[Array.getD_eq_getD_getElem?];rw[List.getD_eq_getElem?_getD]at this;simpa using this
  | succ i=>exact h2 i (by simpa[lD]using hi)
 | one v hr ih=>
  rename_i sh rv cells;intro X hX hv;cases X with
  | nil=>simp at hX
  | cons x X=>
   simp only[List.length_cons]at hX;obtain⟨h1,h2⟩:=ih X (by omega) (λj hj MV=>hv (j+1) (by simp;omega) (by simp;omega));refine⟨by simp[lD,h1],λi hi=>?_⟩;cases i with
   | zero=>exact hv 0 (by simp) (by simp)
   | succ i=>exact h2 i (by simpa[lD]using hi)
omit [aA]in
def zgJ{sh:List (Bool×Nat)}{X:List V}{v:V}(h:lD sh X=[v]):JF sh X=v:=by simp[JF,h]
omit [aA]in
def zgj{sh:List (Bool×Nat)}{X:List V}(h:∀v,lD sh X≠[v]):JF sh X= .tup (lD sh X):=by
 unfold JF;split
 ·rename_i v hv;exact absurd hv (h v)
 ·rfl
def zhT{bad:Nat→Prop}{sh:List (Bool×Nat)}{rv cells:List Value}(h:pG sh rv cells){X:List V}(hX:cells.length≤X.length)(hv:∀j (hj:j<X.length),j<cells.length→VR w ρ bad (cells.getD j undef) X[j]):
  VR w ρ bad (if h:rv.toArray.size=1 then rv.toArray[0]else .tuple rv.toArray) (JF sh X):=by
 obtain⟨h1,h2⟩:=zgz h X hX hv
 by_cases hY:∃v,lD sh X=[v]
 ·obtain⟨v,hY⟩:=hY;rw[zgJ hY];rw[hY]at h1;have hl:rv.toArray.size=1:=by simpa using h1.symm
  rw[dif_pos hl];have h3:=h2 0 (by rw[hY];simp);simp only[hY,List.getElem_cons_zero]at h3;rw[List.getD_eq_getElem?_getD,List.getElem?_eq_getElem (by simp at hl;omega)]at h3;simpa using h3
 ·have hl:¬rv.toArray.size=1:=λhl=>by
   have QX:(lD sh X).length=1:=by rw[h1];simpa using hl
   exact hY (List.length_eq_one_iff.1 QX)
  rw[dif_neg hl,zgj λv hv=>hY ⟨v,hv⟩];refine .tup _ _ (by simp[h1]) λi hi=>?_;have:=h2 i hi;rw[Array.getD_eq_getD_getElem?];rw[List.getD_eq_getElem?_getD]at this;simpa using this
omit [aA]in
def zbn{α β:Type}{P:Program}{w:World}(f:α→Sem β):∀(l:List α) (r:List β),l.length=r.length→(∀i (hi:i<l.length) (hr:i<r.length),(f l[i]).run P w= .ok r[i] w)→(l.mapM f).run P w= .ok r w
 | [],[],_,_=>by simp
 | [],_ :: _,h,_=>by simp at h
 | _ :: _,[],h,_=>by simp at h
 | x :: l,y :: r,h,hf=>by
  have h0:=hf 0 (by simp) (by simp);simp only[List.getElem_cons_zero]at h0;have h1:=zbn f l r (by simpa using h) (λi hi hr=>hf (i+1) (by simp;omega) (by simp;omega));simp[List.mapM_cons,h0,h1,Result.andThen]
def GL(tmps:Array Value):ResultVar→Sem Value
 | .tmp t=>pure (tmps.getD t undef)
 | .cell x t=>do loadVar t (←asAddr (tmps.getD x undef))
def AQ(hr:AA C w0 outer own ρ st a w):∀(rs:List ResultVar) (sh:List (Bool×Nat)) (vs:List V),yE C.P st rs sh=some vs→
  ∃rv cells,pG sh rv cells∧rs.length=rv.length∧cells.length=vs.length∧(∀j (hj:j<vs.length),VR w ρ (bA outer ρ st.h) (cells.getD j undef) vs[j])∧
   ∀i (hi:i<rs.length) (h2:i<rv.length),(GL a.tmps rs[i]).run C.P w= .ok rv[i] w
 | [],[],vs,h=>by
  simp only[yE,Option.some.injEq]at h;subst h;exact⟨[],[], .nil,rfl,rfl,λj hj=>by simp at hj,λi hi=>by simp at hi⟩
 | [],_ :: _,vs,h=>by simp[yE]at h
 | .tmp t :: _,[],vs,h=>by simp[yE]at h
 | .cell .. :: _,[],vs,h=>by simp[yE]at h
 | .tmp t :: rs,(ag,n) :: sh,vs,h=>by
  simp only[yE]at h;have hv:=hr.slots t;split at h
  ·rename_i cs us hs J3;cases hb:(ag&&Nat.beq n cs.length)
   case false=>simp[hb]at h
   simp only[hb,cond_true,Option.some.injEq]at h;subst h;simp only[Bool.and_eq_true]at hb;obtain⟨rfl,hn⟩:=hb;have hn:=Nat.eq_of_beq_eq_true hn;obtain⟨rv,cells,h1,h2,h3,h4,h5⟩:=AQ hr rs sh us J3;rw[hs]at hv;generalize hA:a.tmps.getD t undef=A at hv;cases hv with
   | agg _ vs xV DW=>
   refine⟨.agg vs :: rv,vs.toList++cells, .agg vs (by omega) h1,by simp[h2],by simp[h3,xV],λj hj=>?_,λi hi hi2=>?_⟩
   ·by_cases vW:j<cs.length
    ·rw[List.getElem_append_left vW,gP _ _ _ _ (by simp;omega)];have:=DW j vW;rw[Array.getD_eq_getD_getElem?]at this;rw[List.getD_eq_getElem?_getD];simpa using this
    ·have MV:j - cs.length<us.length:=by simp at hj;omega
     rw[List.getElem_append_right (by omega),kP _ _ _ _ (by simp;omega)];have:=h4 _ MV;simpa[xV]using this
   ·cases i with
    | zero=>simp only[List.getElem_cons_zero,GL,hA];rfl
    | succ i=>exact h5 i (by simpa using hi) (by simpa using hi2)
  ·rename_i us J3 nW;cases hb:(!ag&&Nat.beq n 1&&(st.s t).leaf)
   case false=>simp[hb]at h
   simp only[hb,cond_true,Option.some.injEq]at h;subst h;simp only[Bool.and_eq_true,Bool.not_eq_true']at hb;obtain⟨⟨rfl,hn⟩,hlf⟩:=hb;have hn:=Nat.eq_of_beq_eq_true hn;subst hn;obtain⟨rv,cells,h1,h2,h3,h4,h5⟩:=AQ hr rs sh us J3;refine⟨a.tmps.getD t undef :: rv,a.tmps.getD t undef :: cells, .one _ h1,by simp[h2],by simp[h3],λj hj=>?_,λi hi hi2=>?_⟩
   ·cases j with
    | zero=>exact hv
    | succ j=>exact h4 j (by simpa using hj)
   ·cases i with
    | zero=>rfl
    | succ i=>exact h5 i (by simpa using hi) (by simpa using hi2)
  ·cases h
 | .cell x t :: rs,(ag,n) :: sh,vs,h=>by
  simp only[yE]at h;have hv:=hr.slots x;split at h
  case h_2=>cases h
  rename_i b us ag' n' hs J3 RV xV;split at h
  case h_2=>cases h
  rename_i cs m sV;cases hb:((ag==ag')&&Nat.beq n n'&&Nat.beq n cs.length&&(ag||Nat.beq n 1))
  case false=>simp[hb]at h
  simp only[hb,cond_true,Option.some.injEq]at h;subst h;simp only[Bool.and_eq_true,beq_iff_eq]at hb;obtain⟨⟨⟨rfl,h1⟩,h2⟩,h3⟩:=hb;have h1:=Nat.eq_of_beq_eq_true h1;have h2:=Nat.eq_of_beq_eq_true h2;subst h1;obtain⟨rv,cells,k1,k2,k3,k4,k5⟩:=AQ hr rs sh us J3;rw[hs]at hv;obtain⟨ri,hρ,FV,_⟩:=hr.heap.rows _ _ sV;obtain⟨e1,e2⟩:=yS hρ FV hv
  have vV:uE ag n cs 0 some=some (if ag then .agg cs else cs.getD 0 .undef):=by
   unfold uE;cases ag with
   | true=>
    have:Nat.ble (0+n) cs.length=true:=Nat.ble_eq_true_of_le (by omega);simp only[iB,this,if_true,List.drop_zero];rw[List.take_of_length_le (by omega)]
   | false=>
    simp only[Bool.false_or]at h3;have:=Nat.eq_of_beq_eq_true h3
    match cs,h2 with
    | [c],_=>rfl
    | [],h2=>simp at h2;omega
    | _ :: _ :: _,h2=>simp at h2;omega
  obtain⟨d,v,g1,g2,g3⟩:=YS (K:=some) RV xV e2 vV;have g1:d=if ag then V.agg cs else cs.getD 0 .undef:=Option.some.inj g1
  subst g1
  have qV:(GL a.tmps (.cell x t)).run C.P w= .ok v w:=by
   simp only[GL,e1,asAddr,Sem.run_bind,Sem.run_pure,Result.andThen_ok];exact g3
  cases ag with
  | true=>
   simp only[if_true]at g2;cases g2 with
   | agg _ vs K3 DW=>
   refine⟨.agg vs :: rv,vs.toList++cells, .agg vs (by omega) k1,by simp[k2],by simp[k3,K3],λj hj=>?_,λi hi hi2=>?_⟩
   ·by_cases vW:j<cs.length
    ·rw[List.getElem_append_left vW,gP _ _ _ _ (by simp;omega)];have:=DW j vW;rw[Array.getD_eq_getD_getElem?]at this;rw[List.getD_eq_getElem?_getD];simpa using this
    ·have MV:j - cs.length<us.length:=by simp at hj;omega
     rw[List.getElem_append_right (by omega),kP _ _ _ _ (by simp;omega)];have:=k4 _ MV;simpa[K3]using this
   ·cases i with
    | zero=>exact qV
    | succ i=>exact k5 i (by simpa using hi) (by simpa using hi2)
  | false=>
   simp only[Bool.false_or]at h3;have h3:=Nat.eq_of_beq_eq_true h3;subst h3
   match cs,h2 with
   | [c],_=>
    simp only[Bool.false_eq_true,if_false]at g2;refine⟨v :: rv,v :: cells, .one v k1,by simp[k2],by simp[k3],λj hj=>?_,λi hi hi2=>?_⟩
    ·cases j with
     | zero=>exact g2
     | succ j=>exact k4 j (by simpa using hj)
    ·cases i with
     | zero=>exact qV
     | succ i=>exact k5 i (by simpa using hi) (by simpa using hi2)
   | [],h2=>simp at h2
   | _ :: _ :: _,h2=>simp at h2
def NR(hr:AA C w0 outer own ρ st a w){fn:Func}{sh:List (Bool×Nat)}{vs:List V}(h:yE C.P st fn.results.toList sh=some vs):
  ∃rv cells,pG sh rv cells∧cells.length=vs.length∧(∀j (hj:j<vs.length),VR w ρ (bA outer ρ st.h) (cells.getD j undef) vs[j])∧
   (results fn a.tmps).run C.P w= .ok (if h:rv.toArray.size=1 then rv.toArray[0]else .tuple rv.toArray) w:=by
 obtain⟨rv,cells,h1,h2,h3,h4,h5⟩:=AQ hr _ _ _ h;refine⟨rv,cells,h1,h3,h4,?_⟩;have:=zbn (P:=C.P) (w:=w) (GL a.tmps) fn.results.toList rv h2 h5;show((do let vs ←fn.results.mapM (GL a.tmps);pure (if h:vs.size=1 then vs[0]else .tuple vs)):Sem Value).run C.P w=_
 rw[Array.mapM_eq_mapM_toList];simp only[Sem.run_bind,Sem.run_map,this,Result.andThen_ok,Sem.run_pure]
end
end Go.D
namespace Go.D
variable [aA]
inductive Bd:V→Prop where
 | undef:Bd .undef
 | bool (b:Bool):Bd (.bool b)
 | int (k:IntKind) (n:Int) (h:FB k n):Bd (.int k n)
 | str (s:List UInt8) (h:s.length≤maxLen):Bd (.str s)
 | nil:Bd .nil
 | sl (t:TN) (l:List (El t)) (h:l.length≤maxLen) (hv:∀i (h:i<l.length) j,j<sz t→Bd ((enc t l[i]).getD j .undef)):Bd (.sl t l)
 | ow (r:Nat):Bd (.ow r)
 | ov (r:Nat) (t:TN) (off len:Nat):Bd (.ov r t off len)
 | bp (r off:Nat):Bd (.bp r off)
 | ep (r:Nat) (t:TN) (i off:Nat):Bd (.ep r t i off)
 | fp (cs:List V) (off:Nat) (h:∀j (h:j<cs.length),Bd cs[j]):Bd (.fp cs off)
 | fn (f:Nat) (cs:List V) (h:∀j (h:j<cs.length),Bd cs[j]):Bd (.fn f cs)
 | agg (cs:List V) (h:∀j (h:j<cs.length),Bd cs[j]):Bd (.agg cs)
 | tup (cs:List V) (h:∀j (h:j<cs.length),Bd cs[j]):Bd (.tup cs)
 | nili:Bd .nili
 | ifc (b:Bool):Bd (.ifc b)
 | raw (u:Value) (d:V) (h:Bd d):Bd (.raw u d)
section
variable {w:World} {ρ:Nat→Option RI} {bad:Nat→Prop} {v:Value} {d:V}
def VR.bd(h:VR w ρ bad v d):Bd d:=by
 induction h with
 | undef=>exact .undef
 | bool=>exact .bool _
 | int _ _ h=>exact .int _ _ h
 | str _ h=>exact .str _ h
 | nil=>exact .nil
 | slE=>exact .sl _ _ (Nat.zero_le _) (λi h=>by simp at h)
 | slC t l b off cap u hb hl hc he hu hv ih=>exact .sl _ _ (Nat.le_trans hl hc) ih
 | ow=>exact .ow _
 | owN=>exact .ow _
 | ov=>exact .ov _ _ _ _
 | bp=>exact .bp _ _
 | ep=>exact .ep _ _ _ _
 | fp cs off b o u h0 hb hu hv ih=>exact .fp _ _ ih
 | fn f cs caps hs hv ih=>exact .fn _ _ ih
 | agg cs vs hs hv ih=>exact .agg _ ih
 | tup cs vs hs hv ih=>exact .tup _ ih
 | nili=>exact .nili
 | ifc=>exact .ifc _
 | ifn=>exact .ifc _
 | raw u d h ih=>exact .raw _ _ ih
def TF(t:TN)(x:El t):Prop:=∀j,j<sz t→Bd ((enc t x).getD j .undef)
def bdl(t:TN)(l:List (El t)):Prop:=l.length≤maxLen∧∀x∈l,TF t x
omit [aA]in
def Bd.list{t:TN}{l:List (El t)}(h:Bd (.sl t l)):bdl t l:=by
 cases h with
 | sl _ _ h hv=>
  refine⟨h,λx hx j hj=>?_⟩;obtain⟨i,hi,rfl⟩:=List.mem_iff_getElem.1 hx;exact hv i hi j hj
omit [aA]in
def Bd.len{s:List UInt8}(h:Bd (.str s)):s.length≤maxLen:=by cases h;assumption
omit [aA]in
def Bd.fits{k:IntKind}{n:Int}(h:Bd (.int k n)):FB k n:=by cases h;assumption
omit [aA]in
def zbz(t:TN)(h:t.isAgg=false)(x:El t):∃c,enc t x=[c]:=by cases t<;>first | exact⟨_,rfl⟩ | simp[TN.isAgg]at h
def TT:(t:Ty)→t.T→Prop
 | .v t,x=>TF t x
 | .sl t,l=>bdl t l
 | .raw,v=>Bd v
 | .cells t,x=>TF t x
 | .pt t,x=>TF t x
 | .c1 _ t,x=>TF t x
 | .p1 _ t,x=>TF t x
 | .c2 _ _ t,x=>TF t x.1∧TF t x.2
omit [aA]in
def HN{t:TN}{x:El t}(h:Bd (.fp (enc t x) 0)):TF t x:=λj hj=>by
 have MV:j<(enc t x).length:=by rw[WA];exact hj
 rw[List.getD_eq_getElem?_getD,List.getElem?_eq_getElem MV];cases h with
 | fp _ _ h=>exact h j MV
omit [aA]in
def zQ{g:Nat}{c:V}{r:List V}(h:Bd (.fn g (c :: r))):Bd c:=by
 cases h with
 | fn _ _ h=>exact h 0 (by simp)
omit [aA]in
def ziY{g:Nat}{c d:V}(h:Bd (.fn g [c,d])):Bd d:=by
 cases h with
 | fn _ _ h=>exact h 1 (by simp)
omit [aA]in
def zcd{c:V}(h:Bd (.fp [c] 0)):Bd c:=by
 cases h with
 | fp _ _ h=>exact h 0 (by simp)
def sA:(ts:List Ty)→MA ts→Prop
 | [],_=>True
 | [t],x=>TT t x
 | t :: d :: r,x=>TT t x.1∧sA (d :: r) x.2
omit [aA]in
def zbC{t:Ty}{x:t.T}(h:Bd (uB t x)):TT t x:=by
 cases t with
 | v t=>
  intro j hj;simp only[uB,GF]at h;have MV:j<(enc t x).length:=by rw[WA];exact hj
  cases RV:t.isAgg
  ·simp only[RV,cond_false]at h;have xV:sz t=1:=by cases t<;>first | rfl | simp[TN.isAgg]at RV
   obtain⟨c,hc⟩:=zbz t RV x;simp only[hc]at h⊢;have:j=0:=by omega
   subst this;exact h
  ·simp only[RV,cond_true]at h;rw[List.getD_eq_getElem?_getD,List.getElem?_eq_getElem MV];cases h with
   | agg _ h=>exact h j MV
 | sl t=>exact Bd.list h
 | raw=>exact h
 | cells t=>
  intro j hj;have MV:j<(enc t x).length:=by rw[WA];exact hj
  rw[List.getD_eq_getElem?_getD,List.getElem?_eq_getElem MV];cases h with
  | agg _ h=>exact h j MV
 | pt t=>exact HN h
 | c1 g t=>exact HN (zQ h)
 | p1 g t=>exact HN (zQ (zcd h))
 | c2 g h' t=>exact⟨HN (zQ (zcd (zQ h))),HN (ziY h)⟩
omit [aA]in
def pS:∀(ts:List Ty) (x:MA ts),(∀v∈CA ts x,Bd v)→sA ts x
 | [],x,h=>trivial
 | [t],x,h=>zbC (h _ (by simp[CA]))
 | t :: d :: r,x,h=>⟨zbC (h _ (by simp[CA])),pS (d :: r) x.2 λv hv=>h v (by simp[CA,hv])⟩
omit [aA]in
def zfK{t:Ty}{ats:List Ty}(x:MA (t :: ats)):∃(x0:t.T) (y:MA ats),CA (t :: ats) x=uB t x0 :: CA ats y:=by
 cases ats with
 | nil=>exact⟨x,(),rfl⟩
 | cons d r=>exact⟨x.1,x.2,rfl⟩
def kT{outer:Nat→Prop}{own:Ow}{w0:World}{h:Nat→Option gA}(hh:EA w0 outer own ρ h w){r:Nat}{t:TN}{l:List (El t)}{m:cB}(hr:h r=some ⟨.arr t l,m⟩):Bd (.sl t l):=by
 obtain⟨ri,_,⟨hn,ho⟩,_⟩:=hh.rows r _ hr
 rcases ho with⟨_,rfl⟩ | ⟨_,_,h1,h2,_,h3⟩
 ·exact .sl _ _ (Nat.zero_le _) λi h=>by simp at h
 ·refine .sl _ _ (by omega) λi hi j hj=>?_;obtain⟨u,_,h4⟩:=h3 i hi j hj;exact h4.bd
omit [aA]in
def VS(ow:List Nat)(B:Nat):∀(es:List V) (p:Nat),(∀j (hj:j<(zA ow B p es).length),Bd (zA ow B p es)[j])→(∀q t l m,HA ow B (λ_=>none) p es q=some ⟨.arr t l,m⟩→Bd (.sl t l))→∀j (hj:j<es.length),Bd es[j]
 | [],p,hv,hr,j,hj=>by simp at hj
 | e :: es,p,hv,hr,j,hj=>by
  have hd:∃e',zA ow B p (e :: es)=e' :: zA ow B (p+1) es:=by cases e<;>exact⟨_,rfl⟩
  obtain⟨e',RW⟩:=hd
  have IZ:∀j (hj:j<(e' :: zA ow B (p+1) es).length),Bd (e' :: zA ow B (p+1) es)[j]:=λj hj=>by
   have:=hv j (by rw[RW];exact hj);simpa only[RW]using this
  cases j with
  | succ j=>
   refine VS ow B es (p+1) (λj hj=>by have:=IZ (j+1) (by simp;omega);simpa using this) (λq t l m hq=>?_) j (by simpa using hj);obtain⟨_,_,_,h1,_⟩:=UB _ _ _ _ _ _ hq;refine hr q t l m ?_;have:=HO ow B e es p (q - B) (by omega);rw[show B+(q - B)=q by omega]at this;rw[this];exact hq
  | zero=>
   have h0:=IZ 0 (by simp);simp only[List.getElem_cons_zero]at h0⊢;have h1:=congrArg List.head? RW;cases e<;>simp only[zA,List.head?_cons,Option.some.injEq]at h1<;>try (subst h1;exact h0)
   rename_i t l;cases hb:ow.any (Nat.beq p)
   ·simp only[hb,cond_false]at h1;subst h1;exact h0
   ·exact hr (B+p) t l (PC ow p) (by simp only[HA,hb,cond_true,tA])
def zcn{outer:Nat→Prop}{own:Ow}{w0:World}{h:Nat→Option gA}(hh:EA w0 outer own ρ h w):∀(ks:List IA) (ats:List Ty) (x:MA ats) (k:Nat) (u:Nat→Value),QA ks ats=true→
  (∀q row,pA ks k (CA ats x) q=some row→h q=some row)→
  (∀j (hj:j<(UA ks k (CA ats x)).length),VR w ρ (bA outer ρ h) (u j) (UA ks k (CA ats x))[j])→∀v∈CA ats x,Bd v:=by
 intro ks;induction ks with
 | nil=>
  intro ats x k u hk hE hS v hv;cases ats with
  | nil=>simp[CA]at hv
  | cons=>simp[QA]at hk
 | cons g ks ih=>
  intro ats x k u hk hE hS v hv;cases ats with
  | nil=>cases g<;>simp[QA]at hk
  | cons t ats=>
   obtain⟨x0,y,he⟩:=zfK x;rw[he]at hE hS hv;cases g with
   | plain=>
    simp only[QA]at hk
    rcases List.mem_cons.1 hv with rfl | hv
    ·exact(hS 0 (by simp[UA])).bd
    ·exact ih ats y (k+1) (λj=>u (j+1)) hk (λq row hq=>hE q row (by simpa only[pA]using hq)) (λj hj=>hS (j+1) (by simp[UA];omega)) v hv
   | mv ow=>
    cases t with
    | v t=>
     simp only[QA,Bool.and_eq_true]at hk;obtain⟨⟨⟨RV,xV⟩,_⟩,hk⟩:=hk;have xV:=Nat.le_of_ble_eq_true xV;have ZX:uB (.v t) x0= .agg (enc t x0):=by simp only[uB,GF,RV,cond_true]
     rw[ZX]at hE hS hv;have JV:(enc t x0).length=sz t:=WA t x0
     rcases List.mem_cons.1 hv with rfl | hv
     ·have h0:=hS 0 (by simp[UA]);simp only[UA,List.getElem_cons_zero]at h0;generalize u 0=u0 at h0;cases h0 with
      | agg _ vsA hs DW=>
      refine .agg _ (VS ow (128 *k) _ 0 (λj hj=>(DW j hj).bd) λq t' l m hq=>?_);obtain⟨_,_,_,e1,e2⟩:=UB _ _ _ _ _ _ hq;refine kT hh (hE q ⟨.arr t' l,m⟩ ?_);simp only[pA];rw[PA,hq]
     ·refine ih ats y (k+1) (λj=>u (j+1)) hk (λq row hq=>hE q row ?_) (λj hj=>hS (j+1) (by simp[UA];omega)) v hv;have GW:=aD ks (k+1) _ q row hq;simp only[pA];rw[PA,CB _ _ _ _ _ (by omega)];exact hq
    | _=>simp[QA]at hk
   | ms=>
    cases t with
    | sl t=>
     simp only[QA]at hk;have ZX:uB (.sl t) x0= .sl t x0:=rfl;rw[ZX]at hE hS hv
     rcases List.mem_cons.1 hv with rfl | hv
     ·refine kT hh (hE (128 *k) ⟨.arr t x0,PC [0] 0⟩ ?_);simp only[pA,HA,List.any_cons,List.any_nil,Nat.beq,Bool.true_or,cond_true,Nat.add_zero];exact tA _ _ _
     ·refine ih ats y (k+1) (λj=>u (j+1)) hk (λq row hq=>hE q row ?_) (λj hj=>hS (j+1) (by simp[UA];omega)) v hv;have GW:=aD ks (k+1) _ q row hq;simp only[pA];rw[PA,CB _ _ _ _ _ (by simp;omega)];exact hq
    | _=>simp[QA]at hk
   | ptr ow=>
    cases t with
    | cells t=>
     simp only[QA,Bool.and_eq_true]at hk;obtain⟨⟨xV,_⟩,hk⟩:=hk;have xV:=Nat.le_of_ble_eq_true xV;simp only[uB]at hE hS hv;have JV:(enc t x0).length=sz t:=WA t x0;have sV:=hE (128 *k+127) _ (by simp only[pA];exact tA _ _ _)
     rcases List.mem_cons.1 hv with rfl | hv
     ·obtain⟨ri,_,FV,_⟩:=hh.rows _ _ sV;refine .agg _ (VS ow (128 *k) _ 0 (λj hj=>?_) λq t' l m hq=>?_)
      ·obtain⟨_,x,_,h2⟩:=FV.2 j hj;exact h2.bd
      ·obtain⟨_,_,_,e1,e2⟩:=UB _ _ _ _ _ _ hq;refine kT hh (hE q ⟨.arr t' l,m⟩ ?_);simp only[pA];rw[kA _ _ _ _ (by omega),PA,hq]
     ·refine ih ats y (k+1) (λj=>u (j+1)) hk (λq row hq=>hE q row ?_) (λj hj=>hS (j+1) (by simp[UA];omega)) v hv;have GW:=aD ks (k+1) _ q row hq;simp only[pA];rw[kA _ _ _ _ (by omega),PA,CB _ _ _ _ _ (by omega)];exact hq
    | _=>simp[QA]at hk
end
end Go.D
namespace Go.D
variable [aA]
section
variable {C:Cx} {w0:World} {outer D:Nat→Prop} {own:Ow} {R:Type} {st st1 st2:St} {ρ ρ1 ρ2:Nat→Option RI} {a a1 a2:Act} {w w1 w2:World} {j:JI}
omit [aA]in
def zfH{t:Ty}{ats:List Ty}{as:List V}{x:MA (t :: ats)}(hd:DB (t :: ats) as=some x):
  ∃v vs y,as=v :: vs∧∃(x0:t.T),CC t v=some x0∧DB ats vs=some y∧CA (t :: ats) x=uB t x0 :: CA ats y:=by
 cases ats with
 | nil=>
  cases as with
  | nil=>simp[DB]at hd
  | cons v vs=>
   cases vs with
   | nil=>exact⟨v,[],(),rfl,x,by simpa[DB]using hd,rfl,rfl⟩
   | cons=>simp[DB]at hd
 | cons d r=>
  cases as with
  | nil=>simp[DB]at hd
  | cons v vs=>
   simp only[DB]at hd;obtain⟨x0,h1,h2⟩:=Option.bind_eq_some_iff.1 hd;obtain⟨y,h3,h4⟩:=Option.bind_eq_some_iff.1 h2;cases h4;exact⟨v,vs,y,rfl,x0,h1,h3,rfl⟩
omit [aA]in
def zee:∀(ks:List IA) (ats:List Ty) (as:List V) (x:MA ats) (k:Nat),QA ks ats=true→DB ats as=some x→
  (∀bs vs h,RA ks (CA ats x) bs vs h=RA ks as bs vs h)∧∀bs q b,NA ks k bs q=some b→∃row,pA ks k as q=some row:=by
 intro ks;induction ks with
 | nil=>
  intro ats as x k hk hd;cases ats with
  | nil=>cases as with
   | nil=>exact⟨λ_ _ _=>rfl,λbs q b h=>by simp[NA]at h⟩
   | cons=>simp[DB]at hd
  | cons=>simp[QA]at hk
 | cons g ks ih=>
  intro ats as x k hk hd;cases ats with
  | nil=>cases g<;>simp[QA]at hk
  | cons t ats=>
   obtain⟨v,vs,y,rfl,x0,h1,h3,h4⟩:=zfH hd;rw[h4];cases g with
   | plain=>
    simp only[QA]at hk;obtain⟨e1,e2⟩:=ih ats vs y (k+1) hk h3;exact⟨λbs ws h=>e1 bs ws h,λbs q b h=>by simp only[NA]at h;exact e2 bs q b h⟩
   | mv ow=>
    cases t with
    | v t=>
     simp only[QA,Bool.and_eq_true]at hk;obtain⟨⟨⟨RV,xV⟩,_⟩,hk⟩:=hk;have xV:=Nat.le_of_ble_eq_true xV;obtain⟨e1,e2⟩:=ih ats vs y (k+1) hk h3;simp only[CC]at h1;split at h1
     case h_2=>simp[RV]at h1
     rename_i cs;simp only[RV,cond_true]at h1;have JV:(enc t x0).length=sz t:=WA t x0;have OZ:cs.length=sz t:=by rw[(LC t h1).len,JV]
     refine⟨λbs ws h=>e1 bs ws h,λbs q b h=>?_⟩;simp only[NA]at h;have GW:=(iD _ _ _ _ _ h).1;simp only[pA];rw[PA,CB _ _ _ _ _ (by omega)];exact e2 bs q b h
    | _=>simp[QA]at hk
   | ms=>
    cases t with
    | sl t=>
     simp only[QA]at hk;obtain⟨e1,e2⟩:=ih ats vs y (k+1) hk h3;refine⟨λbs ws h=>e1 bs ws h,λbs q b h=>?_⟩;simp only[NA]at h;have GW:=(iD _ _ _ _ _ h).1;simp only[pA];rw[PA,CB _ _ _ _ _ (by simp;omega)];exact e2 bs q b h
    | _=>simp[QA]at hk
   | ptr ow=>
    cases t with
    | cells t=>
     simp only[QA,Bool.and_eq_true]at hk;obtain⟨⟨xV,_⟩,hk⟩:=hk;have xV:=Nat.le_of_ble_eq_true xV;obtain⟨e1,e2⟩:=ih ats vs y (k+1) hk h3;simp only[CC]at h1;split at h1
     ·rename_i cs;have hl:=(LC t h1).len;refine⟨λbs ws h=>?_,λbs q b h=>?_⟩
      ·cases bs with
       | nil=>rfl
       | cons b bs=>simp only[uB,RA, ←hl,e1]
      ·cases bs with
       | nil=>simp[NA]at h
       | cons c bs=>
        simp only[NA]at h;simp only[pA]
        by_cases hq:q=128 *k+127
        ·subst hq;exact⟨_,tA _ _ _⟩
        ·rw[if_neg hq]at h;have GW:=(iD _ _ _ _ _ h).1;have JV:(enc t x0).length=sz t:=WA t x0;rw[kA _ _ _ _ hq,PA,CB _ _ _ _ _ (by omega)];exact e2 bs q b h
     ·cases h1
    | _=>simp[QA]at hk
def zgv(hh:EA w0 outer own ρ st.h w):∀(ks:List IA) (as:List V) (k:Nat) (us:List V),CD st ks as k=some us→
  ∃uc:Nat→Value,(∀j (hj:j<us.length),VR w ρ (bA outer ρ st.h) (uc j) us[j])∧
   ∀(bs:List Nat) (vs:List V) (h0:Nat→Option gA) (r:Nat) (row:gA),RA ks as bs vs h0 r=some row→h0 r=some row∨
    ∃q off n cs ri,NA ks k bs q=some r∧row=⟨.box ((vs.drop off).take n), .own⟩∧off+n≤us.length∧st.h q=some ⟨.box cs, .own⟩∧ρ q=some ri∧ri.nl=false∧
     ∀i,i<n→w.frozen? (iA ri.b i)=false∧w.cell? (iA ri.b i)=some (uc (off+i)):=by
 intro ks;induction ks with
 | nil=>
  intro as k us h;cases as with
  | nil=>
   simp only[CD,Option.some.injEq]at h;subst h;exact⟨λ_=>undef,λj hj=>by simp at hj,λbs vs h0 r row hr=> .inl (by simpa[RA]using hr)⟩
  | cons=>simp[CD]at h
 | cons g ks ih=>
  intro as k us h;cases g with
  | plain=>
   cases as with
   | nil=>simp[CD]at h
   | cons v as=>
    simp only[CD]at h;obtain⟨uc,h1,h2⟩:=ih as (k+1) us h;exact⟨uc,h1,λbs vs h0 r row hr=>by simp only[RA]at hr;simp only[NA];exact h2 bs vs h0 r row hr⟩
  | mv ow=>
   cases as with
   | nil=>simp[CD]at h
   | cons v as=>
    simp only[CD]at h;obtain⟨uc,h1,h2⟩:=ih as (k+1) us h;exact⟨uc,h1,λbs vs h0 r row hr=>by simp only[RA]at hr;simp only[NA];exact h2 bs vs h0 r row hr⟩
  | ms=>
   cases as with
   | nil=>simp[CD]at h
   | cons v as=>
    simp only[CD]at h;obtain⟨uc,h1,h2⟩:=ih as (k+1) us h;exact⟨uc,h1,λbs vs h0 r row hr=>by simp only[RA]at hr;simp only[NA];exact h2 bs vs h0 r row hr⟩
  | ptr ow=>
   cases as with
   | nil=>simp[CD]at h
   | cons v as=>
    cases v with
    | agg cs0=>
     simp only[CD]at h;split at h
     case h_2=>cases h
     rename_i cs us' sV L3;cases hb:Nat.beq cs.length cs0.length
     case false=>simp[hb]at h
     simp only[hb,cond_true,Option.some.injEq]at h;subst h;have hl:=Nat.eq_of_beq_eq_true hb;obtain⟨uc,h1,h2⟩:=ih as (k+1) us' L3;obtain⟨ri,hρ,FV,_⟩:=hh.rows _ _ sV;refine⟨λj=>if j<cs.length then(w.cell? (iA ri.b j)).getD undef else uc (j - cs.length),λj hj=>?_,λbs vs h0 r row hr=>?_⟩
     ·dsimp only
      by_cases vW:j<cs.length
      ·rw[if_pos vW,List.getElem_append_left vW];obtain⟨_,u,f1,f2⟩:=FV.2 j vW;rw[f1];exact f2
      ·rw[if_neg vW,List.getElem_append_right (by omega)];exact h1 _ _
     ·cases bs with
      | nil=>exact .inl (by simpa[RA]using hr)
      | cons b bs=>
       simp only[RA]at hr
       by_cases J8:r=b
       ·subst J8;rw[tA]at hr;cases hr;refine .inr ⟨128 *k+127,0,cs0.length,cs,ri,by simp[NA],by simp,by simp;omega,sV,hρ,FV.1,λi hi=>?_⟩;obtain⟨f0,u,f1,f2⟩:=FV.2 i (by omega);refine⟨f0,?_⟩;dsimp only;rw[if_pos (by omega)];simp[f1]
       ·rw[kA _ _ _ _ J8]at hr
        rcases h2 bs _ h0 r row hr with h3 | ⟨q,off,n,cs',ri',e1,e2,e3,e4,e5,e6,e7⟩
        ·exact .inl h3
        ·refine .inr ⟨q,cs0.length+off,n,cs',ri',?_,by rw[e2,List.drop_drop],by simp;omega,e4,e5,e6,λi hi=>?_⟩
         ·have:=(iD _ _ _ _ _ e1).1;simp only[NA];rw[if_neg (by omega)];exact e1
         ·obtain⟨g1,g2⟩:=e7 i hi;refine⟨g1,?_⟩;dsimp only;rw[g2,if_neg (by omega)];congr 2;omega
    | _=>simp[CD]at h
omit [aA]in
def zeE{h:Nat→Option gA}{v:V}{x:V×List Nat}(hf:kC h v=some x):∀r∈x.2,∃t l m,h r=some ⟨.arr t l,m⟩:=by
 unfold kC at hf;split at hf
 ·rename_i r;split at hf
  ·rename_i t l m hr;cases hm:m.isLock<;>simp[hm]at hf
   subst hf;intro q hq;simp at hq;subst hq;exact⟨_,_,_,hr⟩
  ·cases hf
 ·rename_i r t off len;split at hf
  ·rename_i t' l m hr;cases hm:m.isLock
   ·simp only[hm,cond_false]at hf;split at hf
    ·simp at hf;subst hf;intro q hq;simp at hq;subst hq;exact⟨_,_,_,hr⟩
    ·cases hf
   ·simp[hm]at hf
  ·cases hf
 ·cases hb:RD 8 v<;>simp[hb]at hf
  subst hf;simp
omit [aA]in
def jM(ow:List Nat):∀(cs:List V) (p:Nat) (h:Nat→Option gA) (x:List V×(Nat→Option gA)) (q:Nat) (c:List V),qC ow p cs h=some x→h q=some ⟨.box c, .own⟩→x.2 q=some ⟨.box c, .own⟩
 | [],p,h,x,q,c,ht,hq=>by simp[qC]at ht;subst ht;exact hq
 | v :: cs,p,h,x,q,c,ht,hq=>by
  simp only[qC]at ht;cases hb:ow.any (Nat.beq p)
  ·simp only[hb,cond_false]at ht;split at ht
   case h_2=>cases ht
   rename_i c' ids lX;split at ht
   case h_2=>cases ht
   rename_i hr;cases ht;have hx:=jM ow cs _ _ _ q c hr;refine hx ?_;rw[pD,if_neg]
   ·exact hq
   ·intro hm;obtain⟨t,l,m,h3⟩:=zeE lX q hm;rw[hq]at h3;cases h3
  ·simp only[hb,cond_true]at ht;split at ht
   ·split at ht
    case h_2=>cases ht
    rename_i t0 l0 m0 sV;cases EV:AB (ZD ow p) t0 m0
    case false=>simp[EV]at ht
    simp only[EV,cond_true]at ht;split at ht
    case h_2=>cases ht
    rename_i hr;cases ht;have hx:=jM ow cs _ _ _ q c hr;refine hx ?_;rw[kA _ _ _ _ (by rintro rfl;rw[sV]at hq;cases hq)];exact hq
   ·split at ht
    case h_2=>cases ht
    rename_i hr;cases ht;have hx:=jM ow cs _ _ _ q c hr;exact hx hq
   ·split at ht
    case h_2=>cases ht
    rename_i t0 l0 m0 sV;cases EV:AB (ZD ow p) t0 m0
    case false=>simp[EV]at ht
    simp only[EV,cond_true]at ht;split at ht
    case h_2=>cases ht
    rename_i hr;cases ht;have hx:=jM ow cs _ _ _ q c hr;refine hx ?_;rw[kA _ _ _ _ (by rintro rfl;rw[sV]at hq;cases hq)];exact hq
   ·cases ht
open Classical in
theorem ziI{fn:Func}{ks:List IA}{as:List V}{bs ow:List Nat}{base:Nat}{shape:List (Bool×Nat)}{rts:List Ty}{vs us rs:List V}{h2:Nat→Option gA}{r:MA rts}
  (hr:AA C w0 outer own ρ st a w) (hf:∀q,st.nx≤q→ρ q=none) (qW:yE C.P st fn.results.toList shape=some vs) (L3:CD st ks as 0=some us)
  (LV:qC ow 0 (vs++us) st.h=some (rs,h2)) (hun:fI rts rs=some r) (tV:(tC rts r).length≤128) (N1:bs.Nodup) (P4:∀b∈bs,Out base 128 b):
  ∃v,(results fn a.tmps).run C.P w= .ok v w∧∃ρf,EA w0 outer own ρf (oD ks as bs ow base shape (tC rts r)) w∧
   VR w ρf (bA outer ρf (oD ks as bs ow base shape (tC rts r))) v (JF shape (zA ow base 0 (tC rts r)))∧
   (∀q b,NA ks 0 bs q=some b→ρf b=ρ q)∧(∀r,ρf r≠none→(base≤r∧r<base+128)∨r∈bs):=by
 obtain⟨rv,cells,k1,k2,k3,k4⟩:=NR hr qW;obtain⟨uc,u1,u2⟩:=zgv hr.heap ks as 0 us L3;have GV:=kV rts rs r hun;have M3:=zJ ow _ _ _ _ LV;simp only at M3;generalize hR0:tC rts r=R0 at *;have hRl:R0.length=vs.length+us.length:=by rw[←GV.len,M3,List.length_append]
 have B6:iH shape=vs.length:=by rw[k1.len.1,k2]
 let M:=st.nx;let u:Nat→Value:=λj=>if j<vs.length then cells.getD j undef else uc (j - vs.length)
 have R6:∀q,st.nx≤q→st.h q=none:=λq hq=>by
  cases hg:st.h q with
  | none=>rfl
  | some row=>obtain⟨ri,h3,_⟩:=hr.heap.rows _ _ hg;rw[hf q hq]at h3;cases h3
 obtain⟨ρ2,g2,T,hTl⟩:=SK ow M 128 (vs++us) 0 st.h h2 rs R0 ρ st.h u LV GV (by rw[List.length_append];omega) hr.heap (λj hj=>by
   simp only[u]
   by_cases vW:j<vs.length
   ·rw[if_pos vW,List.getElem_append_left vW];exact k3 j vW
   ·rw[if_neg vW,List.getElem_append_right (by omega)];exact u1 _ (by simp at hj;omega)) (λ_ _ h=>h) (λq _=>R6 _ (by simp only[M];omega)) (λq _ _=>hf _ (by simp only[M];omega))
 let ρf:Nat→Option RI:=λr=>if base≤r∧r<base+128 then ρ2 (M+(r - base))else if h:∃q,NA ks 0 bs q=some r then ρ (Classical.choose h)else none
 let φ:Nat→Nat:=λr=>if base≤r∧r<base+128 then M+(r - base)else if h:∃q,NA ks 0 bs q=some r then Classical.choose h else 0
 have rX:∀q,q<128→ρf (base+q)=ρ2 (M+q)∧φ (base+q)=M+q:=λq hq=>by
  have h1:base≤base+q∧base+q<base+128:=by omega
  simp only[ρf,φ,if_pos h1];have:base+q - base=q:=by omega
  simp[this]
 have BY:∀q b,NA ks 0 bs q=some b→ρf b=ρ q∧φ b=q:=λq b hq=>by
  have h1:¬(base≤b∧b<base+128):=P4 b (iD _ _ _ _ _ hq).2.2;have h2:∃q,NA ks 0 bs q=some b:=⟨q,hq⟩;have h3:Classical.choose h2=q:=VK ks 0 bs _ _ b N1 (Classical.choose_spec h2) hq;simp only[ρf,φ,if_neg h1,dif_pos h2,h3];exact⟨trivial,trivial⟩
 -- the rows
 have sV:∀q row,oD ks as bs ow base shape R0 q=some row→
   (∃p t l m,p<128∧q=base+p∧row=⟨.arr t l,m⟩∧g2 (M+p)=some row)∨
   ∃p off n cs ri,NA ks 0 bs p=some q∧row=⟨.box ((((zA ow base 0 R0).drop (iH shape)).drop off).take n), .own⟩∧off+n≤us.length∧g2 p=some ⟨.box cs, .own⟩∧ρ p=some ri∧ri.nl=false∧p<M∧
    ∀i,i<n→w.frozen? (iA ri.b i)=false∧w.cell? (iA ri.b i)=some (uc (off+i)):=λq row hq=>by
  rcases u2 bs _ _ q row hq with h1 | ⟨p,off,n,cs,ri,e1,e2,e3,e4,e5,e6,e7⟩
  ·obtain⟨t,l,h3,h4,h5⟩:=UB _ _ _ _ _ _ h1;refine .inl ⟨q - base,t,l,_,by omega,by omega,h3,?_⟩;rw[T.new (q - base) (by omega) (by omega), ←sK ow base M R0 0 (q - base),show base+(q - base)=q by omega];exact h1
  ·refine .inr ⟨p,off,n,cs,ri,e1,e2,e3,T.lies _ _ (jM ow _ _ _ _ p cs LV e4),e5,e6,?_,e7⟩
   rcases Nat.lt_or_ge p st.nx with h | h
   ·exact h
   ·rw[hf p h]at e5;cases e5
 have uV:∀b,bA outer ρf (oD ks as bs ow base shape R0) b→bA outer ρ2 g2 b:=by
  rintro b (hb | ⟨q,row,ri,f1,f2,f3,f4,f5⟩)
  ·exact .inl hb
  ·rcases sV q row f1 with⟨p,t,l,m3,h1,rfl,h3,h4⟩ | ⟨p,off,n,cs,ri',e1,e2,e3,e4,e5,e6,e7,e8⟩
   ·rw[(rX p h1).1]at f3;exact .inr ⟨_,row,ri,h4,f2,f3,f4,f5⟩
   ·rw[(BY p q e1).1]at f3;exact .inr ⟨p,_,ri,e4,rfl,T.ext _ _ f3,f4,f5⟩
 have hX:∀j (hj:j<(zA ow base 0 R0).length),VR w ρf (bA outer ρf (oD ks as bs ow base shape R0)) (u j) (zA ow base 0 R0)[j]:=
  zK (w:=w) (ρ:=ρ2) (ρ2:=ρf) (bad:=bA outer ρ2 g2) (bad2:=bA outer ρf (oD ks as bs ow base shape R0)) ow M base R0 0 u (λq _ hq _ _=>(rX q (by omega)).1) (λj hj=>(T.closed j hj).1) uV T.vals
 refine⟨_,k4,ρf,?_,?_,λq b hq=>(BY q b hq).1,λq hq=>?_⟩
 ·refine T.heap.sub φ T.heap.wx T.heap.old T.heap.outLt (λq row hq=>?_) (λq q' row row' h1 h2 h3=>?_) (pB.sub T.heap φ uV (λ_ h=>h) λq t l m hq hm=>by
   rcases sV q _ hq with⟨p,t',l',m3,h1,rfl,h3,h4⟩ | ⟨_,_,_,_,_,_,e2,_⟩
   ·exact⟨⟨m,by rw[(rX p h1).2];exact h4,hm⟩,by rw[(rX p h1).2];exact(rX p h1).1⟩
   ·cases e2)
  ·rcases sV q row hq with⟨p,t,l,m3,h1,rfl,rfl,h4⟩ | ⟨p,off,n,cs,ri,e1,e2,e3,e4,e5,e6,e7,e8⟩
   ·obtain⟨ri,f1,f2,f3⟩:=T.heap.rows _ _ h4;exact⟨_,ri,by rw[(rX p h1).2];exact h4,by rw[(rX p h1).1];exact f1,by rw[(rX p h1).2];exact f1,uM f2 uV ρf,λhn=>(f3 hn).1⟩
   ·obtain⟨ri',f1,f2,f3⟩:=T.heap.rows _ _ e4;rw[T.ext _ _ e5]at f1;cases f1;refine⟨_,ri,by rw[(BY p q e1).2];exact e4,by rw[(BY p q e1).1];exact e5,by rw[(BY p q e1).2];exact T.ext _ _ e5,?_,λhn=>⟨(f3 hn).1.1,λ_=>(f3 hn).1.2 rfl⟩⟩;rw[e2];refine⟨e6,λi hi=>?_⟩
    have UV:i<n∧vs.length+off+i<(zA ow base 0 R0).length:=by
     simp only[List.length_take,List.length_drop]at hi;omega
    obtain⟨g3,g4⟩:=e8 i UV.1;refine⟨g3,_,g4,?_⟩;have h5:=hX (vs.length+(off+i)) (by omega);simp only[u]at h5;rw[if_neg (by omega),show vs.length+(off+i) - vs.length=off+i by omega]at h5;simp only[List.getElem_take,List.getElem_drop,B6];exact h5
  ·rcases sV q row h1 with⟨p,t,l,m3,f1,rfl,f3,f4⟩ | ⟨p,off,n,cs,ri,e1,e2,e3,e4,e5,e6,e7,e8⟩<;>
   rcases sV q' row' h2 with⟨p',t',l',m3',f1',rfl,f3',f4'⟩ | ⟨p',off',n',cs',ri',e1',e2',e3',e4',e5',e6',e7',e8'⟩
   ·rw[(rX p f1).2,(rX p' f1').2]at h3;omega
   ·rw[(rX p f1).2,(BY p' q' e1').2]at h3;omega
   ·rw[(BY p q e1).2,(rX p' f1').2]at h3;omega
   ·rw[(BY p q e1).2,(BY p' q' e1').2]at h3;subst h3;rw[e1]at e1';exact Option.some.inj e1'
 ·refine zhT k1 (by rw[SC];omega) λj hj MV=>?_;have h5:=hX j hj;simp only[u]at h5;rw[if_pos (by omega)]at h5;exact h5
 ·by_cases h1:base≤q∧q<base+128
  ·exact .inl h1
  ·by_cases h2:∃p,NA ks 0 bs p=some q
   ·obtain⟨p,h2⟩:=h2;exact .inr (iD _ _ _ _ _ h2).2.2
   ·simp only[ρf,if_neg h1,dif_neg h2]at hq;exact absurd rfl hq
def zgU (hC : VC C) (hΦ : cD C) {f : Nat} {fn : Func} {body : Code} (hf : C.P.funcs[f]? = some fn) (hb : fn.body = some body) (PV : (fn.name == "runtime.NumGoroutine") = false)
  (I3:C.nt=fn.ntmps) (an:An) (ks:List IA) (ow:List Nat) (shape:List (Bool×Nat)) (ats rts:List Ty) (F:MA ats→Option (MA rts))
  (oW:QA ks ats=true) (FX:Nat.ble ks.length fn.ntmps=true)
  (wX:∀x r,sA ats x→F x=some r→GN C fn body an ks ow shape rts (CA ats x)=some r):
  nA C.P f ⟨ks,MA ats,MA rts,DB ats,F,tC rts,shape,ow,false⟩ C.g:=by
 refine⟨EI ks ats oW,?_⟩;intro w args as outer ownw ρ x r base bs xV EW hh WW KV N1 P4 lY hF Q2 aY;simp only at xV EW hh WW KV lY hF Q2;have FX:=Nat.le_of_ble_eq_true FX;refine .inl ⟨?_,calls_of_wp hf hb ?_⟩
 ·have uW : ¬ fn.name = "runtime.NumGoroutine" := by simpa using PV
  simp[callFunc,program,hf,hb,uW,Sem.run]
 obtain⟨pb1,pb2⟩:=zee ks ats as x 0 oW lY;obtain⟨ρ2,H1,H2,H3,H4,H5⟩:=za6 oW lY hh KV;obtain⟨e1,e2⟩:=zbr (w:=w) (ρ:=ρ) H2 ks ats as x 0 (λj=>args.getD j undef) oW lY (λq t m h1 h2=>H5 q _ h1 h2) WW;have rZ:∀base rs,oD ks (CA ats x) bs ow base shape rs=oD ks as bs ow base shape rs:=λbase rs=>by simp only[oD,pb1]
 have RY:AA C w outer ownw ρ2 {s:=λi=>match(UA ks 0 (CA ats x)).drop i with | v :: _=>v | []=> .undef,h:=pA ks 0 (CA ats x),nx:=128 *ks.length}
   {tmps:=args++Array.replicate (fn.ntmps - args.size) undef,defers:=[]} w:=by
  refine⟨H1,λi=>?_,by simp;omega,rfl,aY⟩;show VR w ρ2 _ _ (match(UA ks 0 (CA ats x)).drop i with | v :: _=>v | []=> .undef)
  by_cases hi:i<(UA ks 0 (CA ats x)).length
  ·rw[List.drop_eq_getElem_cons hi];have h3:=e2 i hi;have g7:i<args.size:=by omega
   rw[Array.getD_eq_getD_getElem?]at h3⊢;rw[Array.getElem?_append_left g7];exact h3
  ·rw[List.drop_eq_nil_of_le (by omega)];exact .undef _
 refine zbx hC hΦ an body (λ_=>True) (zfS an body) _ _ w ρ2 _ r _ RY (λq hq=>H4 q hq) (wX x r (pS ats x (zcn H1 ks ats x 0 (λj=>args.getD j undef) oW (λ_ _ h=>h) λj hj=>e2 j hj)) hF) λe st' a' w' ρ' hg hk=>?_
 have key:(match yE C.P st' fn.results.toList shape,CD st' ks (CA ats x) 0 with
   | some vs,some us=>match qC ow 0 (vs++us) st'.h with
    | some (rs,_)=>fI rts rs
    | none=>none
   | _,_=>none)=some r→a'.defers=[]∧∃v,(results fn a'.tmps).run C.P w'= .ok v w'∧∃v',Ending.returned v= .returned v'∧∃ρf,EA w outer ownw ρf (oD ks as bs ow base shape (tC rts r)) w'∧
   VR w' ρf (bA outer ρf (oD ks as bs ow base shape (tC rts r))) v' (JF shape (zA ow base 0 (tC rts r)))∧
   (∀q b,NA ks 0 bs q=some b→ρf b=ρ q)∧(∀r,ρf r≠none→(base≤r∧r<base+128)∨r∈bs):=by
  intro hk;split at hk
  case h_2=>cases hk
  rename_i vs us qW L3;split at hk
  case h_2=>cases hk
  rename_i rs h2 LV;obtain⟨v,h3,ρf,h4,h5,h6,h7⟩:=ziI (bs:=bs) (base:=base) hg.rel hg.fresh qW L3 LV hk Q2 N1 P4;rw[rZ]at h4 h5;refine⟨hg.rel.defers,v,h3,v,rfl,ρf,h4,h5,λq b hq=>?_,h7⟩;rw[h6 q b hq];obtain⟨row,sV⟩:=pb2 bs q b hq;obtain⟨ri,h8,_⟩:=hh.rows _ _ sV;rw[hg.ext _ _ (H3 _ _ h8),h8]
 cases e with
 | exit id=>cases hk
 | normal=>exact key hk
 | ret=>exact key hk
end
end Go.D
namespace Go.D
inductive LK where
 | i | by | b | s
 | l (t:TN)
 deriving DecidableEq
def lk:TN→List LK
 | .byte=>[.by] | .int=>[.i] | .bool=>[.b] | .str=>[.s] | .bs=>[.l .byte]
 | .Addr=>[.i, .i]
 | .Op=>[.i, .i, .i, .l .byte]
 | .Event=>[.i, .i, .i, .i, .l .byte, .l .Op]
 | .Jar=>[.l .byte]
 | .Dice=>[.l .byte, .i]
 | .Win=>[.i, .l .int]
 | .Ep=>[.i, .l .byte, .i, .i, .l .int]
 | .Chan=>[.i, .l .byte, .i, .l .byte, .i, .i, .l .int, .i, .l .byte, .i, .i, .l .int, .b, .i, .l .byte]
 | .Cand=>[.i, .i, .l .byte, .i]
 | .Paths=>[.i, .i, .l .Cand]
 | .Sess=>[.i, .l .byte, .l .byte, .i, .l .byte, .i, .l .byte, .i, .i, .l .int, .i, .l .byte, .i, .i, .l .int, .b, .i, .l .byte, .i, .i, .l .Cand, .i, .i, .b]
 | .Tab=>[.i, .l .Sess]
 | .Credit=>[.i, .i, .i, .i]
 | .Server=>[.l .bs, .l .byte, .l .byte, .i, .i, .l .Sess, .l .Credit]
 | .Frame=>[.i, .i, .l .byte, .l .byte, .i, .l .byte, .l .byte, .i, .i, .l .byte, .l .byte]
 | .Timer=>[.b, .i, .i, .i]
 | .Client=>[.i, .l .byte, .i, .i, .i, .l .byte, .i, .i, .l .byte, .l .byte, .i, .l .byte, .l .byte, .i, .i, .l .byte, .l .byte, .i, .l .byte, .i, .l .byte, .i, .i, .l .int, .i, .l .byte, .i, .i, .l .int, .b, .i, .l .byte, .b, .i, .i, .i, .b, .i, .i, .i, .i]
 | .Wire=>[.i, .i, .i, .i, .l .byte]
 | .Note=>[.i, .i, .i, .l .byte, .l .byte, .i, .i, .l .byte, .l .byte, .i, .i, .i]
 | .World=>[.i, .l .Client, .l .bs, .l .byte, .l .byte, .i, .i, .l .Sess, .l .Credit, .l .byte, .i, .l .Wire, .l .bs, .l .Note]
 | .Cur=>[.l .byte, .i, .i]
 | .Out=>[.i, .i, .i, .i, .l .byte, .l .byte, .i, .l .byte, .l .byte, .i, .i, .l .byte, .l .byte]
 | .Form=>[.i, .s]
 | .Hash=>[.l .int, .l .byte, .i]
def mR:LK→V→Prop
 | .i,v=>∃n,uA v=some n
 | .by,v=>∃n,rG v=some n
 | .b,v=>∃n,sE v=some n
 | .s,v=>∃n,EH v=some n
 | .l t,v=>∃n,BA t v=some n
inductive XA:List LK→List V→Prop
 | nil:XA [] []
 | cons {k:LK} {v:V} {ks:List LK} {vs:List V} (h:mR k v) (r:XA ks vs):XA (k :: ks) (v :: vs)
def XA.app{a b:List LK}{x y:List V}(h:XA a x)(k:XA b y):XA (a++b) (x++y):=by
 induction h with
 | nil=>exact k
 | cons h _ ih=>exact .cons h ih
def XA.len{a:List LK}{x:List V}(h:XA a x):a.length=x.length:=by
 induction h with
 | nil=>rfl
 | cons h _ ih=>simp[ih]
def XA.take{k:LK}{ks:List LK}{x:List V}(h:XA (k :: ks) x):∃v r,x=v :: r∧mR k v∧XA ks r:=by
 cases h with | cons h r=>exact⟨_,_,rfl,h,r⟩
def xN{α β:Type}{p:V→Option α}{v:V}{a:α}(h:p v=some a)(cs:List V)(k:α→List V→Option β):tk p (v :: cs) k=k a cs:=by simp[tk,h]
def lC{β:Type}(r:β){x:List V}(h:XA [] x):∃y,aB x r=some y:=by cases h;exact⟨r,rfl⟩
def xA{β:Type}{ks:List LK}{K:Int→List V→Option β}{x:List V}(h:XA (.i :: ks) x)(hk:∀a r,XA ks r→∃y,K a r=some y):∃y,tk uA x K=some y:=by
 cases h with | cons h r=>obtain⟨a,h⟩:=h;rw[xN h];exact hk _ _ r
def oI{β:Type}{ks:List LK}{K:Bool→List V→Option β}{x:List V}(h:XA (.b :: ks) x)(hk:∀a r,XA ks r→∃y,K a r=some y):∃y,tk sE x K=some y:=by
 cases h with | cons h r=>obtain⟨a,h⟩:=h;rw[xN h];exact hk _ _ r
def zcE{β:Type}{ks:List LK}{K:List UInt8→List V→Option β}{x:List V}(h:XA (.s :: ks) x)(hk:∀a r,XA ks r→∃y,K a r=some y):∃y,tk EH x K=some y:=by
 cases h with | cons h r=>obtain⟨a,h⟩:=h;rw[xN h];exact hk _ _ r
def JA{β:Type}{t:TN}{ks:List LK}{K:List (El t)→List V→Option β}{x:List V}(h:XA (.l t :: ks) x)(hk:∀a r,XA ks r→∃y,K a r=some y):∃y,tk (BA t) x K=some y:=by
 cases h with | cons h r=>obtain⟨a,h⟩:=h;rw[xN h];exact hk _ _ r
def zg7{x:List V}(h:XA (lk .Addr) x):∃y,jQ x=some y:=xA h λ_ _ h=>xA h λ_ _ h=>lC _ h
def ziS{x:List V}(h:XA (lk .Op) x):∃y,WQ x=some y:=xA h λ_ _ h=>xA h λ_ _ h=>xA h λ_ _ h=>JA h λ_ _ h=>lC _ h
def zfU{x:List V}(h:XA (lk .Event) x):∃y,RP x=some y:=xA h λ_ _ h=>xA h λ_ _ h=>xA h λ_ _ h=>xA h λ_ _ h=>JA h λ_ _ h=>JA h λ_ _ h=>lC _ h
def zh7{x:List V}(h:XA (lk .Jar) x):∃y,MQ x=some y:=JA h λ_ _ h=>lC _ h
def zhs{x:List V}(h:XA (lk .Dice) x):∃y,nQ x=some y:=JA h λ_ _ h=>xA h λ_ _ h=>lC _ h
def zhS{x:List V}(h:XA (lk .Win) x):∃y,yQ x=some y:=xA h λ_ _ h=>JA h λ_ _ h=>lC _ h
def ziN{x:List V}(h:XA (lk .Ep) x):∃y,UQ x=some y:=xA h λ_ _ h=>JA h λ_ _ h=>xA h λ_ _ h=>xA h λ_ _ h=>JA h λ_ _ h=>lC _ h
def zhe{x:List V}(h:XA (lk .Chan) x):∃y,sQ x=some y:=xA h λ_ _ h=>JA h λ_ _ h=>xA h λ_ _ h=>JA h λ_ _ h=>xA h λ_ _ h=>xA h λ_ _ h=>JA h λ_ _ h=>xA h λ_ _ h=>JA h λ_ _ h=>xA h λ_ _ h=>xA h λ_ _ h=>JA h λ_ _ h=>oI h λ_ _ h=>xA h λ_ _ h=>JA h λ_ _ h=>lC _ h
def zgE{x:List V}(h:XA (lk .Cand) x):∃y,cQ x=some y:=xA h λ_ _ h=>xA h λ_ _ h=>JA h λ_ _ h=>xA h λ_ _ h=>lC _ h
def zfY{x:List V}(h:XA (lk .Paths) x):∃y,zP x=some y:=xA h λ_ _ h=>xA h λ_ _ h=>JA h λ_ _ h=>lC _ h
def zhv{x:List V}(h:XA (lk .Sess) x):∃y,tQ x=some y:=xA h λ_ _ h=>JA h λ_ _ h=>JA h λ_ _ h=>xA h λ_ _ h=>JA h λ_ _ h=>xA h λ_ _ h=>JA h λ_ _ h=>xA h λ_ _ h=>xA h λ_ _ h=>JA h λ_ _ h=>xA h λ_ _ h=>JA h λ_ _ h=>xA h λ_ _ h=>xA h λ_ _ h=>JA h λ_ _ h=>oI h λ_ _ h=>xA h λ_ _ h=>JA h λ_ _ h=>xA h λ_ _ h=>xA h λ_ _ h=>JA h λ_ _ h=>xA h λ_ _ h=>xA h λ_ _ h=>oI h λ_ _ h=>lC _ h
def zhC{x:List V}(h:XA (lk .Tab) x):∃y,FQ x=some y:=xA h λ_ _ h=>JA h λ_ _ h=>lC _ h
def zfb{x:List V}(h:XA (lk .Credit) x):∃y,mP x=some y:=xA h λ_ _ h=>xA h λ_ _ h=>xA h λ_ _ h=>xA h λ_ _ h=>lC _ h
def zeS{x:List V}(h:XA (lk .Server) x):∃y,jP x=some y:=JA h λ_ _ h=>JA h λ_ _ h=>JA h λ_ _ h=>xA h λ_ _ h=>xA h λ_ _ h=>JA h λ_ _ h=>JA h λ_ _ h=>lC _ h
def zfE{x:List V}(h:XA (lk .Frame) x):∃y,MP x=some y:=xA h λ_ _ h=>xA h λ_ _ h=>JA h λ_ _ h=>JA h λ_ _ h=>xA h λ_ _ h=>JA h λ_ _ h=>JA h λ_ _ h=>xA h λ_ _ h=>xA h λ_ _ h=>JA h λ_ _ h=>JA h λ_ _ h=>lC _ h
def zf6{x:List V}(h:XA (lk .Timer) x):∃y,OP x=some y:=oI h λ_ _ h=>xA h λ_ _ h=>xA h λ_ _ h=>xA h λ_ _ h=>lC _ h
def ze3{x:List V}(h:XA (lk .Client) x):∃y,hP x=some y:=xA h λ_ _ h=>JA h λ_ _ h=>xA h λ_ _ h=>xA h λ_ _ h=>xA h λ_ _ h=>JA h λ_ _ h=>xA h λ_ _ h=>xA h λ_ _ h=>JA h λ_ _ h=>JA h λ_ _ h=>xA h λ_ _ h=>JA h λ_ _ h=>JA h λ_ _ h=>xA h λ_ _ h=>xA h λ_ _ h=>JA h λ_ _ h=>JA h λ_ _ h=>xA h λ_ _ h=>JA h λ_ _ h=>xA h λ_ _ h=>JA h λ_ _ h=>xA h λ_ _ h=>xA h λ_ _ h=>JA h λ_ _ h=>xA h λ_ _ h=>JA h λ_ _ h=>xA h λ_ _ h=>xA h λ_ _ h=>JA h λ_ _ h=>oI h λ_ _ h=>xA h λ_ _ h=>JA h λ_ _ h=>oI h λ_ _ h=>xA h λ_ _ h=>xA h λ_ _ h=>xA h λ_ _ h=>oI h λ_ _ h=>xA h λ_ _ h=>xA h λ_ _ h=>xA h λ_ _ h=>xA h λ_ _ h=>lC _ h
def zg6{x:List V}(h:XA (lk .Wire) x):∃y,pQ x=some y:=xA h λ_ _ h=>xA h λ_ _ h=>xA h λ_ _ h=>xA h λ_ _ h=>JA h λ_ _ h=>lC _ h
def zg0{x:List V}(h:XA (lk .Note) x):∃y,ZP x=some y:=xA h λ_ _ h=>xA h λ_ _ h=>xA h λ_ _ h=>JA h λ_ _ h=>JA h λ_ _ h=>xA h λ_ _ h=>xA h λ_ _ h=>JA h λ_ _ h=>JA h λ_ _ h=>xA h λ_ _ h=>xA h λ_ _ h=>xA h λ_ _ h=>lC _ h
def zfi{x:List V}(h:XA (lk .World) x):∃y,FP x=some y:=xA h λ_ _ h=>JA h λ_ _ h=>JA h λ_ _ h=>JA h λ_ _ h=>JA h λ_ _ h=>xA h λ_ _ h=>xA h λ_ _ h=>JA h λ_ _ h=>JA h λ_ _ h=>JA h λ_ _ h=>xA h λ_ _ h=>JA h λ_ _ h=>JA h λ_ _ h=>JA h λ_ _ h=>lC _ h
def zim{x:List V}(h:XA (lk .Cur) x):∃y,OQ x=some y:=JA h λ_ _ h=>xA h λ_ _ h=>xA h λ_ _ h=>lC _ h
def zit{x:List V}(h:XA (lk .Out) x):∃y,HQ x=some y:=xA h λ_ _ h=>xA h λ_ _ h=>xA h λ_ _ h=>xA h λ_ _ h=>JA h λ_ _ h=>JA h λ_ _ h=>xA h λ_ _ h=>JA h λ_ _ h=>JA h λ_ _ h=>xA h λ_ _ h=>xA h λ_ _ h=>JA h λ_ _ h=>JA h λ_ _ h=>lC _ h
def zht{x:List V}(h:XA (lk .Form) x):∃y,iQ x=some y:=xA h λ_ _ h=>zcE h λ_ _ h=>lC _ h
def zhf{x:List V}(h:XA (lk .Hash) x):∃y,uQ x=some y:=JA h λ_ _ h=>JA h λ_ _ h=>xA h λ_ _ h=>lC _ h
def bS(t:TN)(x:List V)(h:XA (lk t) x):∃y,zB t x=some y:=by
 cases t with
 | byte=>
  cases h with
  | cons h r=>
   obtain⟨a,h⟩:=h;cases r;refine⟨a,?_⟩;simp only[zB];rw[xN h];rfl
 | int=>exact xA h λ_ _ h=>lC _ h
 | bool=>exact oI h λ_ _ h=>lC _ h
 | str=>exact zcE h λ_ _ h=>lC _ h
 | bs=>exact JA h λ_ _ h=>lC _ h
 | Addr=>exact zg7 h
 | Op=>exact ziS h
 | Event=>exact zfU h
 | Jar=>exact zh7 h
 | Dice=>exact zhs h
 | Win=>exact zhS h
 | Ep=>exact ziN h
 | Chan=>exact zhe h
 | Cand=>exact zgE h
 | Paths=>exact zfY h
 | Sess=>exact zhv h
 | Tab=>exact zhC h
 | Credit=>exact zfb h
 | Server=>exact zeS h
 | Frame=>exact zfE h
 | Timer=>exact zf6 h
 | Client=>exact ze3 h
 | Wire=>exact zg6 h
 | Note=>exact zg0 h
 | World=>exact zfi h
 | Cur=>exact zim h
 | Out=>exact zit h
 | Form=>exact zht h
 | Hash=>exact zhf h
end Go.D
namespace Go.D
variable [aA]
open Go.RowKit Go.ChangeShapes
section
variable {H:Type} {encH:TypeId×Value→H} {P:Program} {W:World}
def nG:Nat→Option RI:=λ_=>none
def EE:Nat→Prop:=λ_=>False
def uF(P:Program)(tn:TypeId→Option TN):Nat→TypeId→Option (List LK)
 | 0,_=>none
 | d+1,t=>match P.underlying t with
  | some (.int .i64)=>some [.i]
  | some (.int .u8)=>some [.by]
  | some .bool=>some [.b]
  | some .string=>some [.s]
  | some (.slice e)=>(tn e).map λt=>[.l t]
  | some (.struct fs)=>(kindsF (uF P tn d) P 0 fs.toList).bind λks=>bif Nat.beq (P.cellsOf t) ks.length then some ks else none
  | _=>none
where
 kindsF (f:TypeId→Option (List LK)) (P:Program):Nat→List Field→Option (List LK)
  | _,[]=>some []
  | k,x :: xs=>bif Nat.beq x.offset k then
    match f x.type with
    | some ks=>bif Nat.beq (P.cellsOf x.type) ks.length then(kindsF f P (k+ks.length) xs).map λr=>ks++r else none
    | none=>none
   else none
structure RH(P:Program)(tn:TypeId→Option TN)(D:Nat):Prop where
 ok:∀e t,tn e=some t→uF P tn D e=some (lk t)∧P.cellsOf e=sz t
def RE(W:World)(cs:List Value)(vs:List V):Prop:=cs.length=vs.length∧∀j (hj:j<vs.length),VR W nG EE (cs.getD j undef) vs[j]
def RE.one{c:Value}{v:V}(h:VR W nG EE c v):RE W [c] [v]:=⟨rfl,λj hj=>by
 have:j=0:=by simp at hj;omega
 subst this;exact h⟩
def RE.app{a b:List Value}{x y:List V}(h:RE W a x)(k:RE W b y):RE W (a++b) (x++y):=by
 refine⟨by simp[h.1,k.1],λj hj=>?_⟩
 by_cases vW:j<x.length
 ·rw[List.getElem_append_left vW,gP _ _ _ _ (by rw[h.1];exact vW)];exact h.2 j vW
 ·rw[List.getElem_append_right (by omega),kP _ _ _ _ (by rw[h.1];omega),h.1];exact k.2 _ (by simp at hj;omega)
omit [aA]in
def zik{k:IntKind}{n:Int}(h:(Lit.int k n).wf=true):FB k n:=by
 simp only[Lit.wf,Bool.and_eq_true,decide_eq_true_eq]at h;exact h
omit [aA]in
def dS{α β:Type}{f:α→Option β}:∀{l:List α} {r:List β},l.mapM f=some r→r.length=l.length∧∀i (hi:i<l.length) (hr:i<r.length),f l[i]=some r[i]
 | [],r,h=>by simp at h;subst h;exact⟨rfl,λi hi=>by simp at hi⟩
 | x :: l,r,h=>by
  rw[List.mapM_cons]at h;cases hx:f x with
  | none=>rw[hx]at h;simp at h
  | some y=>
   rw[hx]at h;cases hl:l.mapM f with
   | none=>rw[hl]at h;simp at h
   | some ys=>
    rw[hl]at h;simp at h;subst h;obtain⟨h1,h2⟩:=dS hl;refine⟨by simp[h1],λi hi hr=>?_⟩;cases i with
    | zero=>exact hx
    | succ i=>exact h2 i (by simpa using hi) (by simpa using hr)
omit [aA]in
def KU{α:Type}{p:Nat→α→Prop}:∀(n:Nat),(∀i,i<n→∃x,p i x)→∃l:List α,l.length=n∧∀i (hi:i<l.length),p i l[i]
 | 0,_=>⟨[],rfl,λi hi=>by simp at hi⟩
 | n+1,h=>by
  obtain⟨l,h1,h2⟩:=KU n (λi hi=>h i (by omega));obtain⟨x,hx⟩:=h n (by omega);refine⟨l++[x],by simp[h1],λi hi=>?_⟩
  by_cases NW:i<l.length
  ·rw[List.getElem_append_left NW];exact h2 i NW
  ·have:i=n:=by simp at hi;omega
   subst this;rw[List.getElem_append_right (by omega)];simpa[h1]using hx
omit [aA]in
def RR{a:Addr}{n:Nat}{cs:List Value}(h:W.cells? 0 a n=some cs):cs.length=n∧∀i (_:i<n),W.cell? (a.add i)=some (cs.getD i undef):=by
 simp only[World.cells?,Nat.zero_le,if_true]at h;obtain⟨h1,h2⟩:=dS h;simp at h1;refine⟨h1,λi hi=>?_⟩;have:=h2 i (by simpa using hi) (by omega);simp only[List.getElem_range]at this;rw[this,List.getD_eq_getElem?_getD,List.getElem?_eq_getElem (by omega)];rfl
variable (hB:W.heap.size≤aA.base)in
include hB in
theorem eQ{tn:TypeId→Option TN}{D:Nat}(hK:RH P tn D){sp:Nat→Bool}{held:Bool}:∀(fuel:Nat) (T:TypeId) (cs:List Value) (x:DataW H×List MemPlace) (d:Nat) (ks:List LK),
  DataW.trod encH P W 0 sp held fuel T cs=some x→uF P tn d T=some ks→∃vs,RE W cs vs∧XA ks vs
 | 0,T,cs,x,d,ks,h,hk=>by simp[DataW.trod]at h
 | fuel+1,T,cs,x,0,ks,h,hk=>by simp[uF]at hk
 | fuel+1,T,cs,x,d+1,ks,h,hk=>by
  have slice:∀e,P.underlying T=some (.slice e)→(tn e).map (λt=>[LK.l t])=some ks→∃vs,RE W cs vs∧XA ks vs:=λe hu hk=>by
   obtain⟨t,ht,hk⟩:=Option.map_eq_some_iff.1 hk;subst hk;obtain⟨kk,xV⟩:=hK.ok e t ht;cases cs with
   | nil=>simp[DataW.trod,hu]at h
   | cons v r=>
   cases r with
   | cons v2 r2=>cases v<;>simp[DataW.trod,hu]at h
   | nil=>
   have hv:∃ao len cap,v= .slice ao len cap:=by cases v<;>first | exact⟨_,_,_,rfl⟩ | simp[DataW.trod,hu]at h
   obtain⟨ao,len,cap,rfl⟩:=hv;cases ao with
   | none=>
    have hz:len=0∧cap=0:=by
     cases len<;>cases cap<;>simp[DataW.trod,hu]at h
     exact⟨rfl,rfl⟩
    obtain⟨rfl,rfl⟩:=hz;exact⟨[.nil],RE.one .nil, .cons ⟨[],rfl⟩ .nil⟩
   | some a=>
    simp only[DataW.trod,hu]at h;split at h
    case isFalse=>cases h
    rename_i z1;obtain⟨_,tV,tX⟩:=z1;obtain⟨elems,EW,_⟩:=Option.bind_eq_some_iff.1 h;rw[xV]at EW;obtain⟨m1,m2⟩:=dS EW;simp at m1
    have one:∀i,i<len→∃y:El t,∃u:List Value,W.cells? 0 (a.add (i *sz t)) (sz t)=some u∧∀j (_:j<sz t),VR W nG EE (u.getD j undef) ((enc t y).getD j .undef):=λi hi=>by
     have h1:=m2 i (by simpa using hi) (by omega);simp only[List.getElem_range]at h1;obtain⟨u,h2,h3⟩:=Option.bind_eq_some_iff.1 h1;obtain⟨vs,h4,h5⟩:=eQ hK fuel e u _ D (lk t) h3 kk;obtain⟨y,h6⟩:=bS t vs h5;have h7:=LC t h6;refine⟨y,u,h2,λj hj=>?_⟩;have MV:j<(enc t y).length:=by rw[WA];exact hj
     have vW:j<vs.length:=by rw[h7.len];exact MV
     rw[List.getD_eq_getElem?_getD (l:=enc t y),List.getElem?_eq_getElem MV];exact VR.sub (h7.get j vW MV) (h4.2 j vW)
    obtain⟨l,gY,QX⟩:=KU (p:=λi y=>∃u:List Value,W.cells? 0 (a.add (i *sz t)) (sz t)=some u∧∀j (_:j<sz t),VR W nG EE (u.getD j undef) ((enc t y).getD j .undef)) len one;refine⟨[.sl t l],RE.one ?_, .cons ⟨l,by simp[BA,TN.cast]⟩ .nil⟩;cases l with
    | nil=>
     simp at gY;subst gY;exact .slE t _ cap tX
    | cons y0 l0=>
    -- there is a cell:the address is a plain one
    obtain⟨u0,kY,_⟩:=QX 0 (by simp);have EX:=(RR kY).2 0 (xF t)
    have XZ:a.spot=none:=by
     simp only[World.cell?]at EX;split at EX
     ·simp only[Addr.add,Nat.zero_mul,if_true]at EX;cases hs:a.spot with
      | none=>rfl
      | some _=>rw[hs]at EX;simp at EX
     ·cases EX
    obtain⟨b,off,spot⟩:=a;simp only at XZ;subst XZ;subst gY
    refine .slC t _ b off cap (λi j=>(W.cell? (iA b (off+i *sz t+j))).getD undef) (λh=>h) tV tX (λ_=> .inl (Nat.lt_of_lt_of_le (QH (show W.cell? (iA b (off+0 *sz t+0))=_ by
     have h:=EX;rw[show(⟨b,off,none⟩:Addr)=iA b off from rfl,uD,uD]at h;exact h)) hB)) (λi hi j hj=>?_) (λi hi j hj=>?_)
    ·obtain⟨u,h1,_⟩:=QX i hi;have:=(RR h1).2 j hj
     have e:((⟨b,off,none⟩:Addr).add (i *sz t)).add j=iA b (off+i *sz t+j):=by
      show((iA b off).add (i *sz t)).add j=_
      rw[uD,uD]
     rw[e]at this;rw[this];rfl
    ·obtain⟨u,h1,h2⟩:=QX i hi;have:=(RR h1).2 j hj
     have e:((⟨b,off,none⟩:Addr).add (i *sz t)).add j=iA b (off+i *sz t+j):=by
      show((iA b off).add (i *sz t)).add j=_
      rw[uD,uD]
     rw[e]at this;rw[this];exact h2 j hj
  simp only[uF]at hk;cases hu:P.underlying T with
  | none=>rw[hu]at hk;cases hk
  | some td=>
   rw[hu]at hk;cases td with
   | int k=>
    cases cs with
    | nil=>simp[DataW.trod,hu]at h
    | cons v r=>
    cases r with
    | cons v2 r2=>cases v<;>simp[DataW.trod,hu]at h
    | nil=>
    cases v with
    | int k' n=>
     simp only[DataW.trod,hu]at h;split at h
     case isFalse=>cases h
     rename_i z1;obtain⟨rfl,hw⟩:=z1;have hf:=zik hw;refine⟨[.int k' n],RE.one (.int _ _ hf),?_⟩;cases k'<;>simp at hk<;>subst hk
     ·exact .cons ⟨n,rfl⟩ .nil
     ·exact .cons ⟨_,rfl⟩ .nil
    | _=>simp[DataW.trod,hu]at h
   | bool=>
    cases cs with
    | nil=>simp[DataW.trod,hu]at h
    | cons v r=>
    cases r with
    | cons v2 r2=>cases v<;>simp[DataW.trod,hu]at h
    | nil=>
    cases v with
    | bool b=>
     simp at hk;subst hk;exact⟨[.bool b],RE.one (.bool _), .cons ⟨b,rfl⟩ .nil⟩
    | _=>simp[DataW.trod,hu]at h
   | string=>
    cases cs with
    | nil=>simp[DataW.trod,hu]at h
    | cons v r=>
    cases r with
    | cons v2 r2=>cases v<;>simp[DataW.trod,hu]at h
    | nil=>
    cases v with
    | string s=>
     simp only[DataW.trod,hu]at h;split at h
     case isFalse=>cases h
     rename_i hs;simp at hk;subst hk;refine⟨[.str s.data.toList],RE.one ?_, .cons ⟨_,rfl⟩ .nil⟩
     have JZ:s.data.toList.length≤maxLen:=by
      rw[Array.length_toList];exact hs
     exact VR.str (w:=W) (ρ:=nG) (bad:=EE) s.data.toList JZ
    | _=>simp[DataW.trod,hu]at h
   | slice e=>exact slice e hu hk
   | struct fs=>
    unfold DataW.trod at h;rw[hu]at h;simp only at h;split at h
    case isFalse=>cases h
    rename_i tV;obtain⟨xs,E1,_⟩:=Option.map_eq_some_iff.1 h;clear h slice
    -- the fields
    have go:∀(l:List Field) (k:Nat) (ks:List LK) (xs:List (DataW H×List MemPlace)),uF.kindsF (uF P tn d) P k l=some ks→
      l.mapM (λf=>DataW.trod encH P W 0 sp held fuel f.type ((cs.drop f.offset).take (P.cellsOf f.type)))=some xs→
      ∃vs,XA ks vs∧k+vs.length≤max k cs.length∧RE W ((cs.drop k).take vs.length) vs:=by
     intro l;induction l with
     | nil=>
      intro k ks xs hk _;simp[uF.kindsF]at hk;subst hk;exact⟨[], .nil,by simp;omega,by simp,λj hj=>by simp at hj⟩
     | cons f l ih=>
      intro k ks xs hk hx;simp only[uF.kindsF]at hk;cases hb:Nat.beq f.offset k
      case false=>simp[hb]at hk
      have xW:=Nat.eq_of_beq_eq_true hb;simp only[hb,cond_true]at hk;split at hk
      case h_2=>cases hk
      rename_i k0 hk0;cases OY:Nat.beq (P.cellsOf f.type) k0.length
      case false=>simp[OY]at hk
      have kZ:=Nat.eq_of_beq_eq_true OY;simp only[OY,cond_true]at hk;obtain⟨r,hr,rfl⟩:=Option.map_eq_some_iff.1 hk;rw[List.mapM_cons]at hx;cases h0:DataW.trod encH P W 0 sp held fuel f.type ((cs.drop f.offset).take (P.cellsOf f.type))with
      | none=>rw[h0]at hx;simp at hx
      | some y=>
       rw[h0]at hx;cases h1:l.mapM (λf=>DataW.trod encH P W 0 sp held fuel f.type ((cs.drop f.offset).take (P.cellsOf f.type)))with
       | none=>rw[h1]at hx;simp at hx
       | some ys=>
        obtain⟨v0,g1,g2⟩:=eQ hK fuel f.type _ y d k0 h0 hk0;have gW:v0.length=k0.length:=g2.len.symm;rw[←xW]at hr⊢;obtain⟨vs,e1,e2,e3⟩:=ih (f.offset+k0.length) r ys hr h1;have SW:=g1.1;rw[kZ]at SW g1;simp only[List.length_take,List.length_drop]at SW;refine⟨v0++vs,g2.app e1,by simp;omega,?_⟩
        have es:(cs.drop f.offset).take (v0++vs).length=(cs.drop f.offset).take k0.length++(cs.drop (f.offset+k0.length)).take vs.length:=by
         rw[List.length_append,gW,List.take_add,List.drop_drop]
        rw[es];exact g1.app e3
    obtain⟨ks',KZ,fX⟩:=Option.bind_eq_some_iff.1 hk;cases hb:Nat.beq (P.cellsOf T) ks'.length
    case false=>simp[hb]at fX
    have kZ:=Nat.eq_of_beq_eq_true hb;simp only[hb,cond_true,Option.some.injEq]at fX;subst fX;obtain⟨vs,e1,e2,e3⟩:=go fs.toList 0 ks' xs KZ E1;have hvl:vs.length=cs.length:=by rw[←e1.len,tV,kZ]
    refine⟨vs,?_,e1⟩;rw[List.drop_zero,List.take_of_length_le (by omega)]at e3;exact e3
   | _=>simp at hk
def QN(P:Program)(tn:TypeId→Option TN)(D:Nat)(T:TypeId):Ty→Bool
 | .v t=>(match P.underlying T with
   | some (.struct _)=>t.isAgg
   | some (.int _) | some .bool | some .string=>!t.isAgg
   | _=>false)&&decide (uF P tn D T=some (lk t))
 | .sl t=>(match P.underlying T with
   | some (.slice _)=>true
   | _=>false)&&decide (uF P tn D T=some [.l t])
 | _=>false
variable (hB:W.heap.size≤aA.base)in
include hB in
theorem ziH{tn:TypeId→Option TN}{D:Nat}(hK:RH P tn D){sp:Nat→Bool}{held:Bool}{T:TypeId}{ty:Ty}(oY:QN P tn D T ty=true){v:Value}{d:DataW H}{ps:List MemPlace}
  (h:DataW.Trod encH P W 0 sp held T v d ps) {r:Reach} {b:Nat} (hw:Value.okWide P W r b T v):∃x:ty.T,VR W nG EE v (uB ty x)∧CC ty (uB ty x)=some x:=by
 obtain⟨fuel,h⟩:=h
 -- a value of one cell
 have HY:(∀fs,P.underlying T≠some (.struct fs))→(∀n e,P.underlying T≠some (.array n e))→v.cells.toList=[v]:=λh1 h2=>by
  unfold Value.okWide at hw;split at hw
  ·rename_i fs hu;exact absurd hu (h1 _)
  ·rename_i hu;exact absurd hu (h2 _ _)
  ·cases v with
   | agg cs=>
    exfalso;unfold Cell.okWide at hw;split at hw<;>simp_all[Cell.ok]
   | _=>rfl
 cases ty with
 | v t=>
  simp only[QN,Bool.and_eq_true,decide_eq_true_eq]at oY;obtain⟨vs,h1,h2⟩:=eQ hB hK fuel T _ _ D _ h oY.2;obtain⟨x,hx⟩:=bS t vs h2;have hs:=LC t hx
  have hd:zB t (enc t x)=some x:=by
   cases t<;>first | rfl | (simp[zB,enc,tk,rG,aB];done)
  refine⟨x,?_⟩;have wV:∀j (hj:j<(enc t x).length),VR W nG EE (v.cells.toList.getD j undef) (enc t x)[j]:=λj hj=>VR.sub (hs.get j (by rw[hs.len];exact hj) hj) (h1.2 j (by rw[hs.len];exact hj));cases RV:t.isAgg
  ·obtain⟨c,hc⟩:=zbz t RV x
   have hv:v.cells.toList=[v]:=by
    refine HY (λfs hu=>?_) (λn e hu=>?_)
    ·rw[hu]at oY;simp[RV]at oY
    ·rw[hu]at oY;simp at oY
   have he:uB (.v t) x=c:=by simp[uB,GF,RV,hc]
   rw[he];have h0:=wV 0 (by rw[hc];simp);simp only[hv,hc,List.getElem_cons_zero]at h0;refine⟨h0,?_⟩;rw[hc]at hd;cases c<;>first | (simp only[CC,RV,cond_false];exact hd) | skip
   exfalso;have:=zaH t x;rw[hc]at this;simp[V.leaf]at this
  ·have hu:∃fs,P.underlying T=some (.struct fs):=by
    revert oY
    cases P.underlying T with
    | none=>simp
    | some td=>cases td<;>simp[RV]
   obtain⟨fs,hu⟩:=hu;unfold Value.okWide at hw;rw[hu]at hw;obtain⟨cs,rfl,xV,_⟩:=hw;have he:uB (.v t) x= .agg (enc t x):=by simp[uB,GF,RV]
   rw[he];refine⟨.agg _ _ ?_ λj hj=>?_,by simp only[CC,RV,cond_true];exact hd⟩
   ·have:=h1.1;simp only[Value.cells,Array.length_toList]at this;rw[this,hs.len]
   ·have:=wV j hj;simp only[Value.cells]at this;rw[Array.getD_eq_getD_getElem?];rw[List.getD_eq_getElem?_getD]at this;simpa using this
 | sl t=>
  simp only[QN,Bool.and_eq_true,decide_eq_true_eq]at oY;obtain⟨vs,h1,h2⟩:=eQ hB hK fuel T _ _ D _ h oY.2;obtain⟨c,r,rfl,⟨l,hl⟩,hr⟩:=h2.take;cases hr
  have hv:v.cells.toList=[v]:=by
   refine HY (λfs hu=>?_) (λn e hu=>?_)
   ·rw[hu]at oY;simp at oY
   ·rw[hu]at oY;simp at oY
  refine⟨l,?_,by simp[CC,uB,BA,TN.cast]⟩;have h0:=h1.2 0 (by simp);simp only[hv]at h0;exact VR.sub (GA hl) h0
 | _=>simp[QN]at oY
def sI(P:Program)(tn:TypeId→Option TN)(D:Nat):List TypeId→List Ty→Bool
 | [],[]=>true
 | T :: Ts,t :: ts=>QN P tn D T t&&sI P tn D Ts ts
 | _,_=>false
variable (hB:W.heap.size≤aA.base)in
include hB in
theorem zbA{tn:TypeId→Option TN}{D:Nat}(hK:RH P tn D){sp:Nat→Bool}{held:Bool}{r:Reach}{b:Nat}:∀(Ts:List TypeId) (ats:List Ty) (vs:List Value) (ds:List (DataW H)) (ps:List MemPlace),
  sI P tn D Ts ats=true→DataW.TrodAll encH P W 0 sp held Ts vs ds ps→(∀(j:Nat) t v,Ts[j]?=some t→vs[j]?=some v→Value.okWide P W r b t v)→
  vs.length=ats.length∧∃x:MA ats,DB ats (CA ats x)=some x∧(CA ats x).length=ats.length∧∀j (hj:j<(CA ats x).length),VR W nG EE (vs.getD j undef) (CA ats x)[j]
 | [],[],vs,ds,ps,_,h,_=>by
  cases vs<;>cases ds<;>simp[DataW.TrodAll]at h
  exact⟨rfl,(),rfl,rfl,λj hj=>by simp[CA]at hj⟩
 | [],_ :: _,vs,ds,ps,ht,_,_=>by simp[sI]at ht
 | _ :: _,[],vs,ds,ps,ht,_,_=>by simp[sI]at ht
 | T :: Ts,t :: ts,vs,ds,ps,ht,h,hw=>by
  simp only[sI,Bool.and_eq_true]at ht;obtain⟨v,vs',d,ds',p,q,rfl,rfl,rfl,h0,h1⟩:=ChangeShapes.trodAll_cons h;obtain⟨x0,k1,k2⟩:=ziH hB hK ht.1 h0 (hw 0 T v rfl rfl);obtain⟨e1,y,e2,e3,e4⟩:=zbA hK Ts ts vs' ds' q ht.2 h1 (λj t v h1 h2=>hw (j+1) t v h1 h2);refine⟨by simp[e1],?_⟩;cases ts with
  | nil=>
   refine⟨x0,by simpa[DB,CA]using k2,rfl,λj hj=>?_⟩;have:j=0:=by simp[CA]at hj;omega
   subst this;exact k1
  | cons d r=>
   refine⟨(x0,y),?_,by simp[CA]at e3⊢;exact e3,λj hj=>?_⟩
   ·simp only[DB,CA];rw[k2];simp only[Option.bind_some];rw[e2];rfl
   ·cases j with
    | zero=>exact k1
    | succ j=>exact e4 j (by simpa[CA]using hj)
def lA(n:Nat):List IA:=List.replicate n .plain
omit [aA]in
def OR:∀(n k:Nat) (as:List V),as.length=n→UA (lA n) k as=as∧pA (lA n) k as=λ_=>none
 | 0,k,[],_=>⟨rfl,rfl⟩
 | 0,k,_ :: _,h=>by simp at h
 | n+1,k,[],h=>by simp at h
 | n+1,k,a :: as,h=>by
  obtain⟨h1,h2⟩:=OR n (k+1) as (by simpa using h);refine⟨?_,?_⟩
  ·show a :: UA (lA n) (k+1) as=_;rw[h1]
  ·show pA (lA n) (k+1) as=_;exact h2
def zf5(hB:aA.base=W.heap.size){tn:TypeId→Option TN}{D:Nat}(hK:RH P tn D){f:Nat}{ats:List Ty}{F:MA ats→Option Bool}{n:Nat}
  {g:Gl} (hg:g.p W) (hc:nA P f ⟨lA n,MA ats,MA [.v .bool],DB ats,F,tC [.v .bool],[(false,1)],[],false⟩ g) (hn:ats.length=n) (hF:∀x,F x=some true) {Ts:List TypeId} (ht:sI P tn D Ts ats=true)
  {sp:Nat→Bool} {held:Bool} {r:Reach} {b:Nat} {args:Array Value} {ds:List (DataW H)} {ps:List MemPlace} (h:DataW.TrodAll encH P W 0 sp held Ts args.toList ds ps)
  (hw:∀(j:Nat) t v,Ts[j]?=some t→args[j]?=some v→Value.okWide P W r b t v) (XY:(callFunc f args).run P W= .ok (.enter f args) W):
  Calls P f args W λe W'=>e= .returned (.bool true)∧Below W.heap.size W W':=by
 obtain⟨h1,x,h2,h3,h4⟩:=zbA (Nat.le_of_eq hB.symm) hK Ts ats args.toList ds ps ht h (λj t v h5 h6=>hw j t v h5 (by simpa using h6));have tV:(CA ats x).length=n:=by rw[h3,hn]
 obtain⟨e1,e2⟩:=OR n 0 (CA ats x) tV;have hp:(lA n).length=n:=by simp[lA]
 have uV:∀b,bA EE nG (pA (lA n) 0 (CA ats x)) b→EE b:=by
  rintro b (h | ⟨q,row,ri,h,_⟩)
  ·exact h
  ·rw[e2]at h;cases h
 have CZ:∀h:Nat→Option gA,h=(λ_=>none)→EA W EE (Ow.of EE) nG h W:=λh he=>by
  subst he;exact⟨Wx.refl _,λ_ _ _=>rfl,λb hb=>hb.elim,λr row hr=>(by cases hr),λq q' row row' qi qi' hq=>(by cases hq),pB.zero λr t l m hr=>(by cases hr)⟩
 have G:=hc.2 W args (CA ats x) EE (Ow.of EE) nG x true 0 [] (by simp at h1;rw[hp];omega) (by rw[e1,hp,tV])
  (CZ (pA (lA n) 0 (CA ats x)) e2)
  (fun j hj=>by
   have MV:j<(CA ats x).length:=by rw[←e1];exact hj
   have h5:=h4 j MV;have h6:(UA (lA n) 0 (CA ats x))[j]=(CA ats x)[j]:=by simp only[e1]
   rw[h6];rw[Array.getD_eq_getD_getElem?];rw[List.getD_eq_getElem?_getD]at h5;rw[Array.getElem?_toList]at h5;exact h5.mono (λ_ _ h=>h) (λ_ _ _=>rfl) λb hb=> .inl (uV b hb))
  (λ_ _=>rfl) (by simp) (λb hb=>by simp at hb) h2 (hF x) (by simp[tC,NQ,enc]) ⟨hg,λ_ _ h=>h,Nat.le_of_eq hB,λ_ _ h=>h⟩
 rcases G with⟨_,G⟩ | ⟨v,w',G,_⟩
 ·refine Calls.mono' G λe w' ⟨v,he,ρ',g1,g2,_⟩=>?_;subst he;refine⟨?_,g1.wx.os,g1.wx.tape,g1.wx.output,g1.wx.size,λk hk=>g1.old k hk λh=>h⟩;have g3:VR w' ρ' (bA EE ρ' (fC ⟨lA n,MA ats,MA [.v .bool],DB ats,F,tC [.v .bool],[(false,1)],[],false⟩ (CA ats x) [] 0 (tC [.v .bool] true))) v (.bool true):=g2;cases g3;rfl
 ·rw[XY]at G;cases G
omit [aA]in
def zeh{W W':World}(hb:Below W.heap.size W W'){b off:Nat}(h:b<W.heap.size):W'.frozen? ⟨b,off,none⟩=W.frozen? ⟨b,off,none⟩:=by
 simp only[World.frozen?,hb.block b h]
omit [aA]in
def sU(hl:laidOutB P=true){W':World}(hb:Below W.heap.size W W'){sp':Nat→Bool}:∀(ts:List TypeId) (vs:List Value) (ds:List (DataW H)) (ps:List MemPlace),
  (∀t∈ts,P.readableRec t=true∧t<P.types.size)→DataW.TrodAll encH P W 0 (λ_=>true) true ts vs ds ps→(∀x∈ps,x.block<W.heap.size)→(∀x∈ps,sp' x.block=true)→DataW.TrodAll encH P W' 0 sp' true ts vs ds ps
 | [],vs,ds,ps,hr,h,vV,hs=>by
  cases vs<;>cases ds<;>simp[DataW.TrodAll]at h⊢
  exact h
 | t :: ts,vs,ds,ps,hr,h,vV,hs=>by
  obtain⟨v,vs',d,ds',p,q,rfl,rfl,rfl,h0,h1⟩:=ChangeShapes.trodAll_cons h
  refine⟨p,q,WideElems.Trod_stays hl (hr t (by simp)).1 (hr t (by simp)).2 h0 (λx hx=>hb.same (vV x (by simp[hx]))) (λx hx=>hs x (by simp[hx])),
   sU hl hb ts vs' ds' q (λt ht=>hr t (List.mem_cons_of_mem _ ht)) h1 (λx hx=>vV x (by simp[hx])) (λx hx=>hs x (by simp[hx])),rfl⟩
omit [aA]in
def zg5(hl:laidOutB P=true){f:Func}{s:ChangeSpec}{apart fresh AW again:Bool}{W':World}{args:Array Value}{ds gs:List (DataW H)}{before:List MemPlace}
  (N3:∀t∈f.params.toList,P.readableRec t=true∧t<P.types.size) (aX:s.vars=[]) (hW:DataW.Whole encH P f.params.toList s.vars apart W args.toList ds gs before) (hb:Below W.heap.size W W')
  {T:TypeId} (hT:f.resultTypes= #[T]) (sX:P.underlying T=some .bool) (rX:s.fn H (ds++gs)={results:=[.lit (.bool true)],args:=ds}):
  s.post encH P f apart fresh AW again W args (.bool true) W':=by
 obtain⟨p,q,h1,h2,rfl,h3,h4⟩:=id hW;rw[aX]at h2;have hq:gs=[]∧q=[]:=by cases gs<;>simp[DataW.TrodVars]at h2;exact⟨rfl,h2⟩
 obtain⟨rfl,rfl⟩:=hq;have vV:∀x∈p,x.block<W.heap.size:=λx hx=>hW.lt x (by simp[hx])
 have QV:∀sp:Nat→Bool,(∀x∈p,sp x.block=true)→DataW.TrodAll encH P W' 0 sp true f.params.toList args.toList (s.fn H (ds++[])).args p:=λsp hs=>by
  rw[rX];exact sU hl hb _ _ _ _ N3 h1 vV hs
 have qW:∀(b:Nat) (sp:Nat→Bool) (hd:Bool),DataW.TrodAll encH P W' b sp hd f.resultTypes.toList ((Value.bool true).resultList f.resultTypes.size) (s.fn H (ds++[])).results []:=λb sp hd=>by
  rw[rX,hT];refine⟨[],[],RowKit.shut_bool sX _,rfl,rfl⟩
 have DW:∀sp:Nat→Bool,DataW.TrodVars encH P W' sp s.vars (s.fn H (ds++[])).vars []:=λsp=>by
  rw[rX,aX];rfl
 have bW:∀x∈p,(λb=>decide (b<W.heap.size)) x.block=true:=λx hx=>by simpa using vV x hx
 refine⟨ds,[],p++[],[],p,[],hW,qW _ _ _,QV _ bW,DW _,?_,λ_=>⟨?_,_,_,([]++p)++[],⟨[]++p,[],trodAll_append (QV _ (λ_ _=>rfl)) (qW _ _ _),DW _,rfl,?_,?_⟩,?_⟩⟩
 ·refine⟨hb.os,hb.output,λi hi=>?_⟩;rw[hb.block i hi];exact(World.keptBut_refl W (λx=>x∈p++[]∧(x∈[]∨x∈p∨x∈[]))).2.2 i hi
 ·exact ok_one hT rfl (okWide_bool_mk sX _)
 ·intro c off hp;have t6:MemPlace.cell c off∈p++[]:=by simpa using hp
  have:=vV (.cell c off) (by simpa using t6);rw[zeh (b:=c) (off:=off) hb this];exact h3 c off t6
 ·intro ha;have:=h4 ha;simpa using this
 ·intro x hx _;simpa using hx
omit [aA]in
def zhq {f : Nat} {fn : Func} {body : Code} (hf : P.funcs[f]? = some fn) (hb : fn.body = some body) (PV : (fn.name == "runtime.NumGoroutine") = false) (args : Array Value) :
  (callFunc f args).run P W= .ok (.enter f args) W:=by
 have uW : ¬ fn.name = "runtime.NumGoroutine" := by simpa using PV
 simp[callFunc,program,hf,hb,uW,Sem.run]
omit [aA]in
def zhb{g:Gl}(hg:g.p W){tn:TypeId→Option TN}{D:Nat}(hK:RH P tn D){f:Nat}{fn:Func}{body:Code}{ats:List Ty}{F:MA ats→Option Bool}{n:Nat}
  {tns:TypeId→Option TN} (hc:∀m:Nat,@nA ⟨tns,m⟩ P f ⟨lA n,MA ats,MA [.v .bool],DB ats,F,tC [.v .bool],[(false,1)],[],false⟩ g) (hn:ats.length=n) (hF:∀x,F x=some true)
  (hf : P.funcs[f]? = some fn) (hb : fn.body = some body) (PV : (fn.name == "runtime.NumGoroutine") = false) (ht : sI P tn D fn.params.toList ats = true)
  (hl:laidOutB P=true) (N3:(fn.params.toList.all λt=>P.readableRec t&&Nat.blt t P.types.size)=true) {T:TypeId} (hT:fn.resultTypes= #[T]) (sX:P.underlying T=some .bool)
  {s:ChangeSpec} (aX:s.vars=[]) {apart fresh AW again:Bool} {args:Array Value} {ds gs:List (DataW H)} {before:List MemPlace} {r:Reach} {b:Nat}
  (hW:DataW.Whole encH P fn.params.toList s.vars apart W args.toList ds gs before) (rX:gs=[]→s.fn H (ds++gs)={results:=[.lit (.bool true)],args:=ds})
  (pW:∀(j:Nat) t v,fn.params[j]?=some t→args[j]?=some v→Value.okWide P W r b t v):
  Calls P f args W λe W'=>∃v,e= .returned v∧s.post encH P fn apart fresh AW again W args v W':=by
 obtain⟨p,q,h1,h2,h3⟩:=id hW
 have hgs:gs=[]:=by
  rw[aX]at h2;cases gs
  ·rfl
  ·simp[DataW.TrodVars]at h2
 letI:aA:=⟨tns,W.heap.size⟩
 refine Calls.mono' (zf5 rfl hK hg (hc W.heap.size) hn hF ht h1 (λj t v h5 h6=>pW j t v (by simpa using h5) h6) (zhq hf hb PV args)) λe W' ⟨he,hb⟩=>⟨_,he,zg5 hl (λt ht=>?_) aX hW hb hT sX (rX hgs)⟩;have:=List.all_eq_true.1 N3 t ht;simpa using this
omit [aA]in
def zhZ{tn:TypeId→Option TN}{D:Nat}(hK:RH P tn D){f:Nat}{fn:Func}{body:Code}{ats:List Ty}{F:MA ats→Option Bool}{n:Nat}
  {tns:TypeId→Option TN} (hc:∀m:Nat,@nA ⟨tns,m⟩ P f ⟨lA n,MA ats,MA [.v .bool],DB ats,F,tC [.v .bool],[(false,1)],[],false⟩ IB) (hn:ats.length=n) (hF:∀x,F x=some true)
  (hf : P.funcs[f]? = some fn) (hb : fn.body = some body) (PV : (fn.name == "runtime.NumGoroutine") = false) (ht : sI P tn D fn.params.toList ats = true)
  (hl:laidOutB P=true) (N3:(fn.params.toList.all λt=>P.readableRec t&&Nat.blt t P.types.size)=true) {T:TypeId} (hT:fn.resultTypes= #[T]) (sX:P.underlying T=some .bool)
  {s:ChangeSpec} (aX:s.vars=[]) {apart fresh AW again:Bool} {args:Array Value} {ds gs:List (DataW H)} {before:List MemPlace} {r:Reach} {b:Nat}
  (hW:DataW.Whole encH P fn.params.toList s.vars apart W args.toList ds gs before) (rX:gs=[]→s.fn H (ds++gs)={results:=[.lit (.bool true)],args:=ds})
  (pW:∀(j:Nat) t v,fn.params[j]?=some t→args[j]?=some v→Value.okWide P W r b t v):
  Calls P f args W λe W'=>∃v,e= .returned v∧s.post encH P fn apart fresh AW again W args v W':=
 zhb (g:=IB) trivial hK hc hn hF hf hb PV ht hl N3 hT sX aX hW rX pW
end
end Go.D

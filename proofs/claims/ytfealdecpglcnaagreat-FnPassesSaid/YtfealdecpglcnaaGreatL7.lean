/-
 A body's end: what the function gives.
-/
import Derived.Test.YtfealdecpglcnaaGreatL6
import Derived.Test.YtfealdecpglcnaaGreatL5
import Derived.Carry
import Derived.WideKeyArgs
import Derived.ChangeSame
set_option linter.all false
namespace Go.D
variable [jA]
omit [jA]in
def SB.app{a b c d:List V}(h:SB a b)(k:SB c d):SB (a++c) (b++d):=by
 induction h with
 | nil=>exact k
 | cons h1 _ ih=>exact .cons h1 ih
omit [jA]in
def zii(t:Ty)(vs:List V)(x:t.T×List V)(h:tH t vs=some x):∃us,vs=us++x.2∧SB us (zdm t x.1):=by
 cases t with
 | v t=>
  simp only[tH]at h;obtain⟨a,h1,h2⟩:=Option.bind_eq_some_iff.1 h;cases h2;exact⟨_,(List.take_append_drop _ _).symm,AF t h1⟩
 | cells t=>
  simp only[tH]at h;obtain⟨a,h1,h2⟩:=Option.bind_eq_some_iff.1 h;cases h2;exact⟨_,(List.take_append_drop _ _).symm,AF t h1⟩
 | sl t=>
  cases vs with
  | nil=>simp[tH]at h
  | cons v vs=>
   simp only[tH]at h;obtain⟨a,h1,h2⟩:=Option.bind_eq_some_iff.1 h;cases h2;exact⟨[v],rfl, .cons (ZA h1) .nil⟩
 | raw=>
  cases vs with
  | nil=>simp[tH]at h
  | cons v vs=>simp only[tH,Option.some.injEq]at h;subst h;exact⟨[v],rfl, .cons (.refl _) .nil⟩
 | pt=>simp[tH]at h
 | c1=>simp[tH]at h
 | p1=>simp[tH]at h
 | c2=>simp[tH]at h
omit [jA]in
def zeR:∀(ts:List Ty) (vs:List V) (x:iB ts),VI ts vs=some x→SB vs (qE ts x)
 | [],[],x,h=> .nil
 | [],_ :: _,x,h=>by simp[VI]at h
 | [t],vs,x,h=>by
  simp only[VI]at h;obtain⟨y,h1,h2⟩:=Option.bind_eq_some_iff.1 h;obtain⟨us,h3,h4⟩:=zii t vs y h1;split at h2
  ·rename_i h5;cases h2;rw[h5,List.append_nil]at h3;subst h3;exact h4
  ·cases h2
 | t :: d :: r,vs,x,h=>by
  simp only[VI]at h;obtain⟨y,h1,h2⟩:=Option.bind_eq_some_iff.1 h;obtain⟨z,h3,h4⟩:=Option.bind_eq_some_iff.1 h2;cases h4;obtain⟨us,h5,h6⟩:=zii t vs y h1;rw[h5];exact h6.app (zeR (d :: r) _ z h3)
section
variable {C:Cx} {w0:World} {outer own D:Nat→Prop} {R:Type} {st st1 st2:St} {ρ ρ1 ρ2:Nat→Option RI} {a a1 a2:Act} {w w1 w2:World} {j:JI}
omit [jA]in
def zjR(an:An):∀c:Code,fI an (λ_=>True) c:=by
 have jd:∀o,JD (λ_=>True) o:=λo=>by cases o<;>simp[JD]
 intro c;induction c with
 | region id ops d=>exact⟨λ_ _ _ _=>trivial,jd _⟩
 | seq x y hx hy=>exact⟨hx,hy⟩
 | cond c x y hx hy=>cases c<;>first | exact⟨hx,hy,jd _⟩ | exact⟨hx,hy⟩
 | block id x hx=>exact⟨hx,jd _⟩
 | loop x hx=>
  refine⟨hx,?_⟩;split
  ·exact jd _
  ·trivial
 | scope x hx=>exact hx
 | _=>trivial
omit [jA]in
def zbq(ow:List Nat)(B:Nat)(e:V)(es:List V)(p q:Nat)(h:q≠p):aB ow B (λ_=>none) p (e :: es) (B+q)=aB ow B (λ_=>none) (p+1) es (B+q):=by
 cases e<;>simp only[aB]
 cases hb:ow.any (Nat.beq p)
 ·rfl
 ·simp only[cond_true];rw[AA _ _ _ _ (by omega)]
omit [jA]in
def zce(ow:List Nat)(B:Nat):∀(cs es:List V) (p q:Nat) (row:tA),SB cs es→aB ow B (λ_=>none) p es (B+q)=some row→
  aB ow B (λ_=>none) p cs (B+q)=some row∨(aB ow B (λ_=>none) p cs (B+q)=none∧∃t,row=⟨.arr t [], .own⟩)
 | [],_,p,q,row,hs,h=>by cases hs;simp[aB]at h
 | c :: cs,_,p,q,row,hs,h=>by
  cases hs with
  | cons uY zX=>
  rename_i e es
  by_cases hq:q=p
  ·subst hq;cases uY with
   | refl=>
    have hn:∀l:List V,aB ow B (λ_=>none) (q+1) l (B+q)=none:=λl=>QC _ _ _ _ _ (by omega);left;cases c<;>simp only[aB]at h⊢ <;>try (rw[hn]at h;cases h)
    cases hb:ow.any (Nat.beq q)
    ·simp only[hb,cond_false]at h;rw[hn]at h;cases h
    ·simp only[hb,cond_true,RA]at h⊢;exact h
   | byte n=>simp only[aB]at h;rw[QC _ _ _ _ _ (by omega)]at h;cases h
   | nil t=>
    right;simp only[aB]at h⊢;refine⟨QC _ _ _ _ _ (by omega),?_⟩;cases hb:ow.any (Nat.beq q)
    ·simp only[hb,cond_false]at h;rw[QC _ _ _ _ _ (by omega)]at h;cases h
    ·simp only[hb,cond_true,RA]at h;cases h;exact⟨t,rfl⟩
  ·rw[zbq _ _ _ _ _ _ hq]at h⊢;exact zce ow B cs es (p+1) q row zX h
def zca(ow:List Nat)(B:Nat){bad bad2:Nat→Prop}{ρ2:Nat→Option RI}(hk:∀u d,VR w ρ bad u d→VR w ρ2 bad2 u d):∀(cs es:List V) (p:Nat) (u:Nat→Value),SB cs es→
  (∀q t,p≤q→aB ow B (λ_=>none) p cs (B+q)=none→aB ow B (λ_=>none) p es (B+q)=some ⟨.arr t [], .own⟩→ρ2 (B+q)=some ⟨0,0,0,true⟩)→
  (∀j (hj:j<(SA ow B p cs).length),VR w ρ bad (u j) (SA ow B p cs)[j])→∀j (hj:j<(SA ow B p es).length),VR w ρ2 bad2 (u j) (SA ow B p es)[j]
 | [],_,p,u,hs,hn,hv,j,hj=>by cases hs;simp[SA]at hj
 | c :: cs,_,p,u,hs,hn,hv,j,hj=>by
  cases hs with
  | cons uY zX=>
  rename_i e es;have hd:∀(c:V) (cs:List V),∃c',SA ow B p (c :: cs)=c' :: SA ow B (p+1) cs:=λc cs=>by cases c<;>exact⟨_,rfl⟩
  obtain⟨c',uZ⟩:=hd c cs;obtain⟨e',tX⟩:=hd e es
  have U1:∀j (hj:j<(c' :: SA ow B (p+1) cs).length),VR w ρ bad (u j) (c' :: SA ow B (p+1) cs)[j]:=λj hj=>by
   have:=hv j (by rw[uZ];exact hj);simpa only[uZ]using this
  have ih:=zca ow B hk cs es (p+1) (λj=>u (j+1)) zX (λq t h1 h2 h3=>hn q t (by omega) (by rw[zbq _ _ _ _ _ _ (by omega)];exact h2) (by rw[zbq _ _ _ _ _ _ (by omega)];exact h3))
   (λj hj=>by have:=U1 (j+1) (by simp;omega);simpa using this)
  have cX:=U1 0 (by simp);simp only[List.getElem_cons_zero]at cX
  have goal0:VR w ρ2 bad2 (u 0) e':=by
   cases uY with
   | refl=>
    have:e'=c':=by
     have h1:=congrArg List.head? uZ;have h2:=congrArg List.head? tX;cases c<;>simp[SA]at h1 h2<;>rw[←h1, ←h2]
    rw[this];exact hk _ _ cX
   | byte n=>
    have h1:=congrArg List.head? uZ;have h2:=congrArg List.head? tX;simp only[SA,List.head?_cons,Option.some.injEq]at h1 h2;subst h1;subst h2;exact hk _ _ (VR.sub (.byte n) cX)
   | nil t=>
    have h1:=congrArg List.head? uZ;have h2:=congrArg List.head? tX;simp only[SA,List.head?_cons,Option.some.injEq]at h1 h2;subst h1;have UZ:u 0= .slice none 0 0:=by generalize u 0=x at cX;cases cX;rfl
    cases hb:ow.any (Nat.beq p)
    ·simp only[hb,cond_false]at h2;subst h2;rw[UZ];exact .slE _ _ _ (Nat.zero_le _)
    ·simp only[hb,cond_true]at h2;subst h2;rw[UZ];refine .owN _ ⟨0,0,0,true⟩ none (hn p t (Nat.le_refl _) ?_ ?_) rfl rfl
     ·simp only[aB];exact QC _ _ _ _ _ (by omega)
     ·simp only[aB,hb,cond_true,RA]
  cases j with
  | zero=>simp only[tX,List.getElem_cons_zero];exact goal0
  | succ j=>simp only[tX,List.getElem_cons_succ];exact ih j (by rw[tX]at hj;simpa using hj)
omit [jA]in
def zi5{t:Ty}{ats:List Ty}{as:List V}{x:iB (t :: ats)}(hd:rD (t :: ats) as=some x):
  ∃v vs y,as=v :: vs∧∃(x0:t.T),jE t v=some x0∧rD ats vs=some y∧cB (t :: ats) x=EC t x0 :: cB ats y:=by
 cases ats with
 | nil=>
  cases as with
  | nil=>simp[rD]at hd
  | cons v vs=>
   cases vs with
   | nil=>exact⟨v,[],(),rfl,x,by simpa[rD]using hd,rfl,rfl⟩
   | cons=>simp[rD]at hd
 | cons d r=>
  cases as with
  | nil=>simp[rD]at hd
  | cons v vs=>
   simp only[rD]at hd;obtain⟨x0,h1,h2⟩:=Option.bind_eq_some_iff.1 hd;obtain⟨y,h3,h4⟩:=Option.bind_eq_some_iff.1 h2;cases h4;exact⟨v,vs,y,rfl,x0,h1,h3,rfl⟩
omit [jA]in
def HE:∀(ks:List nB) (k:Nat) (as:List V) (q:Nat) (row:tA),BA ks k as q=some row→128 *k≤q
  | [],k,as,q,row,h=>by cases as<;>simp[BA]at h
  | .plain :: ks,k,[],q,row,h=>by simp[BA]at h
  | .plain :: ks,k,a :: as,q,row,h=>by
   have:=HE ks (k+1) as q row (by simpa only[BA]using h);omega
  | .mv ow :: ks,k,[],q,row,h=>by simp[BA]at h
  | .mv ow :: ks,k,a :: as,q,row,h=>by
   cases a<;>simp only[BA]at h<;>try (cases h;done)
   rw[AB]at h;split at h
   ·rename_i x hx;obtain⟨_,_,_,h1,_⟩:=PD _ _ _ _ _ _ hx;omega
   ·have:=HE ks (k+1) as q row h;omega
  | .ms :: ks,k,[],q,row,h=>by simp[BA]at h
  | .ms :: ks,k,a :: as,q,row,h=>by
   simp only[BA]at h;rw[AB]at h;split at h
   ·rename_i x hx;obtain⟨_,_,_,h1,_⟩:=PD _ _ _ _ _ _ hx;omega
   ·have:=HE ks (k+1) as q row h;omega
  | .ptr ow :: ks,k,[],q,row,h=>by simp[BA]at h
  | .ptr ow :: ks,k,a :: as,q,row,h=>by
   cases a<;>simp only[BA]at h<;>try (cases h;done)
   by_cases hq:q=128 *k+127
   ·omega
   ·rw[AA _ _ _ _ hq,AB]at h;split at h
    ·rename_i x hx;obtain⟨_,_,_,h1,_⟩:=PD _ _ _ _ _ _ hx;omega
    ·have:=HE ks (k+1) as q row h;omega
def zkO{bad bad2:Nat→Prop}{ρ2:Nat→Option RI}(AX:∀u d,VR w ρ bad u d→VR w ρ2 bad2 u d):∀(ks:List nB) (ats:List Ty) (as:List V) (x:iB ats) (k:Nat) (u:Nat→Value),bC ks ats=true→rD ats as=some x→
  (∀q t,BA ks k as q=none→BA ks k (cB ats x) q=some ⟨.arr t [], .own⟩→ρ2 q=some ⟨0,0,0,true⟩)→
  (∀j (hj:j<(tB ks k as).length),VR w ρ bad (u j) (tB ks k as)[j])→
  (tB ks k (cB ats x)).length=(tB ks k as).length∧∀j (hj:j<(tB ks k (cB ats x)).length),VR w ρ2 bad2 (u j) (tB ks k (cB ats x))[j]:=by
 intro ks;induction ks with
 | nil=>
  intro ats as x k u hk hd hn hv;cases ats with
  | nil=>cases as with
   | nil=>exact⟨rfl,λj hj=>by simp[tB]at hj⟩
   | cons=>simp[rD]at hd
  | cons=>simp[bC]at hk
 | cons q ks ih=>
  intro ats as x k u hk hd hn hv;cases ats with
  | nil=>cases q<;>simp[bC]at hk
  | cons t ats=>
   obtain⟨v,vs,y,rfl,x0,h1,h3,h4⟩:=zi5 hd;rw[h4]at hn⊢;cases q with
   | plain=>
    simp only[bC]at hk;obtain⟨e1,e2⟩:=ih ats vs y (k+1) (λj=>u (j+1)) hk h3 (λq t a b=>hn q t a b) (λj hj=>hv (j+1) (by simp[tB];omega));refine⟨by simp[tB,e1],λj hj=>?_⟩;cases j with
    | zero=>exact AX _ _ (zky t v x0 h1 (hv 0 (by simp[tB])))
    | succ j=>exact e2 j (by simpa[tB]using hj)
   | ptr ow=>
    cases t with
    | cells t=>
     simp only[bC,Bool.and_eq_true]at hk;have YV:=Nat.le_of_ble_eq_true hk.1;simp only[jE]at h1;split at h1
     case h_2=>cases h1
     rename_i cs;have sW:(enc t x0).length=sz t:=mD t x0;have Z2:cs.length=sz t:=by rw[(AF t h1).len,sW]
     obtain⟨e1,e2⟩:=ih ats vs y (k+1) (λj=>u (j+1)) hk.2 h3 (λq t' a b=>by
      have HX:=HE ks (k+1) _ q _ b;refine hn q t' ?_ ?_
      ·simp only[BA];rw[AA _ _ _ _ (by omega),AB,QC _ _ _ _ _ (by omega)];exact a
      ·simp only[BA,EC];rw[AA _ _ _ _ (by omega),AB,QC _ _ _ _ _ (by omega)];exact b) (λj hj=>hv (j+1) (by simp[tB];omega))
     refine⟨by simp[tB,e1],λj hj=>?_⟩;cases j with
     | zero=>exact AX _ _ (hv 0 (by simp[tB]))
     | succ j=>exact e2 j (by simpa[tB]using hj)
    | _=>simp[bC]at hk
   | mv ow=>
    cases t with
    | v t=>
     simp only[bC,Bool.and_eq_true]at hk;obtain⟨⟨yW,YV⟩,hk⟩:=hk;have YV:=Nat.le_of_ble_eq_true YV;simp only[jE]at h1;split at h1
     case h_2=>simp[yW]at h1
     rename_i cs;simp only[yW,cond_true]at h1;have oW:=AF t h1;have sW:(enc t x0).length=sz t:=mD t x0;have Z2:cs.length=sz t:=by rw[oW.len,sW]
     have C2:EC (.v t) x0= .agg (enc t x0):=by simp only[EC,jK,yW,cond_true]
     rw[C2]at hn⊢
     obtain⟨e1,e2⟩:=ih ats vs y (k+1) (λj=>u (j+1)) hk h3 (λq t' a b=>by
      have HX:=HE ks (k+1) _ q _ b;refine hn q t' ?_ ?_
      ·simp only[BA];rw[AB,QC _ _ _ _ _ (by omega)];exact a
      ·simp only[BA];rw[AB,QC _ _ _ _ _ (by omega)];exact b) (λj hj=>hv (j+1) (by simp[tB];omega))
     refine⟨by simp[tB,e1],λj hj=>?_⟩;cases j with
     | zero=>
      have cX:=hv 0 (by simp[tB]);simp only[tB,List.getElem_cons_zero]at cX⊢;generalize u 0=u0 at cX;cases cX with
      | agg _ vsA hs CX=>
      rw[wE]at hs;refine .agg _ vsA (by rw[wE,hs,sW,Z2]) ?_;refine zca ow (128 *k) AX cs (enc t x0) 0 (λj=>vsA.getD j undef) oW (λp t' _ h5 h6=>?_) CX;obtain⟨_,_,_,e3,e4⟩:=PD _ _ _ _ _ _ h6;refine hn _ t' ?_ ?_
      ·simp only[BA];rw[AB,h5];show BA ks (k+1) vs (128 *k+p)=none
       cases hr:BA ks (k+1) vs (128 *k+p)with
       | none=>rfl
       | some z=>have:=HE ks (k+1) vs _ z hr;omega
      ·simp only[BA];rw[AB,h6]
     | succ j=>exact e2 j (by simpa[tB]using hj)
    | _=>simp[bC]at hk
   | ms=>
    cases t with
    | sl t=>
     simp only[bC]at hk;have oW:SB [v] [.sl t x0]:= .cons (ZA h1) .nil
     obtain⟨e1,e2⟩:=ih ats vs y (k+1) (λj=>u (j+1)) hk h3 (λq t' a b=>by
      have HX:=HE ks (k+1) _ q _ b;refine hn q t' ?_ ?_
      ·simp only[BA];rw[AB,QC _ _ _ _ _ (by simp;omega)];exact a
      ·simp only[BA];rw[AB,QC _ _ _ _ _ (by simp;omega)];exact b) (λj hj=>hv (j+1) (by simp[tB];omega))
     refine⟨by simp[tB,e1],λj hj=>?_⟩;cases j with
     | zero=>
      have cX:=hv 0 (by simp[tB]);simp only[tB,List.getElem_cons_zero]at cX⊢
      have:=zca [0] (128 *k) AX [v] [.sl t x0] 0 (λ_=>u 0) oW (λp t' _ h5 h6=>by
       obtain⟨_,_,_,e3,e4⟩:=PD _ _ _ _ _ _ h6;simp only[List.length_singleton]at e4;refine hn _ t' ?_ ?_
       ·simp only[BA];rw[AB,h5];show BA ks (k+1) vs (128 *k+p)=none
        cases hr:BA ks (k+1) vs (128 *k+p)with
        | none=>rfl
        | some z=>have:=HE ks (k+1) vs _ z hr;omega
       ·simp only[BA,EC];rw[AB,h6]) (λj hj=>by
       have X1:j=0:=by simpa[wE]using hj
       subst X1;simpa only[IU,List.getElem_cons_zero]using cX) 0 (by rw[wE];simp)
      simpa only[IU,List.getElem_cons_zero,EC]using this
     | succ j=>exact e2 j (by simpa[tB]using hj)
    | _=>simp[bC]at hk
omit [jA]in
def zuB:∀(ks:List nB) (ats:List Ty) (as:List V) (x:iB ats) (k:Nat),bC ks ats=true→rD ats as=some x→
  (∀q row,BA ks k as q=some row→q<128 *(k+ks.length))∧
  ∀q row',BA ks k (cB ats x) q=some row'→q<128 *(k+ks.length)∧(BA ks k as q=some row'∨(BA ks k as q=none∧∃t,row'=⟨.arr t [], .own⟩)∨
   ∃ow B cs es,BA ks k as q=some ⟨.box (SA ow B 0 cs), .own⟩∧row'=⟨.box (SA ow B 0 es), .own⟩∧SB cs es∧
    ∀p t,aB ow B (λ_=>none) 0 cs (B+p)=none→aB ow B (λ_=>none) 0 es (B+p)=some ⟨.arr t [], .own⟩→BA ks k as (B+p)=none∧BA ks k (cB ats x) (B+p)=some ⟨.arr t [], .own⟩):=by
 intro ks;induction ks with
 | nil=>
  intro ats as x k hk hd;refine⟨λq row h=>by cases as<;>simp[BA]at h,λq row' h=>?_⟩;cases ats with
  | nil=>simp[BA]at h
  | cons=>simp[bC]at hk
 | cons g ks ih=>
  intro ats as x k hk hd;cases ats with
  | nil=>cases g<;>simp[bC]at hk
  | cons t ats=>
   obtain⟨v,vs,y,rfl,x0,h1,h3,h4⟩:=zi5 hd;rw[h4];cases g with
   | plain=>
    simp only[bC]at hk;obtain⟨i1,i2⟩:=ih ats vs y (k+1) hk h3;refine⟨λq row h=>?_,λq row' h=>?_⟩
    ·simp only[BA]at h;have:=i1 q row h;simp only[List.length_cons];omega
    ·simp only[BA]at h⊢;obtain⟨j1,j2⟩:=i2 q row' h;exact⟨by simp only[List.length_cons];omega,j2⟩
   | ptr ow=>
    cases t with
    | cells t=>
     simp only[bC,Bool.and_eq_true]at hk;obtain⟨YV,hk⟩:=hk;have YV:=Nat.le_of_ble_eq_true YV;simp only[jE]at h1;split at h1
     case h_2=>cases h1
     rename_i cs;obtain⟨i1,i2⟩:=ih ats vs y (k+1) hk h3;have oW:=AF t h1;have sW:(enc t x0).length=sz t:=mD t x0;have Z2:cs.length=sz t:=by rw[oW.len,sW]
     refine⟨λq row h=>?_,λq row' h=>?_⟩
     ·simp only[List.length_cons];simp only[BA]at h
      by_cases hq:q=128 *k+127
      ·omega
      ·rw[AA _ _ _ _ hq,AB]at h;split at h
       ·rename_i z hz;obtain⟨_,_,_,e1,e2⟩:=PD _ _ _ _ _ _ hz;omega
       ·have:=i1 q row h;omega
     ·simp only[List.length_cons];simp only[EC,BA]at h
      by_cases hq:q=128 *k+127
      ·subst hq;rw[RA]at h;cases h;refine⟨by omega, .inr (.inr ⟨ow,128 *k,cs,enc t x0,by simp only[BA];exact RA _ _ _,rfl,oW,λp t' e1 e2=>?_⟩)⟩;obtain⟨_,_,_,e3,e4⟩:=PD _ _ _ _ _ _ e2;have yY:128 *k+p≠128 *k+127:=by omega
       simp only[BA,EC];rw[AA _ _ _ _ yY,AA _ _ _ _ yY,AB,AB ow (128 *k) (BA ks (k+1) (cB ats y)),e1,e2];refine⟨?_,rfl⟩;cases hr:BA ks (k+1) vs (128 *k+p)with
       | none=>rfl
       | some z=>have:=HE ks (k+1) vs _ z hr;omega
      ·rw[AA _ _ _ _ hq,AB]at h;split at h
       ·rename_i z hz;cases h;obtain⟨_,_,_,e1,e2⟩:=PD _ _ _ _ _ _ hz;refine⟨by omega,?_⟩;have sY:=hz;rw[show q=128 *k+(q - 128 *k) by omega]at sY
        rcases zce ow (128 *k) cs (enc t x0) 0 _ _ oW sY with h5 | ⟨h5,h6⟩<;>rw[show 128 *k+(q - 128 *k)=q by omega]at h5
        ·left;simp only[BA];rw[AA _ _ _ _ hq,AB,h5]
        ·right;left;refine⟨?_,h6⟩;simp only[BA];rw[AA _ _ _ _ hq,AB,h5];show BA ks (k+1) vs q=none
         cases hr:BA ks (k+1) vs q with
         | none=>rfl
         | some z=>have:=HE ks (k+1) vs _ z hr;omega
       ·rename_i hz;obtain⟨j1,j2⟩:=i2 q row' h;have HX:=HE ks (k+1) _ q row' h
        have lift:∀q',128 *(k+1)≤q'→BA (.ptr ow :: ks) k (.agg cs :: vs) q'=BA ks (k+1) vs q'∧BA (.ptr ow :: ks) k (.agg (enc t x0) :: cB ats y) q'=BA ks (k+1) (cB ats y) q':=λq' YX=>by
         simp only[BA];rw[AA _ _ _ _ (by omega),AA _ _ _ _ (by omega),AB,AB ow (128 *k) (BA ks (k+1) (cB ats y)),QC _ _ _ _ _ (by omega),QC _ _ _ _ _ (by omega)];exact⟨rfl,rfl⟩
        obtain⟨l1,l2⟩:=lift q (by omega);refine⟨by omega,?_⟩;rw[l1]
        rcases j2 with j2 | j2 | ⟨ow',B,cs',es',j2,j3,j4,j5⟩
        ·exact .inl j2
        ·exact .inr (.inl j2)
        ·refine .inr (.inr ⟨ow',B,cs',es',j2,j3,j4,λp t' e1 e2=>?_⟩);obtain⟨j6,j7⟩:=j5 p t' e1 e2;have:=HE ks (k+1) _ _ _ j7;obtain⟨l3,l4⟩:=lift (B+p) (by omega);show BA (.ptr ow :: ks) k (.agg cs :: vs) (B+p)=none∧BA (.ptr ow :: ks) k (.agg (enc t x0) :: cB ats y) (B+p)=_
         rw[l3,l4];exact⟨j6,j7⟩
    | _=>simp[bC]at hk
   | mv ow=>
    cases t with
    | v t=>
     simp only[bC,Bool.and_eq_true]at hk;obtain⟨⟨yW,YV⟩,hk⟩:=hk;have YV:=Nat.le_of_ble_eq_true YV;simp only[jE]at h1;split at h1
     case h_2=>simp[yW]at h1
     rename_i cs;simp only[yW,cond_true]at h1;obtain⟨i1,i2⟩:=ih ats vs y (k+1) hk h3;have oW:=AF t h1;have sW:(enc t x0).length=sz t:=mD t x0;have Z2:cs.length=sz t:=by rw[oW.len,sW]
     have C2:EC (.v t) x0= .agg (enc t x0):=by simp only[EC,jK,yW,cond_true]
     rw[C2];refine⟨λq row h=>?_,λq row' h=>?_⟩
     ·simp only[List.length_cons];simp only[BA]at h;rw[AB]at h;split at h
      ·rename_i z hz;obtain⟨_,_,_,e1,e2⟩:=PD _ _ _ _ _ _ hz;omega
      ·have:=i1 q row h;omega
     ·simp only[List.length_cons];simp only[BA]at h;rw[AB]at h;split at h
      ·rename_i z hz;cases h;obtain⟨_,_,_,e1,e2⟩:=PD _ _ _ _ _ _ hz;refine⟨by omega,?_⟩;have sY:=hz;rw[show q=128 *k+(q - 128 *k) by omega]at sY
       rcases zce ow (128 *k) cs (enc t x0) 0 _ _ oW sY with h5 | ⟨h5,h6⟩<;>rw[show 128 *k+(q - 128 *k)=q by omega]at h5
       ·left;simp only[BA];rw[AB,h5]
       ·right;left;refine⟨?_,h6⟩;simp only[BA];rw[AB,h5];show BA ks (k+1) vs q=none
        cases hr:BA ks (k+1) vs q with
        | none=>rfl
        | some z=>have:=HE ks (k+1) vs _ z hr;omega
      ·rename_i hz;obtain⟨j1,j2⟩:=i2 q row' h;have HX:=HE ks (k+1) _ q row' h
       have lift:∀q',128 *(k+1)≤q'→BA (.mv ow :: ks) k (.agg cs :: vs) q'=BA ks (k+1) vs q'∧BA (.mv ow :: ks) k (.agg (enc t x0) :: cB ats y) q'=BA ks (k+1) (cB ats y) q':=λq' YX=>by
        simp only[BA];rw[AB,AB ow (128 *k) (BA ks (k+1) (cB ats y)),QC _ _ _ _ _ (by omega),QC _ _ _ _ _ (by omega)];exact⟨rfl,rfl⟩
       obtain⟨l1,l2⟩:=lift q (by omega);refine⟨by omega,?_⟩;rw[l1]
       rcases j2 with j2 | j2 | ⟨ow',B,cs',es',j2,j3,j4,j5⟩
       ·exact .inl j2
       ·exact .inr (.inl j2)
       ·refine .inr (.inr ⟨ow',B,cs',es',j2,j3,j4,λp t' e1 e2=>?_⟩);obtain⟨j6,j7⟩:=j5 p t' e1 e2;have:=HE ks (k+1) _ _ _ j7;obtain⟨l3,l4⟩:=lift (B+p) (by omega);rw[l3,l4];exact⟨j6,j7⟩
    | _=>simp[bC]at hk
   | ms=>
    cases t with
    | sl t=>
     simp only[bC]at hk;obtain⟨i1,i2⟩:=ih ats vs y (k+1) hk h3;have oW:SB [v] [.sl t x0]:= .cons (ZA h1) .nil;have C2:EC (.sl t) x0= .sl t x0:=rfl;rw[C2];refine⟨λq row h=>?_,λq row' h=>?_⟩
     ·simp only[List.length_cons];simp only[BA]at h;rw[AB]at h;split at h
      ·rename_i z hz;obtain⟨_,_,_,e1,e2⟩:=PD _ _ _ _ _ _ hz;simp only[List.length_singleton]at e2;omega
      ·have:=i1 q row h;omega
     ·simp only[List.length_cons];simp only[BA]at h;rw[AB]at h;split at h
      ·rename_i z hz;cases h;obtain⟨_,_,_,e1,e2⟩:=PD _ _ _ _ _ _ hz;simp only[List.length_singleton]at e2;refine⟨by omega,?_⟩;have sY:=hz;rw[show q=128 *k+(q - 128 *k) by omega]at sY
       rcases zce [0] (128 *k) [v] [.sl t x0] 0 _ _ oW sY with h5 | ⟨h5,h6⟩<;>rw[show 128 *k+(q - 128 *k)=q by omega]at h5
       ·left;simp only[BA];rw[AB,h5]
       ·right;left;refine⟨?_,h6⟩;simp only[BA];rw[AB,h5];show BA ks (k+1) vs q=none
        cases hr:BA ks (k+1) vs q with
        | none=>rfl
        | some z=>have:=HE ks (k+1) vs _ z hr;omega
      ·rename_i hz;obtain⟨j1,j2⟩:=i2 q row' h;have HX:=HE ks (k+1) _ q row' h
       have lift:∀q',128 *(k+1)≤q'→BA (.ms :: ks) k (v :: vs) q'=BA ks (k+1) vs q'∧BA (.ms :: ks) k (.sl t x0 :: cB ats y) q'=BA ks (k+1) (cB ats y) q':=λq' YX=>by
        simp only[BA];rw[AB,AB [0] (128 *k) (BA ks (k+1) (cB ats y)),QC _ _ _ _ _ (by simp;omega),QC _ _ _ _ _ (by simp;omega)];exact⟨rfl,rfl⟩
       obtain⟨l1,l2⟩:=lift q (by omega);refine⟨by omega,?_⟩;rw[l1]
       rcases j2 with j2 | j2 | ⟨ow',B,cs',es',j2,j3,j4,j5⟩
       ·exact .inl j2
       ·exact .inr (.inl j2)
       ·refine .inr (.inr ⟨ow',B,cs',es',j2,j3,j4,λp t' e1 e2=>?_⟩);obtain⟨j6,j7⟩:=j5 p t' e1 e2;have:=HE ks (k+1) _ _ _ j7;obtain⟨l3,l4⟩:=lift (B+p) (by omega);rw[l3,l4];exact⟨j6,j7⟩
    | _=>simp[bC]at hk
def zks{ks:List nB}{ats:List Ty}{as:List V}{x:iB ats}(kY:bC ks ats=true)(hd:rD ats as=some x)(hh:sB w0 outer own ρ (BA ks 0 as) w)(IW:∀q,BA ks 0 as q=none→ρ q=none):
  ∃ρ2,sB w0 outer own ρ2 (BA ks 0 (cB ats x)) w∧(∀u d,VR w ρ (sA outer ρ (BA ks 0 as)) u d→VR w ρ2 (sA outer ρ2 (BA ks 0 (cB ats x))) u d)∧
   (∀q ri,ρ q=some ri→ρ2 q=some ri)∧(∀q,128 *ks.length≤q→ρ2 q=none)∧∀q row,BA ks 0 as q=none→BA ks 0 (cB ats x) q=some row→ρ2 q=some ⟨0,0,0,true⟩:=by
 have hEE:∀q row,BA ks 0 as q=none→BA ks 0 (cB ats x) q=some row→ρ q=none:=λq _ h _=>IW q h;obtain⟨r1,r2⟩:=zuB ks ats as x 0 kY hd;generalize hE:BA ks 0 as=h at *;generalize hE2:BA ks 0 (cB ats x)=h2 at *
 let ρ2:Nat→Option RI:=λq=>match ρ q with
  | some ri=>some ri
  | none=>if(h2 q).isSome=true then some ⟨0,0,0,true⟩else none
 have e1:∀q ri,ρ q=some ri→ρ2 q=some ri:=λq ri hq=>by simp only[ρ2,hq]
 have e2:∀q row,ρ q=none→h2 q=some row→ρ2 q=some ⟨0,0,0,true⟩:=λq row hq hr=>by simp only[ρ2,hq,hr];rfl
 have e3:∀q,ρ q=none→h2 q=none→ρ2 q=none:=λq hq hr=>by simp only[ρ2,hq,hr];rfl
 have jW:∀b,sA outer ρ2 h2 b→sA outer ρ h b:=by
  rintro b (hb | ⟨q,row,ri,f1,f2,f3,f4,f5⟩)
  ·exact .inl hb
  ·rcases(r2 q row f1).2 with g | ⟨g,_⟩ | ⟨ow,B,cs,es,g,_⟩
   ·obtain⟨ri',k1,_⟩:=hh.rows q _ g;rw[e1 _ _ k1]at f3;cases f3;exact .inr ⟨q,row,_,g,f2,k1,f4,f5⟩
   ·rw[e2 q row (IW q g) f1]at f3;cases f3;cases f4
   ·obtain⟨ri',k1,_⟩:=hh.rows q _ g;rw[e1 _ _ k1]at f3;cases f3;exact .inr ⟨q,_,_,g,rfl,k1,f4,f5⟩
 have hk:∀u d,VR w ρ (sA outer ρ h) u d→VR w ρ2 (sA outer ρ2 h2) u d:=λu d hu=>hu.mono e1 (λ_ _ _=>rfl) λb hb=> .inl (jW b hb)
 have DZ:∀q row' ri,h2 q=some row'→ρ2 q=some ri→ri.nl=false→∃row,h q=some row∧ρ q=some ri:=λq row' ri f1 f3 f4=>by
  rcases(r2 q row' f1).2 with g | ⟨g,_⟩ | ⟨ow,B,cs,es,g,_⟩
  ·obtain⟨ri',k1,_⟩:=hh.rows q _ g;rw[e1 _ _ k1]at f3;cases f3;exact⟨_,g,k1⟩
  ·rw[e2 q row' (IW q g) f1]at f3;cases f3;cases f4
  ·obtain⟨ri',k1,_⟩:=hh.rows q _ g;rw[e1 _ _ k1]at f3;cases f3;exact⟨_,g,k1⟩
 refine⟨ρ2,⟨hh.wx,hh.old,hh.outLt,λr row' hr=>?_,λq q' row row' qi qi' h1 h2 h3 h4 h5 h6 h7=>?_⟩,hk,e1,λq hq=>?_,λq row h1 h2=>e2 q row (IW q h1) h2⟩
 ·rcases(r2 r row' hr).2 with g | ⟨g,t,rfl⟩ | ⟨ow,B,cs,es,g,rfl,g2,g3⟩
  ·obtain⟨ri,k1,k2,k3⟩:=hh.rows r _ g;exact⟨ri,e1 _ _ k1,k2.keep (λ_=>rfl) hk,k3⟩
  ·exact⟨⟨0,0,0,true⟩,e2 r _ (IW r g) hr,⟨rfl, .inl ⟨rfl,rfl⟩⟩,λhn=>by cases hn⟩
  ·obtain⟨ri,k1,k2,k3⟩:=hh.rows r _ g;refine⟨ri,e1 _ _ k1,⟨k2.1,λj hj=>?_⟩,k3⟩;have hl:(SA ow B 0 es).length=(SA ow B 0 cs).length:=by rw[wE,wE,g2.len]
   obtain⟨f1,u,f2,f3⟩:=k2.2 j (by rw[←hl];exact hj);refine⟨f1,u,f2,?_⟩
   have:=zca (w:=w) (ρ:=ρ) ow B hk cs es 0 (λj=>(w.cell? (at_ ri.b j)).getD undef) g2 (λq t _ h5 h6=>by
    obtain⟨g4,g5⟩:=g3 q t h5 h6;exact e2 _ _ (IW _ g4) g5) (λj hj=>by
    obtain⟨_,u,f2,f3⟩:=k2.2 j hj;rw[f2];exact f3) j hj
   rw[f2]at this;exact this
 ·obtain⟨_,g1,g2⟩:=DZ _ _ _ h1 h3 h5;obtain⟨_,g3,g4⟩:=DZ _ _ _ h2 h4 h6;exact hh.inj q q' _ _ qi qi' g1 g3 g2 g4 h5 h6 h7
 ·refine e3 q (IW q ?_) ?_
  ·cases D2:h q with
   | none=>rfl
   | some row=>have:=r1 q row D2;omega
  ·cases D2:h2 q with
   | none=>rfl
   | some row=>have:=(r2 q row D2).1;omega
end
end Go.D
namespace Go.D
variable [jA]
section
variable {C:Cx} {w0:World} {outer own D:Nat→Prop} {R:Type} {st st1 st2:St} {ρ ρ1 ρ2:Nat→Option RI} {a a1 a2:Act} {w w1 w2:World} {j:JI}
omit [jA]in
def zbU{α:Type}(l m:List α)(i:Nat)(d:α)(h:i<l.length):(l++m).getD i d=l.getD i d:=by
 rw[List.getD_eq_getElem?_getD,List.getD_eq_getElem?_getD,List.getElem?_append_left h]
omit [jA]in
def zbX{α:Type}(l m:List α)(i:Nat)(d:α)(h:l.length≤i):(l++m).getD i d=m.getD (i - l.length) d:=by
 rw[List.getD_eq_getElem?_getD,List.getD_eq_getElem?_getD,List.getElem?_append_right h]
inductive dJ:List (Bool×Nat)→List Value→List Value→Prop
 | nil:dJ [] [] []
 | agg {n:Nat} {sh:List (Bool×Nat)} {rv cells:List Value} (vs:Array Value) (h:vs.size=n) (hr:dJ sh rv cells):dJ ((true,n) :: sh) (.agg vs :: rv) (vs.toList++cells)
 | one {sh:List (Bool×Nat)} {rv cells:List Value} (v:Value) (hr:dJ sh rv cells):dJ ((false,1) :: sh) (v :: rv) (v :: cells)
omit [jA]in
def dJ.len{sh:List (Bool×Nat)}{rv cells:List Value}(h:dJ sh rv cells):QK sh=cells.length∧rv.length=sh.length:=by
 induction h with
 | nil=>exact⟨rfl,rfl⟩
 | agg vs h hr ih=>simp only[QK,List.map_cons,List.sum_cons,List.length_append,Array.length_toList,List.length_cons]at ih⊢;omega
 | one v hr ih=>simp only[QK,List.map_cons,List.sum_cons,List.length_cons]at ih⊢;omega
def ztm{bad:Nat→Prop}{sh:List (Bool×Nat)}{rv cells:List Value}(h:dJ sh rv cells):∀X:List V,cells.length≤X.length→(∀j (hj:j<X.length),j<cells.length→VR w ρ bad (cells.getD j undef) X[j])→
  (PE sh X).length=rv.length∧∀i (hi:i<(PE sh X).length),VR w ρ bad (rv.getD i undef) (PE sh X)[i]:=by
 induction h with
 | nil=>intro X _ _;exact⟨rfl,λi hi=>by simp[PE]at hi⟩
 | agg vs YV hr ih=>
  rename_i n sh rv cells;intro X hX hv;simp only[List.length_append,Array.length_toList]at hX
  obtain⟨h1,h2⟩:=ih (X.drop n) (by simp;omega) (λj hj RW=>by
   have:=hv (n+j) (by simp at hj;omega) (by simp;omega);rw[List.getElem_drop];rw[zbX _ _ _ _ (by simp;omega)]at this;simpa[YV]using this)
  refine⟨by simp[PE,h1],λi hi=>?_⟩;cases i with
  | zero=>
   show VR w ρ bad (.agg vs) (.agg (X.take n))
   refine .agg _ _ (by simp;omega) λj hj=>?_;have n9:j<n:=by simp at hj;omega
   have:=hv j (by simp at hj;omega) (by simp;omega);rw[zbU _ _ _ _ (by simp;omega)]at this;rw[List.getElem_take];rw[Array.getD_eq_getD_getElem?];rw[List.getD_eq_getElem?_getD]at this;simpa using this
  | succ i=>exact h2 i (by simpa[PE]using hi)
 | one v hr ih=>
  rename_i sh rv cells;intro X hX hv;cases X with
  | nil=>simp at hX
  | cons x X=>
   simp only[List.length_cons]at hX;obtain⟨h1,h2⟩:=ih X (by omega) (λj hj RW=>hv (j+1) (by simp;omega) (by simp;omega));refine⟨by simp[PE,h1],λi hi=>?_⟩;cases i with
   | zero=>exact hv 0 (by simp) (by simp)
   | succ i=>exact h2 i (by simpa[PE]using hi)
omit [jA]in
def ztz{sh:List (Bool×Nat)}{X:List V}{v:V}(h:PE sh X=[v]):kI sh X=v:=by simp[kI,h]
omit [jA]in
def zs6{sh:List (Bool×Nat)}{X:List V}(h:∀v,PE sh X≠[v]):kI sh X= .tup (PE sh X):=by
 unfold kI;split
 ·rename_i v hv;exact absurd hv (h v)
 ·rfl
def zuP{bad:Nat→Prop}{sh:List (Bool×Nat)}{rv cells:List Value}(h:dJ sh rv cells){X:List V}(hX:cells.length≤X.length)(hv:∀j (hj:j<X.length),j<cells.length→VR w ρ bad (cells.getD j undef) X[j]):
  VR w ρ bad (if h:rv.toArray.size=1 then rv.toArray[0]else .tuple rv.toArray) (kI sh X):=by
 obtain⟨h1,h2⟩:=ztm h X hX hv
 by_cases hY:∃v,PE sh X=[v]
 ·obtain⟨v,hY⟩:=hY;rw[ztz hY];rw[hY]at h1;have hl:rv.toArray.size=1:=by simpa using h1.symm
  rw[dif_pos hl];have h3:=h2 0 (by rw[hY];simp);simp only[hY,List.getElem_cons_zero]at h3;rw[List.getD_eq_getElem?_getD,List.getElem?_eq_getElem (by simp at hl;omega)]at h3;simpa using h3
 ·have hl:¬rv.toArray.size=1:=λhl=>by
   have m0:(PE sh X).length=1:=by rw[h1];simpa using hl
   exact hY (List.length_eq_one_iff.1 m0)
  rw[dif_neg hl,zs6 λv hv=>hY ⟨v,hv⟩];refine .tup _ _ (by simp[h1]) λi hi=>?_;have:=h2 i hi;rw[Array.getD_eq_getD_getElem?];rw[List.getD_eq_getElem?_getD]at this;simpa using this
omit [jA]in
def zfw{α β:Type}{P:Program}{w:World}(f:α→Sem β):∀(l:List α) (r:List β),l.length=r.length→(∀i (hi:i<l.length) (hr:i<r.length),(f l[i]).run P w= .ok r[i] w)→(l.mapM f).run P w= .ok r w
 | [],[],_,_=>by simp
 | [],_ :: _,h,_=>by simp at h
 | _ :: _,[],h,_=>by simp at h
 | x :: l,y :: r,h,hf=>by
  have h0:=hf 0 (by simp) (by simp);simp only[List.getElem_cons_zero]at h0;have h1:=zfw f l r (by simpa using h) (λi hi hr=>hf (i+1) (by simp;omega) (by simp;omega));simp[List.mapM_cons,h0,h1,Result.andThen]
def dL(tmps:Array Value):ResultVar→Sem Value
 | .tmp t=>pure (tmps.getD t undef)
 | .cell x t=>do loadVar t (←asAddr (tmps.getD x undef))
def zdd(hr:bB C w0 outer own ρ st a w):∀(rs:List ResultVar) (sh:List (Bool×Nat)) (vs:List V),pH C.P st rs sh=some vs→
  ∃rv cells,dJ sh rv cells∧rs.length=rv.length∧cells.length=vs.length∧(∀j (hj:j<vs.length),VR w ρ (sA outer ρ st.h) (cells.getD j undef) vs[j])∧
   ∀i (hi:i<rs.length) (h2:i<rv.length),(dL a.tmps rs[i]).run C.P w= .ok rv[i] w
 | [],[],vs,h=>by
  simp only[pH,Option.some.injEq]at h;subst h;exact⟨[],[], .nil,rfl,rfl,λj hj=>by simp at hj,λi hi=>by simp at hi⟩
 | [],_ :: _,vs,h=>by simp[pH]at h
 | .tmp t :: _,[],vs,h=>by simp[pH]at h
 | .cell .. :: _,[],vs,h=>by simp[pH]at h
 | .tmp t :: rs,(ag,n) :: sh,vs,h=>by
  simp only[pH]at h;have hv:=hr.slots t;split at h
  ·rename_i cs us hs J6;cases hb:(ag&&Nat.beq n cs.length)
   case false=>simp[hb]at h
   simp only[hb,cond_true,Option.some.injEq]at h;subst h;simp only[Bool.and_eq_true]at hb;obtain⟨rfl,hn⟩:=hb;have hn:=Nat.eq_of_beq_eq_true hn;obtain⟨rv,cells,h1,h2,h3,h4,h5⟩:=zdd hr rs sh us J6;rw[hs]at hv;generalize hA:a.tmps.getD t undef=A at hv;cases hv with
   | agg _ vs YV CX=>
   refine⟨.agg vs :: rv,vs.toList++cells, .agg vs (by omega) h1,by simp[h2],by simp[h3,YV],λj hj=>?_,λi hi hi2=>?_⟩
   ·by_cases mX:j<cs.length
    ·rw[List.getElem_append_left mX,zbU _ _ _ _ (by simp;omega)];have:=CX j mX;rw[Array.getD_eq_getD_getElem?]at this;rw[List.getD_eq_getElem?_getD];simpa using this
    ·have RW:j - cs.length<us.length:=by simp at hj;omega
     rw[List.getElem_append_right (by omega),zbX _ _ _ _ (by simp;omega)];have:=h4 _ RW;simpa[YV]using this
   ·cases i with
    | zero=>simp only[List.getElem_cons_zero,dL,hA];rfl
    | succ i=>exact h5 i (by simpa using hi) (by simpa using hi2)
  ·rename_i us J6 SW;cases hb:(!ag&&Nat.beq n 1&&(st.s t).leaf)
   case false=>simp[hb]at h
   simp only[hb,cond_true,Option.some.injEq]at h;subst h;simp only[Bool.and_eq_true,Bool.not_eq_true']at hb;obtain⟨⟨rfl,hn⟩,hlf⟩:=hb;have hn:=Nat.eq_of_beq_eq_true hn;subst hn;obtain⟨rv,cells,h1,h2,h3,h4,h5⟩:=zdd hr rs sh us J6;refine⟨a.tmps.getD t undef :: rv,a.tmps.getD t undef :: cells, .one _ h1,by simp[h2],by simp[h3],λj hj=>?_,λi hi hi2=>?_⟩
   ·cases j with
    | zero=>exact hv
    | succ j=>exact h4 j (by simpa using hj)
   ·cases i with
    | zero=>rfl
    | succ i=>exact h5 i (by simpa using hi) (by simpa using hi2)
  ·cases h
 | .cell x t :: rs,(ag,n) :: sh,vs,h=>by
  simp only[pH]at h;have hv:=hr.slots x;split at h
  case h_2=>cases h
  rename_i b us ag' n' hs J6 yW YV;split at h
  case h_2=>cases h
  rename_i cs m IV;cases hb:((ag==ag')&&Nat.beq n n'&&Nat.beq n cs.length&&(ag||Nat.beq n 1))
  case false=>simp[hb]at h
  simp only[hb,cond_true,Option.some.injEq]at h;subst h;simp only[Bool.and_eq_true,beq_iff_eq]at hb;obtain⟨⟨⟨rfl,h1⟩,h2⟩,h3⟩:=hb;have h1:=Nat.eq_of_beq_eq_true h1;have h2:=Nat.eq_of_beq_eq_true h2;subst h1;obtain⟨rv,cells,k1,k2,k3,k4,k5⟩:=zdd hr rs sh us J6;rw[hs]at hv;obtain⟨ri,hρ,XV,_⟩:=hr.heap.rows _ _ IV;obtain⟨e1,e2⟩:=zfn hρ XV hv
  have NV:fG ag n cs 0 some=some (if ag then .agg cs else cs.getD 0 .undef):=by
   unfold fG;cases ag with
   | true=>
    have:Nat.ble (0+n) cs.length=true:=Nat.ble_eq_true_of_le (by omega);simp only[XC,this,if_true,List.drop_zero];rw[List.take_of_length_le (by omega)]
   | false=>
    simp only[Bool.false_or]at h3;have:=Nat.eq_of_beq_eq_true h3
    match cs,h2 with
    | [c],_=>rfl
    | [],h2=>simp at h2;omega
    | _ :: _ :: _,h2=>simp at h2;omega
  obtain⟨d,v,g1,g2,g3⟩:=zlg (K:=some) yW YV e2 NV;have g1:d=if ag then V.agg cs else cs.getD 0 .undef:=Option.some.inj g1
  subst g1
  have HV:(dL a.tmps (.cell x t)).run C.P w= .ok v w:=by
   simp only[dL,e1,asAddr,Sem.run_bind,Sem.run_pure,Result.andThen_ok];exact g3
  cases ag with
  | true=>
   simp only[if_true]at g2;cases g2 with
   | agg _ vs K6 CX=>
   refine⟨.agg vs :: rv,vs.toList++cells, .agg vs (by omega) k1,by simp[k2],by simp[k3,K6],λj hj=>?_,λi hi hi2=>?_⟩
   ·by_cases mX:j<cs.length
    ·rw[List.getElem_append_left mX,zbU _ _ _ _ (by simp;omega)];have:=CX j mX;rw[Array.getD_eq_getD_getElem?]at this;rw[List.getD_eq_getElem?_getD];simpa using this
    ·have RW:j - cs.length<us.length:=by simp at hj;omega
     rw[List.getElem_append_right (by omega),zbX _ _ _ _ (by simp;omega)];have:=k4 _ RW;simpa[K6]using this
   ·cases i with
    | zero=>exact HV
    | succ i=>exact k5 i (by simpa using hi) (by simpa using hi2)
  | false=>
   simp only[Bool.false_or]at h3;have h3:=Nat.eq_of_beq_eq_true h3;subst h3
   match cs,h2 with
   | [c],_=>
    simp only[Bool.false_eq_true,if_false]at g2;refine⟨v :: rv,v :: cells, .one v k1,by simp[k2],by simp[k3],λj hj=>?_,λi hi hi2=>?_⟩
    ·cases j with
     | zero=>exact g2
     | succ j=>exact k4 j (by simpa using hj)
    ·cases i with
     | zero=>exact HV
     | succ i=>exact k5 i (by simpa using hi) (by simpa using hi2)
   | [],h2=>simp at h2
   | _ :: _ :: _,h2=>simp at h2
def zrU(hr:bB C w0 outer own ρ st a w){fn:Func}{sh:List (Bool×Nat)}{vs:List V}(h:pH C.P st fn.results.toList sh=some vs):
  ∃rv cells,dJ sh rv cells∧cells.length=vs.length∧(∀j (hj:j<vs.length),VR w ρ (sA outer ρ st.h) (cells.getD j undef) vs[j])∧
   (results fn a.tmps).run C.P w= .ok (if h:rv.toArray.size=1 then rv.toArray[0]else .tuple rv.toArray) w:=by
 obtain⟨rv,cells,h1,h2,h3,h4,h5⟩:=zdd hr _ _ _ h;refine⟨rv,cells,h1,h3,h4,?_⟩;have:=zfw (P:=C.P) (w:=w) (dL a.tmps) fn.results.toList rv h2 h5;show((do let vs ←fn.results.mapM (dL a.tmps);pure (if h:vs.size=1 then vs[0]else .tuple vs)):Sem Value).run C.P w=_
 rw[Array.mapM_eq_mapM_toList];simp only[Sem.run_bind,Sem.run_map,this,Result.andThen_ok,Sem.run_pure]
end
end Go.D
namespace Go.D
variable [jA]
inductive Bd:V→Prop where
 | undef:Bd .undef
 | bool (b:Bool):Bd (.bool b)
 | int (k:IntKind) (n:Int) (h:sE k n):Bd (.int k n)
 | str (s:List UInt8) (h:s.length≤maxLen):Bd (.str s)
 | nil:Bd .nil
 | sl (t:TN) (l:List (El t)) (h:l.length≤maxLen) (hv:∀i (h:i<l.length) j,j<sz t→Bd ((enc t l[i]).getD j .undef)):Bd (.sl t l)
 | ow (r:Nat):Bd (.ow r)
 | ov (r:Nat) (t:TN) (off len:Nat):Bd (.ov r t off len)
 | bp (r off:Nat):Bd (.bp r off)
 | ep (r:Nat) (t:TN) (i off:Nat):Bd (.ep r t i off)
 | fp (cs:List V) (off:Nat) (h:∀j (h:j<cs.length),Bd cs[j]):Bd (.fp cs off)
 | fn (f:Nat) (cs:List V) (h:∀j (h:j<cs.length),Bd cs[j]):Bd (.fn f cs)
 | agg (cs:List V) (h:∀j (h:j<cs.length),Bd cs[j]):Bd (.agg cs)
 | tup (cs:List V) (h:∀j (h:j<cs.length),Bd cs[j]):Bd (.tup cs)
 | nili:Bd .nili
 | ifc (b:Bool):Bd (.ifc b)
section
variable {w:World} {ρ:Nat→Option RI} {bad:Nat→Prop} {v:Value} {d:V}
def VR.bd(h:VR w ρ bad v d):Bd d:=by
 induction h with
 | undef=>exact .undef
 | bool=>exact .bool _
 | int _ _ h=>exact .int _ _ h
 | str _ h=>exact .str _ h
 | nil=>exact .nil
 | slE=>exact .sl _ _ (Nat.zero_le _) (λi h=>by simp at h)
 | slC t l b off cap u hb hl hc he hu hv ih=>exact .sl _ _ (Nat.le_trans hl hc) ih
 | ow=>exact .ow _
 | owN=>exact .ow _
 | ov=>exact .ov _ _ _ _
 | bp=>exact .bp _ _
 | ep=>exact .ep _ _ _ _
 | fp cs off b o u h0 hb hu hv ih=>exact .fp _ _ ih
 | fn f cs caps hs hv ih=>exact .fn _ _ ih
 | agg cs vs hs hv ih=>exact .agg _ ih
 | tup cs vs hs hv ih=>exact .tup _ ih
 | nili=>exact .nili
 | ifc=>exact .ifc _
 | ifn=>exact .ifc _
def qI(t:TN)(x:El t):Prop:=∀j,j<sz t→Bd ((enc t x).getD j .undef)
def bdl(t:TN)(l:List (El t)):Prop:=l.length≤maxLen∧∀x∈l,qI t x
omit [jA]in
def Bd.list{t:TN}{l:List (El t)}(h:Bd (.sl t l)):bdl t l:=by
 cases h with
 | sl _ _ h hv=>
  refine⟨h,λx hx j hj=>?_⟩;obtain⟨i,hi,rfl⟩:=List.mem_iff_getElem.1 hx;exact hv i hi j hj
omit [jA]in
def Bd.len{s:List UInt8}(h:Bd (.str s)):s.length≤maxLen:=by cases h;assumption
omit [jA]in
def Bd.fits{k:IntKind}{n:Int}(h:Bd (.int k n)):sE k n:=by cases h;assumption
omit [jA]in
def zkX(t:TN)(h:t.isAgg=false)(x:El t):∃c,enc t x=[c]:=by cases t<;>first | exact⟨_,rfl⟩ | simp[TN.isAgg]at h
def zgE:(t:Ty)→t.T→Prop
 | .v t,x=>qI t x
 | .sl t,l=>bdl t l
 | .raw,v=>Bd v
 | .cells t,x=>qI t x
 | .pt t,x=>qI t x
 | .c1 _ t,x=>qI t x
 | .p1 _ t,x=>qI t x
 | .c2 _ _ t,x=>qI t x.1∧qI t x.2
omit [jA]in
def CV{t:TN}{x:El t}(h:Bd (.fp (enc t x) 0)):qI t x:=λj hj=>by
 have RW:j<(enc t x).length:=by rw[mD];exact hj
 rw[List.getD_eq_getElem?_getD,List.getElem?_eq_getElem RW];cases h with
 | fp _ _ h=>exact h j RW
omit [jA]in
def zdc{g:Nat}{c:V}{r:List V}(h:Bd (.fn g (c :: r))):Bd c:=by
 cases h with
 | fn _ _ h=>exact h 0 (by simp)
omit [jA]in
def zv6{g:Nat}{c d:V}(h:Bd (.fn g [c,d])):Bd d:=by
 cases h with
 | fn _ _ h=>exact h 1 (by simp)
omit [jA]in
def zlt{c:V}(h:Bd (.fp [c] 0)):Bd c:=by
 cases h with
 | fp _ _ h=>exact h 0 (by simp)
def xA:(ts:List Ty)→iB ts→Prop
 | [],_=>True
 | [t],x=>zgE t x
 | t :: d :: r,x=>zgE t x.1∧xA (d :: r) x.2
omit [jA]in
def zk1{t:Ty}{x:t.T}(h:Bd (EC t x)):zgE t x:=by
 cases t with
 | v t=>
  intro j hj;simp only[EC,jK]at h;have RW:j<(enc t x).length:=by rw[mD];exact hj
  cases yW:t.isAgg
  ·simp only[yW,cond_false]at h;have YV:sz t=1:=by cases t<;>first | rfl | simp[TN.isAgg]at yW
   obtain⟨c,hc⟩:=zkX t yW x;simp only[hc]at h⊢;have:j=0:=by omega
   subst this;exact h
  ·simp only[yW,cond_true]at h;rw[List.getD_eq_getElem?_getD,List.getElem?_eq_getElem RW];cases h with
   | agg _ h=>exact h j RW
 | sl t=>exact Bd.list h
 | raw=>exact h
 | cells t=>
  intro j hj;have RW:j<(enc t x).length:=by rw[mD];exact hj
  rw[List.getD_eq_getElem?_getD,List.getElem?_eq_getElem RW];cases h with
  | agg _ h=>exact h j RW
 | pt t=>exact CV h
 | c1 g t=>exact CV (zdc h)
 | p1 g t=>exact CV (zdc (zlt h))
 | c2 g h' t=>exact⟨CV (zdc (zlt (zdc h))),CV (zv6 h)⟩
omit [jA]in
def zfj:∀(ts:List Ty) (x:iB ts),(∀v∈cB ts x,Bd v)→xA ts x
 | [],x,h=>trivial
 | [t],x,h=>zk1 (h _ (by simp[cB]))
 | t :: d :: r,x,h=>⟨zk1 (h _ (by simp[cB])),zfj (d :: r) x.2 λv hv=>h v (by simp[cB,hv])⟩
omit [jA]in
def zsB{t:Ty}{ats:List Ty}(x:iB (t :: ats)):∃(x0:t.T) (y:iB ats),cB (t :: ats) x=EC t x0 :: cB ats y:=by
 cases ats with
 | nil=>exact⟨x,(),rfl⟩
 | cons d r=>exact⟨x.1,x.2,rfl⟩
def zf5{outer own:Nat→Prop}{w0:World}{h:Nat→Option tA}(hh:sB w0 outer own ρ h w){r:Nat}{t:TN}{l:List (El t)}{m:cH}(hr:h r=some ⟨.arr t l,m⟩):Bd (.sl t l):=by
 obtain⟨ri,_,⟨hn,ho⟩,_⟩:=hh.rows r _ hr
 rcases ho with⟨_,rfl⟩ | ⟨_,_,h1,h2,_,h3⟩
 ·exact .sl _ _ (Nat.zero_le _) λi h=>by simp at h
 ·refine .sl _ _ (by omega) λi hi j hj=>?_;obtain⟨u,_,h4⟩:=h3 i hi j hj;exact h4.bd
omit [jA]in
def zfQ(ow:List Nat)(B:Nat):∀(es:List V) (p:Nat),(∀j (hj:j<(SA ow B p es).length),Bd (SA ow B p es)[j])→(∀q t l,aB ow B (λ_=>none) p es q=some ⟨.arr t l, .own⟩→Bd (.sl t l))→∀j (hj:j<es.length),Bd es[j]
 | [],p,hv,hr,j,hj=>by simp at hj
 | e :: es,p,hv,hr,j,hj=>by
  have hd:∃e',SA ow B p (e :: es)=e' :: SA ow B (p+1) es:=by cases e<;>exact⟨_,rfl⟩
  obtain⟨e',tX⟩:=hd
  have U1:∀j (hj:j<(e' :: SA ow B (p+1) es).length),Bd (e' :: SA ow B (p+1) es)[j]:=λj hj=>by
   have:=hv j (by rw[tX];exact hj);simpa only[tX]using this
  cases j with
  | succ j=>
   refine zfQ ow B es (p+1) (λj hj=>by have:=U1 (j+1) (by simp;omega);simpa using this) (λq t l hq=>?_) j (by simpa using hj);obtain⟨_,_,_,h1,_⟩:=PD _ _ _ _ _ _ hq;refine hr q t l ?_;have:=zbq ow B e es p (q - B) (by omega);rw[show B+(q - B)=q by omega]at this;rw[this];exact hq
  | zero=>
   have h0:=U1 0 (by simp);simp only[List.getElem_cons_zero]at h0⊢;have h1:=congrArg List.head? tX;cases e<;>simp only[SA,List.head?_cons,Option.some.injEq]at h1<;>try (subst h1;exact h0)
   rename_i t l;cases hb:ow.any (Nat.beq p)
   ·simp only[hb,cond_false]at h1;subst h1;exact h0
   ·exact hr (B+p) t l (by simp only[aB,hb,cond_true,RA])
def zlD{outer own:Nat→Prop}{w0:World}{h:Nat→Option tA}(hh:sB w0 outer own ρ h w):∀(ks:List nB) (ats:List Ty) (x:iB ats) (k:Nat) (u:Nat→Value),bC ks ats=true→
  (∀q row,BA ks k (cB ats x) q=some row→h q=some row)→
  (∀j (hj:j<(tB ks k (cB ats x)).length),VR w ρ (sA outer ρ h) (u j) (tB ks k (cB ats x))[j])→∀v∈cB ats x,Bd v:=by
 intro ks;induction ks with
 | nil=>
  intro ats x k u hk hE hS v hv;cases ats with
  | nil=>simp[cB]at hv
  | cons=>simp[bC]at hk
 | cons g ks ih=>
  intro ats x k u hk hE hS v hv;cases ats with
  | nil=>cases g<;>simp[bC]at hk
  | cons t ats=>
   obtain⟨x0,y,he⟩:=zsB x;rw[he]at hE hS hv;cases g with
   | plain=>
    simp only[bC]at hk
    rcases List.mem_cons.1 hv with rfl | hv
    ·exact(hS 0 (by simp[tB])).bd
    ·exact ih ats y (k+1) (λj=>u (j+1)) hk (λq row hq=>hE q row (by simpa only[BA]using hq)) (λj hj=>hS (j+1) (by simp[tB];omega)) v hv
   | mv ow=>
    cases t with
    | v t=>
     simp only[bC,Bool.and_eq_true]at hk;obtain⟨⟨yW,YV⟩,hk⟩:=hk;have YV:=Nat.le_of_ble_eq_true YV;have C2:EC (.v t) x0= .agg (enc t x0):=by simp only[EC,jK,yW,cond_true]
     rw[C2]at hE hS hv;have sW:(enc t x0).length=sz t:=mD t x0
     rcases List.mem_cons.1 hv with rfl | hv
     ·have h0:=hS 0 (by simp[tB]);simp only[tB,List.getElem_cons_zero]at h0;generalize u 0=u0 at h0;cases h0 with
      | agg _ vsA hs CX=>
      refine .agg _ (zfQ ow (128 *k) _ 0 (λj hj=>(CX j hj).bd) λq t' l hq=>?_);obtain⟨_,_,_,e1,e2⟩:=PD _ _ _ _ _ _ hq;refine zf5 hh (hE q ⟨.arr t' l, .own⟩ ?_);simp only[BA];rw[AB,hq]
     ·refine ih ats y (k+1) (λj=>u (j+1)) hk (λq row hq=>hE q row ?_) (λj hj=>hS (j+1) (by simp[tB];omega)) v hv;have HX:=HE ks (k+1) _ q row hq;simp only[BA];rw[AB,QC _ _ _ _ _ (by omega)];exact hq
    | _=>simp[bC]at hk
   | ms=>
    cases t with
    | sl t=>
     simp only[bC]at hk;have C2:EC (.sl t) x0= .sl t x0:=rfl;rw[C2]at hE hS hv
     rcases List.mem_cons.1 hv with rfl | hv
     ·refine zf5 hh (hE (128 *k) ⟨.arr t x0, .own⟩ ?_);simp only[BA,aB,List.any_cons,List.any_nil,Nat.beq,Bool.true_or,cond_true,Nat.add_zero];exact RA _ _ _
     ·refine ih ats y (k+1) (λj=>u (j+1)) hk (λq row hq=>hE q row ?_) (λj hj=>hS (j+1) (by simp[tB];omega)) v hv;have HX:=HE ks (k+1) _ q row hq;simp only[BA];rw[AB,QC _ _ _ _ _ (by simp;omega)];exact hq
    | _=>simp[bC]at hk
   | ptr ow=>
    cases t with
    | cells t=>
     simp only[bC,Bool.and_eq_true]at hk;obtain⟨YV,hk⟩:=hk;have YV:=Nat.le_of_ble_eq_true YV;simp only[EC]at hE hS hv;have sW:(enc t x0).length=sz t:=mD t x0;have IV:=hE (128 *k+127) _ (by simp only[BA];exact RA _ _ _)
     rcases List.mem_cons.1 hv with rfl | hv
     ·obtain⟨ri,_,XV,_⟩:=hh.rows _ _ IV;refine .agg _ (zfQ ow (128 *k) _ 0 (λj hj=>?_) λq t' l hq=>?_)
      ·obtain⟨_,x,_,h2⟩:=XV.2 j hj;exact h2.bd
      ·obtain⟨_,_,_,e1,e2⟩:=PD _ _ _ _ _ _ hq;refine zf5 hh (hE q ⟨.arr t' l, .own⟩ ?_);simp only[BA];rw[AA _ _ _ _ (by omega),AB,hq]
     ·refine ih ats y (k+1) (λj=>u (j+1)) hk (λq row hq=>hE q row ?_) (λj hj=>hS (j+1) (by simp[tB];omega)) v hv;have HX:=HE ks (k+1) _ q row hq;simp only[BA];rw[AA _ _ _ _ (by omega),AB,QC _ _ _ _ _ (by omega)];exact hq
    | _=>simp[bC]at hk
end
end Go.D
namespace Go.D
variable [jA]
section
variable {C:Cx} {w0:World} {outer own D:Nat→Prop} {R:Type} {st st1 st2:St} {ρ ρ1 ρ2:Nat→Option RI} {a a1 a2:Act} {w w1 w2:World} {j:JI}
omit [jA]in
def zsy{t:Ty}{ats:List Ty}{as:List V}{x:iB (t :: ats)}(hd:rD (t :: ats) as=some x):
  ∃v vs y,as=v :: vs∧∃(x0:t.T),jE t v=some x0∧rD ats vs=some y∧cB (t :: ats) x=EC t x0 :: cB ats y:=by
 cases ats with
 | nil=>
  cases as with
  | nil=>simp[rD]at hd
  | cons v vs=>
   cases vs with
   | nil=>exact⟨v,[],(),rfl,x,by simpa[rD]using hd,rfl,rfl⟩
   | cons=>simp[rD]at hd
 | cons d r=>
  cases as with
  | nil=>simp[rD]at hd
  | cons v vs=>
   simp only[rD]at hd;obtain⟨x0,h1,h2⟩:=Option.bind_eq_some_iff.1 hd;obtain⟨y,h3,h4⟩:=Option.bind_eq_some_iff.1 h2;cases h4;exact⟨v,vs,y,rfl,x0,h1,h3,rfl⟩
omit [jA]in
def zqv:∀(ks:List nB) (ats:List Ty) (as:List V) (x:iB ats) (k:Nat),bC ks ats=true→rD ats as=some x→
  (∀bs vs h,yB ks (cB ats x) bs vs h=yB ks as bs vs h)∧∀bs q b,mB ks k bs q=some b→∃row,BA ks k as q=some row:=by
 intro ks;induction ks with
 | nil=>
  intro ats as x k hk hd;cases ats with
  | nil=>cases as with
   | nil=>exact⟨λ_ _ _=>rfl,λbs q b h=>by simp[mB]at h⟩
   | cons=>simp[rD]at hd
  | cons=>simp[bC]at hk
 | cons g ks ih=>
  intro ats as x k hk hd;cases ats with
  | nil=>cases g<;>simp[bC]at hk
  | cons t ats=>
   obtain⟨v,vs,y,rfl,x0,h1,h3,h4⟩:=zsy hd;rw[h4];cases g with
   | plain=>
    simp only[bC]at hk;obtain⟨e1,e2⟩:=ih ats vs y (k+1) hk h3;exact⟨λbs ws h=>e1 bs ws h,λbs q b h=>by simp only[mB]at h;exact e2 bs q b h⟩
   | mv ow=>
    cases t with
    | v t=>
     simp only[bC,Bool.and_eq_true]at hk;obtain⟨⟨yW,YV⟩,hk⟩:=hk;have YV:=Nat.le_of_ble_eq_true YV;obtain⟨e1,e2⟩:=ih ats vs y (k+1) hk h3;simp only[jE]at h1;split at h1
     case h_2=>simp[yW]at h1
     rename_i cs;simp only[yW,cond_true]at h1;have sW:(enc t x0).length=sz t:=mD t x0;have Z2:cs.length=sz t:=by rw[(AF t h1).len,sW]
     refine⟨λbs ws h=>e1 bs ws h,λbs q b h=>?_⟩;simp only[mB]at h;have HX:=(LE _ _ _ _ _ h).1;simp only[BA];rw[AB,QC _ _ _ _ _ (by omega)];exact e2 bs q b h
    | _=>simp[bC]at hk
   | ms=>
    cases t with
    | sl t=>
     simp only[bC]at hk;obtain⟨e1,e2⟩:=ih ats vs y (k+1) hk h3;refine⟨λbs ws h=>e1 bs ws h,λbs q b h=>?_⟩;simp only[mB]at h;have HX:=(LE _ _ _ _ _ h).1;simp only[BA];rw[AB,QC _ _ _ _ _ (by simp;omega)];exact e2 bs q b h
    | _=>simp[bC]at hk
   | ptr ow=>
    cases t with
    | cells t=>
     simp only[bC,Bool.and_eq_true]at hk;obtain⟨YV,hk⟩:=hk;have YV:=Nat.le_of_ble_eq_true YV;obtain⟨e1,e2⟩:=ih ats vs y (k+1) hk h3;simp only[jE]at h1;split at h1
     ·rename_i cs;have hl:=(AF t h1).len;refine⟨λbs ws h=>?_,λbs q b h=>?_⟩
      ·cases bs with
       | nil=>rfl
       | cons b bs=>simp only[EC,yB, ←hl,e1]
      ·cases bs with
       | nil=>simp[mB]at h
       | cons c bs=>
        simp only[mB]at h;simp only[BA]
        by_cases hq:q=128 *k+127
        ·subst hq;exact⟨_,RA _ _ _⟩
        ·rw[if_neg hq]at h;have HX:=(LE _ _ _ _ _ h).1;have sW:(enc t x0).length=sz t:=mD t x0;rw[AA _ _ _ _ hq,AB,QC _ _ _ _ _ (by omega)];exact e2 bs q b h
     ·cases h1
    | _=>simp[bC]at hk
def ztj(hh:sB w0 outer own ρ st.h w):∀(ks:List nB) (as:List V) (k:Nat) (us:List V),jF st ks as k=some us→
  ∃uc:Nat→Value,(∀j (hj:j<us.length),VR w ρ (sA outer ρ st.h) (uc j) us[j])∧
   ∀(bs:List Nat) (vs:List V) (h0:Nat→Option tA) (r:Nat) (row:tA),yB ks as bs vs h0 r=some row→h0 r=some row∨
    ∃q off n cs ri,mB ks k bs q=some r∧row=⟨.box ((vs.drop off).take n), .own⟩∧off+n≤us.length∧st.h q=some ⟨.box cs, .own⟩∧ρ q=some ri∧ri.nl=false∧
     ∀i,i<n→w.frozen? (at_ ri.b i)=false∧w.cell? (at_ ri.b i)=some (uc (off+i)):=by
 intro ks;induction ks with
 | nil=>
  intro as k us h;cases as with
  | nil=>
   simp only[jF,Option.some.injEq]at h;subst h;exact⟨λ_=>undef,λj hj=>by simp at hj,λbs vs h0 r row hr=> .inl (by simpa[yB]using hr)⟩
  | cons=>simp[jF]at h
 | cons g ks ih=>
  intro as k us h;cases g with
  | plain=>
   cases as with
   | nil=>simp[jF]at h
   | cons v as=>
    simp only[jF]at h;obtain⟨uc,h1,h2⟩:=ih as (k+1) us h;exact⟨uc,h1,λbs vs h0 r row hr=>by simp only[yB]at hr;simp only[mB];exact h2 bs vs h0 r row hr⟩
  | mv ow=>
   cases as with
   | nil=>simp[jF]at h
   | cons v as=>
    simp only[jF]at h;obtain⟨uc,h1,h2⟩:=ih as (k+1) us h;exact⟨uc,h1,λbs vs h0 r row hr=>by simp only[yB]at hr;simp only[mB];exact h2 bs vs h0 r row hr⟩
  | ms=>
   cases as with
   | nil=>simp[jF]at h
   | cons v as=>
    simp only[jF]at h;obtain⟨uc,h1,h2⟩:=ih as (k+1) us h;exact⟨uc,h1,λbs vs h0 r row hr=>by simp only[yB]at hr;simp only[mB];exact h2 bs vs h0 r row hr⟩
  | ptr ow=>
   cases as with
   | nil=>simp[jF]at h
   | cons v as=>
    cases v with
    | agg cs0=>
     simp only[jF]at h;split at h
     case h_2=>cases h
     rename_i cs us' IV L6;cases hb:Nat.beq cs.length cs0.length
     case false=>simp[hb]at h
     simp only[hb,cond_true,Option.some.injEq]at h;subst h;have hl:=Nat.eq_of_beq_eq_true hb;obtain⟨uc,h1,h2⟩:=ih as (k+1) us' L6;obtain⟨ri,hρ,XV,_⟩:=hh.rows _ _ IV;refine⟨λj=>if j<cs.length then(w.cell? (at_ ri.b j)).getD undef else uc (j - cs.length),λj hj=>?_,λbs vs h0 r row hr=>?_⟩
     ·dsimp only
      by_cases mX:j<cs.length
      ·rw[if_pos mX,List.getElem_append_left mX];obtain⟨_,u,f1,f2⟩:=XV.2 j mX;rw[f1];exact f2
      ·rw[if_neg mX,List.getElem_append_right (by omega)];exact h1 _ _
     ·cases bs with
      | nil=>exact .inl (by simpa[yB]using hr)
      | cons b bs=>
       simp only[yB]at hr
       by_cases hrb:r=b
       ·subst hrb;rw[RA]at hr;cases hr;refine .inr ⟨128 *k+127,0,cs0.length,cs,ri,by simp[mB],by simp,by simp;omega,IV,hρ,XV.1,λi hi=>?_⟩;obtain⟨f0,u,f1,f2⟩:=XV.2 i (by omega);refine⟨f0,?_⟩;dsimp only;rw[if_pos (by omega)];simp[f1]
       ·rw[AA _ _ _ _ hrb]at hr
        rcases h2 bs _ h0 r row hr with h3 | ⟨q,off,n,cs',ri',e1,e2,e3,e4,e5,e6,e7⟩
        ·exact .inl h3
        ·refine .inr ⟨q,cs0.length+off,n,cs',ri',?_,by rw[e2,List.drop_drop],by simp;omega,e4,e5,e6,λi hi=>?_⟩
         ·have:=(LE _ _ _ _ _ e1).1;simp only[mB];rw[if_neg (by omega)];exact e1
         ·obtain⟨g1,g2⟩:=e7 i hi;refine⟨g1,?_⟩;dsimp only;rw[g2,if_neg (by omega)];congr 2;omega
    | _=>simp[jF]at h
omit [jA]in
def zrg{h:Nat→Option tA}{v:V}{x:V×List Nat}(hf:xG h v=some x):∀r∈x.2,∃t l m,h r=some ⟨.arr t l,m⟩:=by
 unfold xG at hf;split at hf
 ·rename_i r;split at hf
  ·rename_i t l m hr;cases hm:m.isLock<;>simp[hm]at hf
   subst hf;intro q hq;simp at hq;subst hq;exact⟨_,_,_,hr⟩
  ·cases hf
 ·rename_i r t off len;split at hf
  ·rename_i t' l m hr;cases hm:m.isLock
   ·simp only[hm,cond_false]at hf;split at hf
    ·simp at hf;subst hf;intro q hq;simp at hq;subst hq;exact⟨_,_,_,hr⟩
    ·cases hf
   ·simp[hm]at hf
  ·cases hf
 ·cases hb:kG 8 v<;>simp[hb]at hf
  subst hf;simp
omit [jA]in
def AT(ow:List Nat):∀(cs:List V) (p:Nat) (h:Nat→Option tA) (x:List V×(Nat→Option tA)) (q:Nat) (c:List V),OD ow p cs h=some x→h q=some ⟨.box c, .own⟩→x.2 q=some ⟨.box c, .own⟩
 | [],p,h,x,q,c,ht,hq=>by simp[OD]at ht;subst ht;exact hq
 | v :: cs,p,h,x,q,c,ht,hq=>by
  simp only[OD]at ht;cases hb:ow.any (Nat.beq p)
  ·simp only[hb,cond_false]at ht;split at ht
   case h_2=>cases ht
   rename_i c' ids lZ;split at ht
   case h_2=>cases ht
   rename_i hr;cases ht;have hx:=AT ow cs _ _ _ q c hr;refine hx ?_;rw[wF,if_neg]
   ·exact hq
   ·intro hm;obtain⟨t,l,m,h3⟩:=zrg lZ q hm;rw[hq]at h3;cases h3
  ·simp only[hb,cond_true]at ht;split at ht
   ·split at ht
    case h_2=>cases ht
    rename_i IV;split at ht
    case h_2=>cases ht
    rename_i hr;cases ht;have hx:=AT ow cs _ _ _ q c hr;refine hx ?_;rw[AA _ _ _ _ (by rintro rfl;rw[IV]at hq;cases hq)];exact hq
   ·split at ht
    case h_2=>cases ht
    rename_i hr;cases ht;have hx:=AT ow cs _ _ _ q c hr;exact hx hq
   ·split at ht
    case h_2=>cases ht
    rename_i IV;split at ht
    case h_2=>cases ht
    rename_i hr;cases ht;have hx:=AT ow cs _ _ _ q c hr;refine hx ?_;rw[AA _ _ _ _ (by rintro rfl;rw[IV]at hq;cases hq)];exact hq
   ·cases ht
open Classical in
theorem zvM{fn:Func}{ks:List nB}{as:List V}{bs ow:List Nat}{base:Nat}{shape:List (Bool×Nat)}{rts:List Ty}{vs us rs:List V}{h2:Nat→Option tA}{r:iB rts}
  (hr:bB C w0 outer own ρ st a w) (hf:∀q,st.nx≤q→ρ q=none) (xX:pH C.P st fn.results.toList shape=some vs) (L6:jF st ks as 0=some us)
  (KW:OD ow 0 (vs++us) st.h=some (rs,h2)) (hun:VI rts rs=some r) (LV:(qE rts r).length≤128) (L4:bs.Nodup) (O8:∀b∈bs,Out base 128 b):
  ∃v,(results fn a.tmps).run C.P w= .ok v w∧∃ρf,sB w0 outer own ρf (gF ks as bs ow base shape (qE rts r)) w∧
   VR w ρf (sA outer ρf (gF ks as bs ow base shape (qE rts r))) v (kI shape (SA ow base 0 (qE rts r)))∧
   (∀q b,mB ks 0 bs q=some b→ρf b=ρ q)∧(∀r,ρf r≠none→(base≤r∧r<base+128)∨r∈bs):=by
 obtain⟨rv,cells,k1,k2,k3,k4⟩:=zrU hr xX;obtain⟨uc,u1,u2⟩:=ztj hr.heap ks as 0 us L6;have oW:=zeR rts rs r hun;have M6:=fP ow _ _ _ _ KW;simp only at M6;generalize hR0:qE rts r=R0 at *;have hRl:R0.length=vs.length+us.length:=by rw[←oW.len,M6,List.length_append]
 have L9:QK shape=vs.length:=by rw[k1.len.1,k2]
 let M:=st.nx;let u:Nat→Value:=λj=>if j<vs.length then cells.getD j undef else uc (j - vs.length)
 have hhn:∀q,st.nx≤q→st.h q=none:=λq hq=>by
  cases hg:st.h q with
  | none=>rfl
  | some row=>obtain⟨ri,h3,_⟩:=hr.heap.rows _ _ hg;rw[hf q hq]at h3;cases h3
 obtain⟨ρ2,g2,T,hTl⟩:=PR ow M 128 (vs++us) 0 st.h h2 rs R0 ρ st.h u KW oW (by rw[List.length_append];omega) hr.heap (λj hj=>by
   simp only[u]
   by_cases mX:j<vs.length
   ·rw[if_pos mX,List.getElem_append_left mX];exact k3 j mX
   ·rw[if_neg mX,List.getElem_append_right (by omega)];exact u1 _ (by simp at hj;omega)) (λ_ _ h=>h) (λq _=>hhn _ (by simp only[M];omega)) (λq _ _=>hf _ (by simp only[M];omega))
 let ρf:Nat→Option RI:=λr=>if base≤r∧r<base+128 then ρ2 (M+(r - base))else if h:∃q,mB ks 0 bs q=some r then ρ (Classical.choose h)else none
 let φ:Nat→Nat:=λr=>if base≤r∧r<base+128 then M+(r - base)else if h:∃q,mB ks 0 bs q=some r then Classical.choose h else 0
 have BY:∀q,q<128→ρf (base+q)=ρ2 (M+q)∧φ (base+q)=M+q:=λq hq=>by
  have h1:base≤base+q∧base+q<base+128:=by omega
  simp only[ρf,φ,if_pos h1];have:base+q - base=q:=by omega
  simp[this]
 have VZ:∀q b,mB ks 0 bs q=some b→ρf b=ρ q∧φ b=q:=λq b hq=>by
  have h1:¬(base≤b∧b<base+128):=O8 b (LE _ _ _ _ _ hq).2.2;have h2:∃q,mB ks 0 bs q=some b:=⟨q,hq⟩;have h3:Classical.choose h2=q:=XR ks 0 bs _ _ b L4 (Classical.choose_spec h2) hq;simp only[ρf,φ,if_neg h1,dif_pos h2,h3];exact⟨trivial,trivial⟩
 -- the rows
 have IV:∀q row,gF ks as bs ow base shape R0 q=some row→
   (∃p t l,p<128∧q=base+p∧row=⟨.arr t l, .own⟩∧g2 (M+p)=some row)∨
   ∃p off n cs ri,mB ks 0 bs p=some q∧row=⟨.box ((((SA ow base 0 R0).drop (QK shape)).drop off).take n), .own⟩∧off+n≤us.length∧g2 p=some ⟨.box cs, .own⟩∧ρ p=some ri∧ri.nl=false∧p<M∧
    ∀i,i<n→w.frozen? (at_ ri.b i)=false∧w.cell? (at_ ri.b i)=some (uc (off+i)):=λq row hq=>by
  rcases u2 bs _ _ q row hq with h1 | ⟨p,off,n,cs,ri,e1,e2,e3,e4,e5,e6,e7⟩
  ·obtain⟨t,l,h3,h4,h5⟩:=PD _ _ _ _ _ _ h1;refine .inl ⟨q - base,t,l,by omega,by omega,h3,?_⟩;rw[T.new (q - base) (by omega) (by omega), ←fR ow base M R0 0 (q - base),show base+(q - base)=q by omega];exact h1
  ·refine .inr ⟨p,off,n,cs,ri,e1,e2,e3,T.lies _ _ (AT ow _ _ _ _ p cs KW e4),e5,e6,?_,e7⟩
   rcases Nat.lt_or_ge p st.nx with h | h
   ·exact h
   ·rw[hf p h]at e5;cases e5
 have jW:∀b,sA outer ρf (gF ks as bs ow base shape R0) b→sA outer ρ2 g2 b:=by
  rintro b (hb | ⟨q,row,ri,f1,f2,f3,f4,f5⟩)
  ·exact .inl hb
  ·rcases IV q row f1 with⟨p,t,l,h1,rfl,h3,h4⟩ | ⟨p,off,n,cs,ri',e1,e2,e3,e4,e5,e6,e7,e8⟩
   ·rw[(BY p h1).1]at f3;exact .inr ⟨_,row,ri,h4,f2,f3,f4,f5⟩
   ·rw[(VZ p q e1).1]at f3;exact .inr ⟨p,_,ri,e4,rfl,T.ext _ _ f3,f4,f5⟩
 have hX:∀j (hj:j<(SA ow base 0 R0).length),VR w ρf (sA outer ρf (gF ks as bs ow base shape R0)) (u j) (SA ow base 0 R0)[j]:=
  kR (w:=w) (ρ:=ρ2) (ρ2:=ρf) (bad:=sA outer ρ2 g2) (bad2:=sA outer ρf (gF ks as bs ow base shape R0)) ow M base R0 0 u (λq _ hq _ _=>(BY q (by omega)).1) (λj hj=>(T.closed j hj).1) jW T.vals
 refine⟨_,k4,ρf,?_,?_,λq b hq=>(VZ q b hq).1,λq hq=>?_⟩
 ·refine T.heap.sub φ T.heap.wx T.heap.old T.heap.outLt (λq row hq=>?_) (λq q' row row' h1 h2 h3=>?_)
  ·rcases IV q row hq with⟨p,t,l,h1,rfl,rfl,h4⟩ | ⟨p,off,n,cs,ri,e1,e2,e3,e4,e5,e6,e7,e8⟩
   ·obtain⟨ri,f1,f2,f3⟩:=T.heap.rows _ _ h4;exact⟨_,ri,by rw[(BY p h1).2];exact h4,by rw[(BY p h1).1];exact f1,by rw[(BY p h1).2];exact f1,zaJ f2 jW ρf,λhn=>(f3 hn).1⟩
   ·obtain⟨ri',f1,f2,f3⟩:=T.heap.rows _ _ e4;rw[T.ext _ _ e5]at f1;cases f1;refine⟨_,ri,by rw[(VZ p q e1).2];exact e4,by rw[(VZ p q e1).1];exact e5,by rw[(VZ p q e1).2];exact T.ext _ _ e5,?_,λhn=>⟨(f3 hn).1.1,λ_=>(f3 hn).1.2 rfl⟩⟩;rw[e2];refine⟨e6,λi hi=>?_⟩
    have FW:i<n∧vs.length+off+i<(SA ow base 0 R0).length:=by
     simp only[List.length_take,List.length_drop]at hi;omega
    obtain⟨g3,g4⟩:=e8 i FW.1;refine⟨g3,_,g4,?_⟩;have h5:=hX (vs.length+(off+i)) (by omega);simp only[u]at h5;rw[if_neg (by omega),show vs.length+(off+i) - vs.length=off+i by omega]at h5;simp only[List.getElem_take,List.getElem_drop,L9];exact h5
  ·rcases IV q row h1 with⟨p,t,l,f1,rfl,f3,f4⟩ | ⟨p,off,n,cs,ri,e1,e2,e3,e4,e5,e6,e7,e8⟩<;>
   rcases IV q' row' h2 with⟨p',t',l',f1',rfl,f3',f4'⟩ | ⟨p',off',n',cs',ri',e1',e2',e3',e4',e5',e6',e7',e8'⟩
   ·rw[(BY p f1).2,(BY p' f1').2]at h3;omega
   ·rw[(BY p f1).2,(VZ p' q' e1').2]at h3;omega
   ·rw[(VZ p q e1).2,(BY p' f1').2]at h3;omega
   ·rw[(VZ p q e1).2,(VZ p' q' e1').2]at h3;subst h3;rw[e1]at e1';exact Option.some.inj e1'
 ·refine zuP k1 (by rw[wE];omega) λj hj RW=>?_;have h5:=hX j hj;simp only[u]at h5;rw[if_pos (by omega)]at h5;exact h5
 ·by_cases h1:base≤q∧q<base+128
  ·exact .inl h1
  ·by_cases h2:∃p,mB ks 0 bs p=some q
   ·obtain⟨p,h2⟩:=h2;exact .inr (LE _ _ _ _ _ h2).2.2
   ·simp only[ρf,if_neg h1,dif_neg h2]at hq;exact absurd rfl hq
def ztM (hC : LF C) (hΦ : YF C) {f : Nat} {fn : Func} {body : Code} (hf : C.P.funcs[f]? = some fn) (hb : fn.body = some body) (JW : (fn.name == "runtime.NumGoroutine") = false)
  (hnt:C.nt=fn.ntmps) (an:An) (ks:List nB) (ow:List Nat) (shape:List (Bool×Nat)) (ats rts:List Ty) (F:iB ats→Option (iB rts))
  (kY:bC ks ats=true) (S3:Nat.ble ks.length fn.ntmps=true)
  (P8:∀x r,xA ats x→F x=some r→BV C fn body an ks ow shape rts (cB ats x)=some r):
  xB C.P f ⟨ks,iB ats,iB rts,rD ats,F,qE rts,shape,ow,false⟩ C.g:=by
 intro w args as outer ownw ρ x r base bs YV TY hh MX IW L4 O8 qZ hF N6 hgl;simp only at YV TY hh MX IW qZ hF N6;have S3:=Nat.le_of_ble_eq_true S3;refine .inl ⟨?_,calls_of_wp hf hb ?_⟩
 ·have RX : ¬ fn.name = "runtime.NumGoroutine" := by simpa using JW
  simp[callFunc,program,hf,hb,RX,Sem.run]
 obtain⟨pb1,pb2⟩:=zqv ks ats as x 0 kY qZ;obtain⟨ρ2,H1,H2,H3,H4,H5⟩:=zks kY qZ hh IW;obtain⟨e1,e2⟩:=zkO (w:=w) (ρ:=ρ) H2 ks ats as x 0 (λj=>args.getD j undef) kY qZ (λq t h1 h2=>H5 q _ h1 h2) MX;have m9:∀base rs,gF ks (cB ats x) bs ow base shape rs=gF ks as bs ow base shape rs:=λbase rs=>by simp only[gF,pb1]
 have aZ:bB C w outer ownw ρ2 {s:=λi=>match(tB ks 0 (cB ats x)).drop i with | v :: _=>v | []=> .undef,h:=BA ks 0 (cB ats x),nx:=128 *ks.length}
   {tmps:=args++Array.replicate (fn.ntmps - args.size) undef,defers:=[]} w:=by
  refine⟨H1,λi=>?_,by simp;omega,rfl,hgl⟩;show VR w ρ2 _ _ (match(tB ks 0 (cB ats x)).drop i with | v :: _=>v | []=> .undef)
  by_cases hi:i<(tB ks 0 (cB ats x)).length
  ·rw[List.drop_eq_getElem_cons hi];have h3:=e2 i hi;have hia:i<args.size:=by omega
   rw[Array.getD_eq_getD_getElem?]at h3⊢;rw[Array.getElem?_append_left hia];exact h3
  ·rw[List.drop_eq_nil_of_le (by omega)];exact .undef _
 refine zkV hC hΦ an body (λ_=>True) (zjR an body) _ _ w ρ2 _ r _ aZ (λq hq=>H4 q hq) (P8 x r (zfj ats x (zlD H1 ks ats x 0 (λj=>args.getD j undef) kY (λ_ _ h=>h) λj hj=>e2 j hj)) hF) λe st' a' w' ρ' hg hk=>?_
 have key:(match pH C.P st' fn.results.toList shape,jF st' ks (cB ats x) 0 with
   | some vs,some us=>match OD ow 0 (vs++us) st'.h with
    | some (rs,_)=>VI rts rs
    | none=>none
   | _,_=>none)=some r→a'.defers=[]∧∃v,(results fn a'.tmps).run C.P w'= .ok v w'∧∃v',Ending.returned v= .returned v'∧∃ρf,sB w outer ownw ρf (gF ks as bs ow base shape (qE rts r)) w'∧
   VR w' ρf (sA outer ρf (gF ks as bs ow base shape (qE rts r))) v' (kI shape (SA ow base 0 (qE rts r)))∧
   (∀q b,mB ks 0 bs q=some b→ρf b=ρ q)∧(∀r,ρf r≠none→(base≤r∧r<base+128)∨r∈bs):=by
  intro hk;split at hk
  case h_2=>cases hk
  rename_i vs us xX L6;split at hk
  case h_2=>cases hk
  rename_i rs h2 KW;obtain⟨v,h3,ρf,h4,h5,h6,h7⟩:=zvM (bs:=bs) (base:=base) hg.rel hg.fresh xX L6 KW hk N6 L4 O8;rw[m9]at h4 h5;refine⟨hg.rel.defers,v,h3,v,rfl,ρf,h4,h5,λq b hq=>?_,h7⟩;rw[h6 q b hq];obtain⟨row,IV⟩:=pb2 bs q b hq;obtain⟨ri,h8,_⟩:=hh.rows _ _ IV;rw[hg.ext _ _ (H3 _ _ h8),h8]
 cases e with
 | exit id=>cases hk
 | normal=>exact key hk
 | ret=>exact key hk
noncomputable def zdp(C:Cx)(fn:Func)(body:Code)(an:An)(ks:List nB)(ts:List Ty)(as:List V):Option (iB ts):=
 SE C an body {s:=λi=>match(tB ks 0 as).drop i with | v :: _=>v | []=> .undef,h:=BA ks 0 as,nx:=128 *ks.length} λe st=>
  match e with
  | .exit _=>none
  | _=>match fn.results.toList with
   | [.tmp t]=>match st.s t with
    | .bp b 0=>match st.h b with
     | some ⟨.box cs, .own⟩=>bif cs.all (kG 8)then VI ts cs else none
     | _=>none
    | _=>none
   | _=>none
def zvf{fn:Func}{ks:List nB}{as:List V}{bs:List Nat}{base t b:Nat}{rts:List Ty}{cs:List V}{r:iB rts}
  (hr:bB C w0 outer own ρ st a w) (xX:fn.results.toList=[.tmp t]) (hs:st.s t= .bp b 0) (IV:st.h b=some ⟨.box cs, .own⟩) (SW:cs.all (kG 8)=true) (hun:VI rts cs=some r):
  ∃v,(results fn a.tmps).run C.P w= .ok v w∧∃ρf,sB w0 outer own ρf (zA (λ_=>none) base (some ⟨.box (qE rts r), .own⟩)) w∧
   VR w ρf (sA outer ρf (zA (λ_=>none) base (some ⟨.box (qE rts r), .own⟩))) v (.bp base 0)∧(∀q,ρf q≠none→q=base):=by
 have hv:=hr.slots t;rw[hs]at hv;obtain⟨ri,hρ,XV,P3⟩:=hr.heap.rows _ _ IV;have oW:=zeR rts cs r hun;generalize qE rts r=es at oW;generalize hA:a.tmps.getD t undef=A at hv;cases hv with
 | bp _ _ ri' h1 h2=>
 rw[hρ]at h1;cases h1;let ρf:Nat→Option RI:=λq=>if q=base then some ri else none
 have jW:∀c,sA outer ρf (zA (λ_=>none) base (some ⟨.box es, .own⟩)) c→sA outer ρ st.h c:=by
  rintro c (hb | ⟨q,row,ri',f1,f2,f3,f4,f5⟩)
  ·exact .inl hb
  ·by_cases hq:q=base
   ·subst hq;simp only[ρf,if_true,Option.some.injEq]at f3;subst f3;exact .inr ⟨b,_,ri,IV,rfl,hρ,f4,f5⟩
   ·rw[AA _ _ _ _ hq]at f1;cases f1
 refine⟨.pointer (some (at_ ri.b 0)),?_,ρf,?_, .bp _ _ ri (by simp[ρf]) h2,λq hq=>?_⟩
 ·have:=zfw (P:=C.P) (w:=w) (dL a.tmps) fn.results.toList [.pointer (some (at_ ri.b 0))] (by rw[xX];rfl) (λi hi hi2=>by
   simp only[xX]at hi⊢;have:i=0:=by simp at hi;omega
   subst this;simp only[List.getElem_cons_zero,dL,hA];rfl)
  show((do let vs ←fn.results.mapM (dL a.tmps);pure (if h:vs.size=1 then vs[0]else .tuple vs)):Sem Value).run C.P w=_
  rw[Array.mapM_eq_mapM_toList];simp only[Sem.run_bind,Sem.run_map,this,Result.andThen_ok,Sem.run_pure];rfl
 ·refine hr.heap.sub (λ_=>b) hr.heap.wx hr.heap.old hr.heap.outLt (λq row hq=>?_) (λq q' row row' g1 g2 _=>?_)
  ·by_cases z3:q=base
   ·subst z3;rw[RA]at hq;cases hq;refine⟨_,ri,IV,by simp[ρf],hρ,⟨h2,λj hj=>?_⟩,λhn=>⟨(P3 hn).1.1,λ_=>(P3 hn).1.2 rfl⟩⟩;have RW:j<cs.length:=by rw[oW.len];exact hj
    obtain⟨e1,u,e2,e3⟩:=XV.2 j RW;refine⟨e1,u,e2,VR.sub (oW.get j RW hj) ?_⟩;have hn:=(zbR 8 _ (List.all_eq_true.1 SW _ (List.getElem_mem RW))).1;exact(e3.noRef hn ρf).mono (λ_ _ h=>h) (λ_ _ _=>rfl) λc hc=> .inl (jW c hc)
   ·rw[AA _ _ _ _ z3]at hq;cases hq
  ·have k1:q=base:=by
    rcases Nat.decEq q base with h | h
    ·rw[AA _ _ _ _ h]at g1;cases g1
    ·exact h
   have k2:q'=base:=by
    rcases Nat.decEq q' base with h | h
    ·rw[AA _ _ _ _ h]at g2;cases g2
    ·exact h
   rw[k1,k2]
 ·by_cases h:q=base
  ·exact h
  ·simp only[ρf,if_neg h]at hq;exact absurd rfl hq
omit [jA]in
def ziI:∀(n k:Nat) (bs:List Nat) (q:Nat),mB (List.replicate n .plain) k bs q=none
 | 0,k,bs,q=>by simp[mB]
 | n+1,k,bs,q=>by simp only[List.replicate_succ,mB];exact ziI n (k+1) bs q
def zum (hC : LF C) (hΦ : YF C) {f : Nat} {fn : Func} {body : Code} (hf : C.P.funcs[f]? = some fn) (hb : fn.body = some body) (JW : (fn.name == "runtime.NumGoroutine") = false)
  (hnt:C.nt=fn.ntmps) (an:An) (n:Nat) (shape:List (Bool×Nat)) (ats rts:List Ty) (F:iB ats→Option (iB rts))
  (kY:bC (List.replicate n .plain) ats=true) (S3:Nat.ble n fn.ntmps=true)
  (P8:∀x r,xA ats x→F x=some r→zdp C fn body an (List.replicate n nB.plain) rts (cB ats x)=some r):
  xB C.P f ⟨List.replicate n .plain,iB ats,iB rts,rD ats,F,qE rts,shape,[],true⟩ C.g:=by
 generalize O6:List.replicate n nB.plain=ks at kY P8⊢;have hkn:ks.length=n:=by rw[←O6];simp
 intro w args as outer ownw ρ x r base bs YV TY hh MX IW L4 O8 qZ hF N6 hgl;simp only at YV TY hh MX IW qZ hF N6;have S3:=Nat.le_of_ble_eq_true S3;refine .inl ⟨?_,calls_of_wp hf hb ?_⟩
 ·have RX : ¬ fn.name = "runtime.NumGoroutine" := by simpa using JW
  simp[callFunc,program,hf,hb,RX,Sem.run]
 obtain⟨ρ2,H1,H2,H3,H4,H5⟩:=zks kY qZ hh IW;obtain⟨e1,e2⟩:=zkO (w:=w) (ρ:=ρ) H2 ks ats as x 0 (λj=>args.getD j undef) kY qZ (λq t h1 h2=>H5 q _ h1 h2) MX
 have aZ:bB C w outer ownw ρ2 {s:=λi=>match(tB ks 0 (cB ats x)).drop i with | v :: _=>v | []=> .undef,h:=BA ks 0 (cB ats x),nx:=128 *ks.length}
   {tmps:=args++Array.replicate (fn.ntmps - args.size) undef,defers:=[]} w:=by
  refine⟨H1,λi=>?_,by simp;omega,rfl,hgl⟩;show VR w ρ2 _ _ (match(tB ks 0 (cB ats x)).drop i with | v :: _=>v | []=> .undef)
  by_cases hi:i<(tB ks 0 (cB ats x)).length
  ·rw[List.drop_eq_getElem_cons hi];have h3:=e2 i hi;have hia:i<args.size:=by omega
   rw[Array.getD_eq_getD_getElem?]at h3⊢;rw[Array.getElem?_append_left hia];exact h3
  ·rw[List.drop_eq_nil_of_le (by omega)];exact .undef _
 refine zkV hC hΦ an body (λ_=>True) (zjR an body) _ _ w ρ2 _ r _ aZ (λq hq=>H4 q hq) (P8 x r (zfj ats x (zlD H1 ks ats x 0 (λj=>args.getD j undef) kY (λ_ _ h=>h) λj hj=>e2 j hj)) hF) λe st' a' w' ρ' hg hk=>?_
 have key:(match fn.results.toList with
   | [.tmp t]=>match st'.s t with
    | .bp b 0=>match st'.h b with
     | some ⟨.box cs, .own⟩=>bif cs.all (kG 8)then VI rts cs else none
     | _=>none
    | _=>none
   | _=>none)=some r→a'.defers=[]∧∃v,(results fn a'.tmps).run C.P w'= .ok v w'∧∃v',Ending.returned v= .returned v'∧∃ρf,sB w outer ownw ρf (zA (λ_=>none) base (some ⟨.box (qE rts r), .own⟩)) w'∧
   VR w' ρf (sA outer ρf (zA (λ_=>none) base (some ⟨.box (qE rts r), .own⟩))) v' (.bp base 0)∧
   (∀q b,mB ks 0 bs q=some b→ρf b=ρ q)∧(∀r,ρf r≠none→(base≤r∧r<base+128)∨r∈bs):=by
  intro hk;split at hk
  case h_2=>cases hk
  rename_i t xX;split at hk
  case h_2=>cases hk
  rename_i b hs;split at hk
  case h_2=>cases hk
  rename_i cs IV;cases SW:cs.all (kG 8)
  case false=>simp[SW]at hk
  simp only[SW,cond_true]at hk;obtain⟨v,h3,ρf,h4,h5,h6⟩:=zvf (ks:=ks) (as:=as) (bs:=bs) (base:=base) hg.rel xX hs IV SW hk;refine⟨hg.rel.defers,v,h3,v,rfl,ρf,h4,h5,λq b hq=>?_,λq hq=>?_⟩
  ·rw[←O6,ziI]at hq;cases hq
  ·rw[h6 q hq];exact .inl ⟨Nat.le_refl _,by omega⟩
 cases e with
 | exit id=>cases hk
 | normal=>exact key hk
 | ret=>exact key hk
end
end Go.D
namespace Go.D
inductive LK where
 | i | by | b | s
 | l (t:TN)
 deriving DecidableEq
def lk:TN→List LK
 | .byte=>[.by] | .int=>[.i] | .bool=>[.b] | .str=>[.s] | .bs=>[.l .byte]
 | .Addr=>[.i, .i]
 | .Op=>[.i, .i, .i, .l .byte]
 | .Event=>[.i, .i, .i, .i, .l .byte, .l .Op]
 | .Jar=>[.l .byte]
 | .Dice=>[.l .byte, .i]
 | .Win=>[.i, .l .int]
 | .Ep=>[.i, .l .byte, .i, .i, .l .int]
 | .Chan=>[.i, .l .byte, .i, .l .byte, .i, .i, .l .int, .i, .l .byte, .i, .i, .l .int, .b, .i, .l .byte]
 | .Cand=>[.i, .i, .l .byte, .i]
 | .Paths=>[.i, .i, .l .Cand]
 | .Sess=>[.i, .l .byte, .l .byte, .i, .l .byte, .i, .l .byte, .i, .i, .l .int, .i, .l .byte, .i, .i, .l .int, .b, .i, .l .byte, .i, .i, .l .Cand, .i, .i, .b]
 | .Tab=>[.i, .l .Sess]
 | .Credit=>[.i, .i, .i, .i]
 | .Server=>[.l .bs, .l .byte, .l .byte, .i, .i, .l .Sess, .l .Credit]
 | .Frame=>[.i, .i, .l .byte, .l .byte, .i, .l .byte, .l .byte, .i, .i, .l .byte, .l .byte]
 | .Timer=>[.b, .i, .i, .i]
 | .Client=>[.i, .l .byte, .i, .i, .i, .l .byte, .i, .i, .l .byte, .l .byte, .i, .l .byte, .l .byte, .i, .i, .l .byte, .l .byte, .i, .l .byte, .i, .l .byte, .i, .i, .l .int, .i, .l .byte, .i, .i, .l .int, .b, .i, .l .byte, .b, .i, .i, .i, .b, .i, .i, .i, .i]
 | .Wire=>[.i, .i, .i, .i, .l .byte]
 | .Note=>[.i, .i, .i, .l .byte, .l .byte, .i, .i, .l .byte, .l .byte, .i, .i, .i]
 | .World=>[.i, .l .Client, .l .bs, .l .byte, .l .byte, .i, .i, .l .Sess, .l .Credit, .l .byte, .i, .l .Wire, .l .bs, .l .Note]
 | .Cur=>[.l .byte, .i, .i]
 | .Out=>[.i, .i, .i, .i, .l .byte, .l .byte, .i, .l .byte, .l .byte, .i, .i, .l .byte, .l .byte]
 | .Form=>[.i, .s]
 | .Hash=>[.l .int, .l .byte, .i]
def Mat:LK→V→Prop
 | .i,v=>∃n,GA v=some n
 | .by,v=>∃n,US v=some n
 | .b,v=>∃n,HH v=some n
 | .s,v=>∃n,HO v=some n
 | .l t,v=>∃n,WA t v=some n
inductive iC:List LK→List V→Prop
 | nil:iC [] []
 | cons {k:LK} {v:V} {ks:List LK} {vs:List V} (h:Mat k v) (r:iC ks vs):iC (k :: ks) (v :: vs)
def iC.app{a b:List LK}{x y:List V}(h:iC a x)(k:iC b y):iC (a++b) (x++y):=by
 induction h with
 | nil=>exact k
 | cons h _ ih=>exact .cons h ih
def iC.len{a:List LK}{x:List V}(h:iC a x):a.length=x.length:=by
 induction h with
 | nil=>rfl
 | cons h _ ih=>simp[ih]
def iC.take{k:LK}{ks:List LK}{x:List V}(h:iC (k :: ks) x):∃v r,x=v :: r∧Mat k v∧iC ks r:=by
 cases h with | cons h r=>exact⟨_,_,rfl,h,r⟩
def rV{α β:Type}{p:V→Option α}{v:V}{a:α}(h:p v=some a)(cs:List V)(k:α→List V→Option β):tk p (v :: cs) k=k a cs:=by simp[tk,h]
def LD{β:Type}(r:β){x:List V}(h:iC [] x):∃y,WB x r=some y:=by cases h;exact⟨r,rfl⟩
def JA{β:Type}{ks:List LK}{K:Int→List V→Option β}{x:List V}(h:iC (.i :: ks) x)(hk:∀a r,iC ks r→∃y,K a r=some y):∃y,tk GA x K=some y:=by
 cases h with | cons h r=>obtain⟨a,h⟩:=h;rw[rV h];exact hk _ _ r
def AM{β:Type}{ks:List LK}{K:Bool→List V→Option β}{x:List V}(h:iC (.b :: ks) x)(hk:∀a r,iC ks r→∃y,K a r=some y):∃y,tk HH x K=some y:=by
 cases h with | cons h r=>obtain⟨a,h⟩:=h;rw[rV h];exact hk _ _ r
def zlX{β:Type}{ks:List LK}{K:List UInt8→List V→Option β}{x:List V}(h:iC (.s :: ks) x)(hk:∀a r,iC ks r→∃y,K a r=some y):∃y,tk HO x K=some y:=by
 cases h with | cons h r=>obtain⟨a,h⟩:=h;rw[rV h];exact hk _ _ r
def fB{β:Type}{t:TN}{ks:List LK}{K:List (El t)→List V→Option β}{x:List V}(h:iC (.l t :: ks) x)(hk:∀a r,iC ks r→∃y,K a r=some y):∃y,tk (WA t) x K=some y:=by
 cases h with | cons h r=>obtain⟨a,h⟩:=h;rw[rV h];exact hk _ _ r
def zt2{x:List V}(h:iC (lk .Addr) x):∃y,zcS x=some y:=JA h λ_ _ h=>JA h λ_ _ h=>LD _ h
def zv3{x:List V}(h:iC (lk .Op) x):∃y,zdw x=some y:=JA h λ_ _ h=>JA h λ_ _ h=>JA h λ_ _ h=>fB h λ_ _ h=>LD _ h
def zsI{x:List V}(h:iC (lk .Event) x):∃y,zcA x=some y:=JA h λ_ _ h=>JA h λ_ _ h=>JA h λ_ _ h=>JA h λ_ _ h=>fB h λ_ _ h=>fB h λ_ _ h=>LD _ h
def zu5{x:List V}(h:iC (lk .Jar) x):∃y,zdl x=some y:=fB h λ_ _ h=>LD _ h
def zul{x:List V}(h:iC (lk .Dice) x):∃y,zcX x=some y:=fB h λ_ _ h=>JA h λ_ _ h=>LD _ h
def zuO{x:List V}(h:iC (lk .Win) x):∃y,zda x=some y:=JA h λ_ _ h=>fB h λ_ _ h=>LD _ h
def zvU{x:List V}(h:iC (lk .Ep) x):∃y,zdu x=some y:=JA h λ_ _ h=>fB h λ_ _ h=>JA h λ_ _ h=>JA h λ_ _ h=>fB h λ_ _ h=>LD _ h
def zt9{x:List V}(h:iC (lk .Chan) x):∃y,zc2 x=some y:=JA h λ_ _ h=>fB h λ_ _ h=>JA h λ_ _ h=>fB h λ_ _ h=>JA h λ_ _ h=>JA h λ_ _ h=>fB h λ_ _ h=>JA h λ_ _ h=>fB h λ_ _ h=>JA h λ_ _ h=>JA h λ_ _ h=>fB h λ_ _ h=>AM h λ_ _ h=>JA h λ_ _ h=>fB h λ_ _ h=>LD _ h
def zts{x:List V}(h:iC (lk .Cand) x):∃y,zcM x=some y:=JA h λ_ _ h=>JA h λ_ _ h=>fB h λ_ _ h=>JA h λ_ _ h=>LD _ h
def zsL{x:List V}(h:iC (lk .Paths) x):∃y,zcd x=some y:=JA h λ_ _ h=>JA h λ_ _ h=>fB h λ_ _ h=>LD _ h
def zur{x:List V}(h:iC (lk .Sess) x):∃y,zc4 x=some y:=JA h λ_ _ h=>fB h λ_ _ h=>fB h λ_ _ h=>JA h λ_ _ h=>fB h λ_ _ h=>JA h λ_ _ h=>fB h λ_ _ h=>JA h λ_ _ h=>JA h λ_ _ h=>fB h λ_ _ h=>JA h λ_ _ h=>fB h λ_ _ h=>JA h λ_ _ h=>JA h λ_ _ h=>fB h λ_ _ h=>AM h λ_ _ h=>JA h λ_ _ h=>fB h λ_ _ h=>JA h λ_ _ h=>JA h λ_ _ h=>fB h λ_ _ h=>JA h λ_ _ h=>JA h λ_ _ h=>AM h λ_ _ h=>LD _ h
def zuv{x:List V}(h:iC (lk .Tab) x):∃y,zdf x=some y:=JA h λ_ _ h=>fB h λ_ _ h=>LD _ h
def zr2{x:List V}(h:iC (lk .Credit) x):∃y,zb0 x=some y:=JA h λ_ _ h=>JA h λ_ _ h=>JA h λ_ _ h=>JA h λ_ _ h=>LD _ h
def zrB{x:List V}(h:iC (lk .Server) x):∃y,zbW x=some y:=fB h λ_ _ h=>fB h λ_ _ h=>fB h λ_ _ h=>JA h λ_ _ h=>JA h λ_ _ h=>fB h λ_ _ h=>fB h λ_ _ h=>LD _ h
def zsu{x:List V}(h:iC (lk .Frame) x):∃y,zcq x=some y:=JA h λ_ _ h=>JA h λ_ _ h=>fB h λ_ _ h=>fB h λ_ _ h=>JA h λ_ _ h=>fB h λ_ _ h=>fB h λ_ _ h=>JA h λ_ _ h=>JA h λ_ _ h=>fB h λ_ _ h=>fB h λ_ _ h=>LD _ h
def zsS{x:List V}(h:iC (lk .Timer) x):∃y,zct x=some y:=AM h λ_ _ h=>JA h λ_ _ h=>JA h λ_ _ h=>JA h λ_ _ h=>LD _ h
def zrQ{x:List V}(h:iC (lk .Client) x):∃y,zbV x=some y:=JA h λ_ _ h=>fB h λ_ _ h=>JA h λ_ _ h=>JA h λ_ _ h=>JA h λ_ _ h=>fB h λ_ _ h=>JA h λ_ _ h=>JA h λ_ _ h=>fB h λ_ _ h=>fB h λ_ _ h=>JA h λ_ _ h=>fB h λ_ _ h=>fB h λ_ _ h=>JA h λ_ _ h=>JA h λ_ _ h=>fB h λ_ _ h=>fB h λ_ _ h=>JA h λ_ _ h=>fB h λ_ _ h=>JA h λ_ _ h=>fB h λ_ _ h=>JA h λ_ _ h=>JA h λ_ _ h=>fB h λ_ _ h=>JA h λ_ _ h=>fB h λ_ _ h=>JA h λ_ _ h=>JA h λ_ _ h=>fB h λ_ _ h=>AM h λ_ _ h=>JA h λ_ _ h=>fB h λ_ _ h=>AM h λ_ _ h=>JA h λ_ _ h=>JA h λ_ _ h=>JA h λ_ _ h=>AM h λ_ _ h=>JA h λ_ _ h=>JA h λ_ _ h=>JA h λ_ _ h=>JA h λ_ _ h=>LD _ h
def zt0{x:List V}(h:iC (lk .Wire) x):∃y,zcZ x=some y:=JA h λ_ _ h=>JA h λ_ _ h=>JA h λ_ _ h=>JA h λ_ _ h=>fB h λ_ _ h=>LD _ h
def ztS{x:List V}(h:iC (lk .Note) x):∃y,zcI x=some y:=JA h λ_ _ h=>JA h λ_ _ h=>JA h λ_ _ h=>fB h λ_ _ h=>fB h λ_ _ h=>JA h λ_ _ h=>JA h λ_ _ h=>fB h λ_ _ h=>fB h λ_ _ h=>JA h λ_ _ h=>JA h λ_ _ h=>JA h λ_ _ h=>LD _ h
def zsc{x:List V}(h:iC (lk .World) x):∃y,zcg x=some y:=JA h λ_ _ h=>fB h λ_ _ h=>fB h λ_ _ h=>fB h λ_ _ h=>fB h λ_ _ h=>JA h λ_ _ h=>JA h λ_ _ h=>fB h λ_ _ h=>fB h λ_ _ h=>fB h λ_ _ h=>JA h λ_ _ h=>fB h λ_ _ h=>fB h λ_ _ h=>fB h λ_ _ h=>LD _ h
def zvn{x:List V}(h:iC (lk .Cur) x):∃y,zdn x=some y:=fB h λ_ _ h=>JA h λ_ _ h=>JA h λ_ _ h=>LD _ h
def zvv{x:List V}(h:iC (lk .Out) x):∃y,zdh x=some y:=JA h λ_ _ h=>JA h λ_ _ h=>JA h λ_ _ h=>JA h λ_ _ h=>fB h λ_ _ h=>fB h λ_ _ h=>JA h λ_ _ h=>fB h λ_ _ h=>fB h λ_ _ h=>JA h λ_ _ h=>JA h λ_ _ h=>fB h λ_ _ h=>fB h λ_ _ h=>LD _ h
def zup{x:List V}(h:iC (lk .Form) x):∃y,zcQ x=some y:=JA h λ_ _ h=>zlX h λ_ _ h=>LD _ h
def zua{x:List V}(h:iC (lk .Hash) x):∃y,zc6 x=some y:=fB h λ_ _ h=>fB h λ_ _ h=>JA h λ_ _ h=>LD _ h
def zjV(t:TN)(x:List V)(h:iC (lk t) x):∃y,fF t x=some y:=by
 cases t with
 | byte=>
  cases h with
  | cons h r=>
   obtain⟨a,h⟩:=h;cases r;refine⟨a,?_⟩;simp only[fF];rw[rV h];rfl
 | int=>exact JA h λ_ _ h=>LD _ h
 | bool=>exact AM h λ_ _ h=>LD _ h
 | str=>exact zlX h λ_ _ h=>LD _ h
 | bs=>exact fB h λ_ _ h=>LD _ h
 | Addr=>exact zt2 h
 | Op=>exact zv3 h
 | Event=>exact zsI h
 | Jar=>exact zu5 h
 | Dice=>exact zul h
 | Win=>exact zuO h
 | Ep=>exact zvU h
 | Chan=>exact zt9 h
 | Cand=>exact zts h
 | Paths=>exact zsL h
 | Sess=>exact zur h
 | Tab=>exact zuv h
 | Credit=>exact zr2 h
 | Server=>exact zrB h
 | Frame=>exact zsu h
 | Timer=>exact zsS h
 | Client=>exact zrQ h
 | Wire=>exact zt0 h
 | Note=>exact ztS h
 | World=>exact zsc h
 | Cur=>exact zvn h
 | Out=>exact zvv h
 | Form=>exact zup h
 | Hash=>exact zua h
end Go.D
namespace Go.D
variable [jA]
open Go.RowKit Go.ChangeShapes
section
variable {H:Type} {encH:TypeId×Value→H} {P:Program} {W:World}
def cJ:Nat→Option RI:=λ_=>none
def IG:Nat→Prop:=λ_=>False
def cI(P:Program)(tn:TypeId→Option TN):Nat→TypeId→Option (List LK)
 | 0,_=>none
 | d+1,t=>match P.underlying t with
  | some (.int .i64)=>some [.i]
  | some (.int .u8)=>some [.by]
  | some .bool=>some [.b]
  | some .string=>some [.s]
  | some (.slice e)=>(tn e).map λt=>[.l t]
  | some (.struct fs)=>(kindsF (cI P tn d) P 0 fs.toList).bind λks=>bif Nat.beq (P.cellsOf t) ks.length then some ks else none
  | _=>none
where
 kindsF (f:TypeId→Option (List LK)) (P:Program):Nat→List Field→Option (List LK)
  | _,[]=>some []
  | k,x :: xs=>bif Nat.beq x.offset k then
    match f x.type with
    | some ks=>bif Nat.beq (P.cellsOf x.type) ks.length then(kindsF f P (k+ks.length) xs).map λr=>ks++r else none
    | none=>none
   else none
structure kM(P:Program)(tn:TypeId→Option TN)(D:Nat):Prop where
 ok:∀e t,tn e=some t→cI P tn D e=some (lk t)∧P.cellsOf e=sz t
def gH(W:World)(cs:List Value)(vs:List V):Prop:=cs.length=vs.length∧∀j (hj:j<vs.length),VR W cJ IG (cs.getD j undef) vs[j]
def gH.one{c:Value}{v:V}(h:VR W cJ IG c v):gH W [c] [v]:=⟨rfl,λj hj=>by
 have:j=0:=by simp at hj;omega
 subst this;exact h⟩
def gH.app{a b:List Value}{x y:List V}(h:gH W a x)(k:gH W b y):gH W (a++b) (x++y):=by
 refine⟨by simp[h.1,k.1],λj hj=>?_⟩
 by_cases mX:j<x.length
 ·rw[List.getElem_append_left mX,zbU _ _ _ _ (by rw[h.1];exact mX)];exact h.2 j mX
 ·rw[List.getElem_append_right (by omega),zbX _ _ _ _ (by rw[h.1];omega),h.1];exact k.2 _ (by simp at hj;omega)
omit [jA]in
def zvl{k:IntKind}{n:Int}(h:(Lit.int k n).wf=true):sE k n:=by
 simp only[Lit.wf,Bool.and_eq_true,decide_eq_true_eq]at h;exact h
omit [jA]in
def ze8{α β:Type}{f:α→Option β}:∀{l:List α} {r:List β},l.mapM f=some r→r.length=l.length∧∀i (hi:i<l.length) (hr:i<r.length),f l[i]=some r[i]
 | [],r,h=>by simp at h;subst h;exact⟨rfl,λi hi=>by simp at hi⟩
 | x :: l,r,h=>by
  rw[List.mapM_cons]at h;cases hx:f x with
  | none=>rw[hx]at h;simp at h
  | some y=>
   rw[hx]at h;cases hl:l.mapM f with
   | none=>rw[hl]at h;simp at h
   | some ys=>
    rw[hl]at h;simp at h;subst h;obtain⟨h1,h2⟩:=ze8 hl;refine⟨by simp[h1],λi hi hr=>?_⟩;cases i with
    | zero=>exact hx
    | succ i=>exact h2 i (by simpa using hi) (by simpa using hr)
omit [jA]in
def ziK{α:Type}{p:Nat→α→Prop}:∀(n:Nat),(∀i,i<n→∃x,p i x)→∃l:List α,l.length=n∧∀i (hi:i<l.length),p i l[i]
 | 0,_=>⟨[],rfl,λi hi=>by simp at hi⟩
 | n+1,h=>by
  obtain⟨l,h1,h2⟩:=ziK n (λi hi=>h i (by omega));obtain⟨x,hx⟩:=h n (by omega);refine⟨l++[x],by simp[h1],λi hi=>?_⟩
  grind
omit [jA]in
def zeW{a:Addr}{n:Nat}{cs:List Value}(h:W.cells? 0 a n=some cs):cs.length=n∧∀i (_:i<n),W.cell? (a.add i)=some (cs.getD i undef):=by
 simp only[World.cells?,Nat.zero_le,if_true]at h;obtain⟨h1,h2⟩:=ze8 h
 grind
variable (hB:W.heap.size≤jA.base)in
include hB in
theorem zcO{tn:TypeId→Option TN}{D:Nat}(hK:kM P tn D){sp:Nat→Bool}{cY:Bool}:∀(fuel:Nat) (T:TypeId) (cs:List Value) (x:DataW H×List MemPlace) (d:Nat) (ks:List LK),
  DataW.trod encH P W 0 sp cY fuel T cs=some x→cI P tn d T=some ks→∃vs,gH W cs vs∧iC ks vs
 | 0,T,cs,x,d,ks,h,hk=>by simp[DataW.trod]at h
 | fuel+1,T,cs,x,0,ks,h,hk=>by simp[cI]at hk
 | fuel+1,T,cs,x,d+1,ks,h,hk=>by
  have slice:∀e,P.underlying T=some (.slice e)→(tn e).map (λt=>[LK.l t])=some ks→∃vs,gH W cs vs∧iC ks vs:=λe hu hk=>by
   obtain⟨t,ht,hk⟩:=Option.map_eq_some_iff.1 hk;subst hk;obtain⟨kk,YV⟩:=hK.ok e t ht;cases cs with
   | nil=>simp[DataW.trod,hu]at h
   | cons v r=>
   cases r with
   | cons v2 r2=>cases v<;>simp[DataW.trod,hu]at h
   | nil=>
   have hv:∃ao len cap,v= .slice ao len cap:=by cases v<;>first | exact⟨_,_,_,rfl⟩ | simp[DataW.trod,hu]at h
   obtain⟨ao,len,cap,rfl⟩:=hv;cases ao with
   | none=>
    have hz:len=0∧cap=0:=by
     cases len<;>cases cap<;>simp[DataW.trod,hu]at h
     exact⟨rfl,rfl⟩
    obtain⟨rfl,rfl⟩:=hz;exact⟨[.nil],gH.one .nil, .cons ⟨[],rfl⟩ .nil⟩
   | some a=>
    simp only[DataW.trod,hu]at h;split at h
    case isFalse=>cases h
    rename_i M4;obtain⟨_,LV,YZ⟩:=M4;obtain⟨elems,TY,_⟩:=Option.bind_eq_some_iff.1 h;rw[YV]at TY;obtain⟨m1,m2⟩:=ze8 TY;simp at m1
    have one:∀i,i<len→∃y:El t,∃u:List Value,W.cells? 0 (a.add (i *sz t)) (sz t)=some u∧∀j (_:j<sz t),VR W cJ IG (u.getD j undef) ((enc t y).getD j .undef):=λi hi=>by
     have h1:=m2 i (by simpa using hi) (by omega);simp only[List.getElem_range]at h1;obtain⟨u,h2,h3⟩:=Option.bind_eq_some_iff.1 h1;obtain⟨vs,h4,h5⟩:=zcO hK fuel e u _ D (lk t) h3 kk;obtain⟨y,h6⟩:=zjV t vs h5;have h7:=AF t h6;refine⟨y,u,h2,λj hj=>?_⟩;have RW:j<(enc t y).length:=by rw[mD];exact hj
     have mX:j<vs.length:=by rw[h7.len];exact RW
     rw[List.getD_eq_getElem?_getD (l:=enc t y),List.getElem?_eq_getElem RW];exact VR.sub (h7.get j mX RW) (h4.2 j mX)
    obtain⟨l,Q2,m0⟩:=ziK (p:=λi y=>∃u:List Value,W.cells? 0 (a.add (i *sz t)) (sz t)=some u∧∀j (_:j<sz t),VR W cJ IG (u.getD j undef) ((enc t y).getD j .undef)) len one;refine⟨[.sl t l],gH.one ?_, .cons ⟨l,by simp[WA,TN.cast]⟩ .nil⟩;cases l with
    | nil=>
     simp at Q2;subst Q2;exact .slE t _ cap YZ
    | cons y0 l0=>
    -- there is a cell:the address is a plain one
    obtain⟨u0,UZ,_⟩:=m0 0 (by simp);have G3:=(zeW UZ).2 0 (mO t)
    have I3:a.spot=none:=by
     simp only[World.cell?]at G3;split at G3
     ·simp only[Addr.add,Nat.zero_mul,if_true]at G3;cases hs:a.spot with
      | none=>rfl
      | some _=>rw[hs]at G3;simp at G3
     ·cases G3
    obtain⟨b,off,spot⟩:=a;simp only at I3;subst I3;subst Q2
    refine .slC t _ b off cap (λi j=>(W.cell? (at_ b (off+i *sz t+j))).getD undef) (λh=>h) LV YZ (λ_=> .inl (Nat.lt_of_lt_of_le (YU (show W.cell? (at_ b (off+0 *sz t+0))=_ by
     have h:=G3;rw[show(⟨b,off,none⟩:Addr)=at_ b off from rfl,jG,jG]at h;exact h)) hB)) (λi hi j hj=>?_) (λi hi j hj=>?_)
    ·obtain⟨u,h1,_⟩:=m0 i hi;have:=(zeW h1).2 j hj
     have e:((⟨b,off,none⟩:Addr).add (i *sz t)).add j=at_ b (off+i *sz t+j):=by
      show((at_ b off).add (i *sz t)).add j=_
      rw[jG,jG]
     rw[e]at this;rw[this];rfl
    ·obtain⟨u,h1,h2⟩:=m0 i hi;have:=(zeW h1).2 j hj
     have e:((⟨b,off,none⟩:Addr).add (i *sz t)).add j=at_ b (off+i *sz t+j):=by
      show((at_ b off).add (i *sz t)).add j=_
      rw[jG,jG]
     rw[e]at this;rw[this];exact h2 j hj
  simp only[cI]at hk;cases hu:P.underlying T with
  | none=>rw[hu]at hk;cases hk
  | some td=>
   rw[hu]at hk;cases td with
   | int k=>
    cases cs with
    | nil=>simp[DataW.trod,hu]at h
    | cons v r=>
    cases r with
    | cons v2 r2=>cases v<;>simp[DataW.trod,hu]at h
    | nil=>
    cases v with
    | int k' n=>
     simp only[DataW.trod,hu]at h;split at h
     case isFalse=>cases h
     rename_i M4;obtain⟨rfl,hw⟩:=M4;have hf:=zvl hw;refine⟨[.int k' n],gH.one (.int _ _ hf),?_⟩;cases k'<;>simp at hk<;>subst hk
     ·exact .cons ⟨n,rfl⟩ .nil
     ·exact .cons ⟨_,rfl⟩ .nil
    | _=>simp[DataW.trod,hu]at h
   | bool=>
    cases cs with
    | nil=>simp[DataW.trod,hu]at h
    | cons v r=>
    cases r with
    | cons v2 r2=>cases v<;>simp[DataW.trod,hu]at h
    | nil=>
    cases v with
    | bool b=>
     simp at hk;subst hk;exact⟨[.bool b],gH.one (.bool _), .cons ⟨b,rfl⟩ .nil⟩
    | _=>simp[DataW.trod,hu]at h
   | string=>
    cases cs with
    | nil=>simp[DataW.trod,hu]at h
    | cons v r=>
    cases r with
    | cons v2 r2=>cases v<;>simp[DataW.trod,hu]at h
    | nil=>
    cases v with
    | string s=>
     simp only[DataW.trod,hu]at h;split at h
     case isFalse=>cases h
     rename_i hs;simp at hk;subst hk;refine⟨[.str s.data.toList],gH.one ?_, .cons ⟨_,rfl⟩ .nil⟩
     have t5:s.data.toList.length≤maxLen:=by
      rw[Array.length_toList];exact hs
     exact VR.str (w:=W) (ρ:=cJ) (bad:=IG) s.data.toList t5
    | _=>simp[DataW.trod,hu]at h
   | slice e=>exact slice e hu hk
   | struct fs=>
    unfold DataW.trod at h;rw[hu]at h;simp only at h;split at h
    case isFalse=>cases h
    rename_i LV;obtain⟨xs,v5,_⟩:=Option.map_eq_some_iff.1 h;clear h slice
    -- the fields
    have go:∀(l:List Field) (k:Nat) (ks:List LK) (xs:List (DataW H×List MemPlace)),cI.kindsF (cI P tn d) P k l=some ks→
      l.mapM (λf=>DataW.trod encH P W 0 sp cY fuel f.type ((cs.drop f.offset).take (P.cellsOf f.type)))=some xs→
      ∃vs,iC ks vs∧k+vs.length≤max k cs.length∧gH W ((cs.drop k).take vs.length) vs:=by
     intro l;induction l with
     | nil=>
      intro k ks xs hk _;simp[cI.kindsF]at hk;subst hk;exact⟨[], .nil,by simp;omega,by simp,λj hj=>by simp at hj⟩
     | cons f l ih=>
      intro k ks xs hk hx;simp only[cI.kindsF]at hk;cases hb:Nat.beq f.offset k
      case false=>simp[hb]at hk
      have mY:=Nat.eq_of_beq_eq_true hb;simp only[hb,cond_true]at hk;split at hk
      case h_2=>cases hk
      rename_i k0 wZ;cases W1:Nat.beq (P.cellsOf f.type) k0.length
      case false=>simp[W1]at hk
      have F1:=Nat.eq_of_beq_eq_true W1;simp only[W1,cond_true]at hk;obtain⟨r,hr,rfl⟩:=Option.map_eq_some_iff.1 hk;rw[List.mapM_cons]at hx;cases h0:DataW.trod encH P W 0 sp cY fuel f.type ((cs.drop f.offset).take (P.cellsOf f.type))with
      | none=>rw[h0]at hx;simp at hx
      | some y=>
       rw[h0]at hx;cases h1:l.mapM (λf=>DataW.trod encH P W 0 sp cY fuel f.type ((cs.drop f.offset).take (P.cellsOf f.type)))with
       | none=>rw[h1]at hx;simp at hx
       | some ys=>
        obtain⟨v0,g1,g2⟩:=zcO hK fuel f.type _ y d k0 h0 wZ;have cX:v0.length=k0.length:=g2.len.symm;rw[←mY]at hr⊢;obtain⟨vs,e1,e2,e3⟩:=ih (f.offset+k0.length) r ys hr h1;have Q1:=g1.1;rw[F1]at Q1 g1;simp only[List.length_take,List.length_drop]at Q1;refine⟨v0++vs,g2.app e1,by simp;omega,?_⟩
        have es:(cs.drop f.offset).take (v0++vs).length=(cs.drop f.offset).take k0.length++(cs.drop (f.offset+k0.length)).take vs.length:=by
         rw[List.length_append,cX,List.take_add,List.drop_drop]
        rw[es];exact g1.app e3
    obtain⟨ks',BZ,JV⟩:=Option.bind_eq_some_iff.1 hk;cases hb:Nat.beq (P.cellsOf T) ks'.length
    case false=>simp[hb]at JV
    have F1:=Nat.eq_of_beq_eq_true hb;simp only[hb,cond_true,Option.some.injEq]at JV;subst JV;obtain⟨vs,e1,e2,e3⟩:=go fs.toList 0 ks' xs BZ v5;have hvl:vs.length=cs.length:=by rw[←e1.len,LV,F1]
    refine⟨vs,?_,e1⟩;rw[List.drop_zero,List.take_of_length_le (by omega)]at e3;exact e3
   | _=>simp at hk
def zaa(P:Program)(tn:TypeId→Option TN)(D:Nat)(T:TypeId):Ty→Bool
 | .v t=>(match P.underlying T with
   | some (.struct _)=>t.isAgg
   | some (.int _) | some .bool | some .string=>!t.isAgg
   | _=>false)&&decide (cI P tn D T=some (lk t))
 | .sl t=>(match P.underlying T with
   | some (.slice _)=>true
   | _=>false)&&decide (cI P tn D T=some [.l t])
 | _=>false
variable (hB:W.heap.size≤jA.base)in
include hB in
theorem zvJ{tn:TypeId→Option TN}{D:Nat}(hK:kM P tn D){sp:Nat→Bool}{cY:Bool}{T:TypeId}{ty:Ty}(xZ:zaa P tn D T ty=true){v:Value}{d:DataW H}{ps:List MemPlace}
  (h:DataW.Trod encH P W 0 sp cY T v d ps) {r:Reach} {b:Nat} (hw:Value.okWide P W r b T v):∃x:ty.T,VR W cJ IG v (EC ty x)∧jE ty (EC ty x)=some x:=by
 obtain⟨fuel,h⟩:=h
 -- a value of one cell
 have ZZ:(∀fs,P.underlying T≠some (.struct fs))→(∀n e,P.underlying T≠some (.array n e))→v.cells.toList=[v]:=λh1 h2=>by
  unfold Value.okWide at hw;split at hw
  ·rename_i fs hu;exact absurd hu (h1 _)
  ·rename_i hu;exact absurd hu (h2 _ _)
  ·cases v with
   | agg cs=>
    exfalso;unfold Cell.okWide at hw;split at hw<;>simp_all[Cell.ok]
   | _=>rfl
 cases ty with
 | v t=>
  simp only[zaa,Bool.and_eq_true,decide_eq_true_eq]at xZ;obtain⟨vs,h1,h2⟩:=zcO hB hK fuel T _ _ D _ h xZ.2;obtain⟨x,hx⟩:=zjV t vs h2;have hs:=AF t hx
  have hd:fF t (enc t x)=some x:=by
   cases t<;>first | rfl | (simp[fF,enc,tk,US,WB];done)
  refine⟨x,?_⟩;have ZV:∀j (hj:j<(enc t x).length),VR W cJ IG (v.cells.toList.getD j undef) (enc t x)[j]:=λj hj=>VR.sub (hs.get j (by rw[hs.len];exact hj) hj) (h1.2 j (by rw[hs.len];exact hj));cases yW:t.isAgg
  ·obtain⟨c,hc⟩:=zkX t yW x
   have hv:v.cells.toList=[v]:=by
    refine ZZ (λfs hu=>?_) (λn e hu=>?_)
    ·rw[hu]at xZ;simp[yW]at xZ
    ·rw[hu]at xZ;simp at xZ
   have he:EC (.v t) x=c:=by simp[EC,jK,yW,hc]
   rw[he];have h0:=ZV 0 (by rw[hc];simp);simp only[hv,hc,List.getElem_cons_zero]at h0;refine⟨h0,?_⟩;rw[hc]at hd;cases c<;>first | (simp only[jE,yW,cond_false];exact hd) | skip
   exfalso;have:=zj5 t x;rw[hc]at this;simp[V.leaf]at this
  ·have hu:∃fs,P.underlying T=some (.struct fs):=by
    revert xZ
    cases P.underlying T with
    | none=>simp
    | some td=>cases td<;>simp[yW]
   obtain⟨fs,hu⟩:=hu;unfold Value.okWide at hw;rw[hu]at hw;obtain⟨cs,rfl,YV,_⟩:=hw;have he:EC (.v t) x= .agg (enc t x):=by simp[EC,jK,yW]
   rw[he];refine⟨.agg _ _ ?_ λj hj=>?_,by simp only[jE,yW,cond_true];exact hd⟩
   ·have:=h1.1;simp only[Value.cells,Array.length_toList]at this;rw[this,hs.len]
   ·have:=ZV j hj;simp only[Value.cells]at this;rw[Array.getD_eq_getD_getElem?];rw[List.getD_eq_getElem?_getD]at this;simpa using this
 | sl t=>
  simp only[zaa,Bool.and_eq_true,decide_eq_true_eq]at xZ;obtain⟨vs,h1,h2⟩:=zcO hB hK fuel T _ _ D _ h xZ.2;obtain⟨c,r,rfl,⟨l,hl⟩,hr⟩:=h2.take;cases hr
  have hv:v.cells.toList=[v]:=by
   refine ZZ (λfs hu=>?_) (λn e hu=>?_)
   ·rw[hu]at xZ;simp at xZ
   ·rw[hu]at xZ;simp at xZ
  refine⟨l,?_,by simp[jE,EC,WA,TN.cast]⟩;have h0:=h1.2 0 (by simp);simp only[hv]at h0;exact VR.sub (ZA hl) h0
 | _=>simp[zaa]at xZ
def EM(P:Program)(tn:TypeId→Option TN)(D:Nat):List TypeId→List Ty→Bool
 | [],[]=>true
 | T :: Ts,t :: ts=>zaa P tn D T t&&EM P tn D Ts ts
 | _,_=>false
variable (hB:W.heap.size≤jA.base)in
include hB in
theorem zkY{tn:TypeId→Option TN}{D:Nat}(hK:kM P tn D){sp:Nat→Bool}{cY:Bool}{r:Reach}{b:Nat}:∀(Ts:List TypeId) (ats:List Ty) (vs:List Value) (ds:List (DataW H)) (ps:List MemPlace),
  EM P tn D Ts ats=true→DataW.TrodAll encH P W 0 sp cY Ts vs ds ps→(∀(j:Nat) t v,Ts[j]?=some t→vs[j]?=some v→Value.okWide P W r b t v)→
  vs.length=ats.length∧∃x:iB ats,rD ats (cB ats x)=some x∧(cB ats x).length=ats.length∧∀j (hj:j<(cB ats x).length),VR W cJ IG (vs.getD j undef) (cB ats x)[j]
 | [],[],vs,ds,ps,_,h,_=>by
  cases vs<;>cases ds<;>simp[DataW.TrodAll]at h
  exact⟨rfl,(),rfl,rfl,λj hj=>by simp[cB]at hj⟩
 | [],_ :: _,vs,ds,ps,ht,_,_=>by simp[EM]at ht
 | _ :: _,[],vs,ds,ps,ht,_,_=>by simp[EM]at ht
 | T :: Ts,t :: ts,vs,ds,ps,ht,h,hw=>by
  simp only[EM,Bool.and_eq_true]at ht;obtain⟨v,vs',d,ds',p,q,rfl,rfl,rfl,h0,h1⟩:=ChangeShapes.trodAll_cons h;obtain⟨x0,k1,k2⟩:=zvJ hB hK ht.1 h0 (hw 0 T v rfl rfl);obtain⟨e1,y,e2,e3,e4⟩:=zkY hK Ts ts vs' ds' q ht.2 h1 (λj t v h1 h2=>hw (j+1) t v h1 h2);refine⟨by simp[e1],?_⟩;cases ts with
  | nil=>
   refine⟨x0,by simpa[rD,cB]using k2,rfl,λj hj=>?_⟩;have:j=0:=by simp[cB]at hj;omega
   subst this;exact k1
  | cons d r=>
   refine⟨(x0,y),?_,by simp[cB]at e3⊢;exact e3,λj hj=>?_⟩
   ·simp only[rD,cB];rw[k2];simp only[Option.bind_some];rw[e2];rfl
   ·cases j with
    | zero=>exact k1
    | succ j=>exact e4 j (by simpa[cB]using hj)
def XD(n:Nat):List nB:=List.replicate n .plain
omit [jA]in
def zjk:∀(n k:Nat) (as:List V),as.length=n→tB (XD n) k as=as∧BA (XD n) k as=λ_=>none
 | 0,k,[],_=>⟨rfl,rfl⟩
 | 0,k,_ :: _,h=>by simp at h
 | n+1,k,[],h=>by simp at h
 | n+1,k,a :: as,h=>by
  obtain⟨h1,h2⟩:=zjk n (k+1) as (by simpa using h);refine⟨?_,?_⟩
  ·show a :: tB (XD n) (k+1) as=_;rw[h1]
  ·show BA (XD n) (k+1) as=_;exact h2
def zsR(hB:jA.base=W.heap.size){tn:TypeId→Option TN}{D:Nat}(hK:kM P tn D){f:Nat}{ats:List Ty}{F:iB ats→Option Bool}{n:Nat}
  {g:Gl} (hg:g.p W) (hc:xB P f ⟨XD n,iB ats,iB [.v .bool],rD ats,F,qE [.v .bool],[(false,1)],[],false⟩ g) (hn:ats.length=n) (hF:∀x,F x=some true) {Ts:List TypeId} (ht:EM P tn D Ts ats=true)
  {sp:Nat→Bool} {cY:Bool} {r:Reach} {b:Nat} {args:Array Value} {ds:List (DataW H)} {ps:List MemPlace} (h:DataW.TrodAll encH P W 0 sp cY Ts args.toList ds ps)
  (hw:∀(j:Nat) t v,Ts[j]?=some t→args[j]?=some v→Value.okWide P W r b t v) (D4:(callFunc f args).run P W= .ok (.enter f args) W):
  Calls P f args W λe W'=>e= .returned (.bool true)∧Below W.heap.size W W':=by
 obtain⟨h1,x,h2,h3,h4⟩:=zkY (Nat.le_of_eq hB.symm) hK Ts ats args.toList ds ps ht h (λj t v h5 h6=>hw j t v h5 (by simpa using h6));have LV:(cB ats x).length=n:=by rw[h3,hn]
 obtain⟨e1,e2⟩:=zjk n 0 (cB ats x) LV;have hp:(XD n).length=n:=by simp[XD]
 have jW:∀b,sA IG cJ (BA (XD n) 0 (cB ats x)) b→IG b:=by
  rintro b (h | ⟨q,row,ri,h,_⟩)
  ·exact h
  ·rw[e2]at h;cases h
 have hemp:∀h:Nat→Option tA,h=(λ_=>none)→sB W IG IG cJ h W:=λh he=>by
  subst he;exact⟨Wx.refl _,λ_ _ _=>rfl,λb hb=>hb.elim,λr row hr=>(by cases hr),λq q' row row' qi qi' hq=>(by cases hq)⟩
 have G:=hc W args (cB ats x) IG IG cJ x true 0 [] (by simp at h1;rw[hp];omega) (by rw[e1,hp,LV])
  (hemp (BA (XD n) 0 (cB ats x)) e2)
  (fun j hj=>by
   have RW:j<(cB ats x).length:=by rw[←e1];exact hj
   have h5:=h4 j RW;have h6:(tB (XD n) 0 (cB ats x))[j]=(cB ats x)[j]:=by simp only[e1]
   rw[h6];rw[Array.getD_eq_getD_getElem?];rw[List.getD_eq_getElem?_getD]at h5;rw[Array.getElem?_toList]at h5;exact h5.mono (λ_ _ h=>h) (λ_ _ _=>rfl) λb hb=> .inl (jW b hb))
  (λ_ _=>rfl) (by simp) (λb hb=>by simp at hb) h2 (hF x) (by simp[qE,zdm,enc]) ⟨hg,λ_ _ h=>h,Nat.le_of_eq hB,λ_ _ h=>h⟩
 rcases G with⟨_,G⟩ | ⟨v,w',G,_⟩
 ·refine Calls.mono' G λe w' ⟨v,he,ρ',g1,g2,_⟩=>?_;subst he;refine⟨?_,g1.wx.os,g1.wx.tape,g1.wx.output,g1.wx.size,λk hk=>g1.old k hk λh=>h⟩;have g3:VR w' ρ' (sA IG ρ' (nE ⟨XD n,iB ats,iB [.v .bool],rD ats,F,qE [.v .bool],[(false,1)],[],false⟩ (cB ats x) [] 0 (qE [.v .bool] true))) v (.bool true):=g2;cases g3;rfl
 ·rw[D4]at G;cases G
omit [jA]in
def zqA{W W':World}(hb:Below W.heap.size W W'){b off:Nat}(h:b<W.heap.size):W'.frozen? ⟨b,off,none⟩=W.frozen? ⟨b,off,none⟩:=by
 simp only[World.frozen?,hb.block b h]
omit [jA]in
def zia(hl:laidOutB P=true){W':World}(hb:Below W.heap.size W W'){sp':Nat→Bool}:∀(ts:List TypeId) (vs:List Value) (ds:List (DataW H)) (ps:List MemPlace),
  (∀t∈ts,P.readableRec t=true∧t<P.types.size)→DataW.TrodAll encH P W 0 (λ_=>true) true ts vs ds ps→(∀x∈ps,x.block<W.heap.size)→(∀x∈ps,sp' x.block=true)→DataW.TrodAll encH P W' 0 sp' true ts vs ds ps
 | [],vs,ds,ps,hr,h,NV,hs=>by
  cases vs<;>cases ds<;>simp[DataW.TrodAll]at h⊢
  exact h
 | t :: ts,vs,ds,ps,hr,h,NV,hs=>by
  obtain⟨v,vs',d,ds',p,q,rfl,rfl,rfl,h0,h1⟩:=ChangeShapes.trodAll_cons h
  refine⟨p,q,WideElems.Trod_stays hl (hr t (by simp)).1 (hr t (by simp)).2 h0 (λx hx=>hb.same (NV x (by simp[hx]))) (λx hx=>hs x (by simp[hx])),
   zia hl hb ts vs' ds' q (λt ht=>hr t (List.mem_cons_of_mem _ ht)) h1 (λx hx=>NV x (by simp[hx])) (λx hx=>hs x (by simp[hx])),rfl⟩
omit [jA]in
def ztZ(hl:laidOutB P=true){f:Func}{s:ChangeSpec}{apart fresh qX again:Bool}{W':World}{args:Array Value}{ds gs:List (DataW H)}{before:List MemPlace}
  (P6:∀t∈f.params.toList,P.readableRec t=true∧t<P.types.size) (SX:s.vars=[]) (hW:DataW.Whole encH P f.params.toList s.vars apart W args.toList ds gs before) (hb:Below W.heap.size W W')
  {T:TypeId} (hT:f.resultTypes= #[T]) (lY:P.underlying T=some .bool) (BY:s.fn H (ds++gs)={results:=[.lit (.bool true)],args:=ds}):
  s.post encH P f apart fresh qX again W args (.bool true) W':=by
 obtain⟨p,q,h1,h2,rfl,h3,h4⟩:=id hW;rw[SX]at h2;have hq:gs=[]∧q=[]:=by cases gs<;>simp[DataW.TrodVars]at h2;exact⟨rfl,h2⟩
 obtain⟨rfl,rfl⟩:=hq;have NV:∀x∈p,x.block<W.heap.size:=λx hx=>hW.lt x (by simp[hx])
 have BW:∀sp:Nat→Bool,(∀x∈p,sp x.block=true)→DataW.TrodAll encH P W' 0 sp true f.params.toList args.toList (s.fn H (ds++[])).args p:=λsp hs=>by
  rw[BY];exact zia hl hb _ _ _ _ P6 h1 NV hs
 have xX:∀(b:Nat) (sp:Nat→Bool) (hd:Bool),DataW.TrodAll encH P W' b sp hd f.resultTypes.toList ((Value.bool true).resultList f.resultTypes.size) (s.fn H (ds++[])).results []:=λb sp hd=>by
  rw[BY,hT];refine⟨[],[],RowKit.shut_bool lY _,rfl,rfl⟩
 have CX:∀sp:Nat→Bool,DataW.TrodVars encH P W' sp s.vars (s.fn H (ds++[])).vars []:=λsp=>by
  rw[BY,SX];rfl
 have DZ:∀x∈p,(λb=>decide (b<W.heap.size)) x.block=true:=λx hx=>by simpa using NV x hx
 refine⟨ds,[],p++[],[],p,[],hW,xX _ _ _,BW _ DZ,CX _,?_,λ_=>⟨?_,_,_,([]++p)++[],⟨[]++p,[],trodAll_append (BW _ (λ_ _=>rfl)) (xX _ _ _),CX _,rfl,?_,?_⟩,?_⟩⟩
 ·refine⟨hb.os,hb.output,λi hi=>?_⟩;rw[hb.block i hi];exact(World.keptBut_refl W (λx=>x∈p++[]∧(x∈[]∨x∈p∨x∈[]))).2.2 i hi
 ·exact ok_one hT rfl (okWide_bool_mk lY _)
 ·intro c off hp;have D9:MemPlace.cell c off∈p++[]:=by simpa using hp
  have:=NV (.cell c off) (by simpa using D9);rw[zqA (b:=c) (off:=off) hb this];exact h3 c off D9
 ·intro ha;have:=h4 ha;simpa using this
 ·intro x hx _;simpa using hx
omit [jA]in
def zui {f : Nat} {fn : Func} {body : Code} (hf : P.funcs[f]? = some fn) (hb : fn.body = some body) (JW : (fn.name == "runtime.NumGoroutine") = false) (args : Array Value) :
  (callFunc f args).run P W= .ok (.enter f args) W:=by
 have RX : ¬ fn.name = "runtime.NumGoroutine" := by simpa using JW
 simp[callFunc,program,hf,hb,RX,Sem.run]
omit [jA]in
def zt6{g:Gl}(hg:g.p W){tn:TypeId→Option TN}{D:Nat}(hK:kM P tn D){f:Nat}{fn:Func}{body:Code}{ats:List Ty}{F:iB ats→Option Bool}{n:Nat}
  {tns:TypeId→Option TN} (hc:∀m:Nat,@xB ⟨tns,m⟩ P f ⟨XD n,iB ats,iB [.v .bool],rD ats,F,qE [.v .bool],[(false,1)],[],false⟩ g) (hn:ats.length=n) (hF:∀x,F x=some true)
  (hf : P.funcs[f]? = some fn) (hb : fn.body = some body) (JW : (fn.name == "runtime.NumGoroutine") = false) (ht : EM P tn D fn.params.toList ats = true)
  (hl:laidOutB P=true) (P6:(fn.params.toList.all λt=>P.readableRec t&&Nat.blt t P.types.size)=true) {T:TypeId} (hT:fn.resultTypes= #[T]) (lY:P.underlying T=some .bool)
  {s:ChangeSpec} (SX:s.vars=[]) {apart fresh qX again:Bool} {args:Array Value} {ds gs:List (DataW H)} {before:List MemPlace} {r:Reach} {b:Nat}
  (hW:DataW.Whole encH P fn.params.toList s.vars apart W args.toList ds gs before) (BY:gs=[]→s.fn H (ds++gs)={results:=[.lit (.bool true)],args:=ds})
  (ZY:∀(j:Nat) t v,fn.params[j]?=some t→args[j]?=some v→Value.okWide P W r b t v):
  Calls P f args W λe W'=>∃v,e= .returned v∧s.post encH P fn apart fresh qX again W args v W':=by
 obtain⟨p,q,h1,h2,h3⟩:=id hW
 have hgs:gs=[]:=by
  rw[SX]at h2;cases gs
  ·rfl
  ·simp[DataW.TrodVars]at h2
 letI:jA:=⟨tns,W.heap.size⟩
 refine Calls.mono' (zsR rfl hK hg (hc W.heap.size) hn hF ht h1 (λj t v h5 h6=>ZY j t v (by simpa using h5) h6) (zui hf hb JW args)) λe W' ⟨he,hb⟩=>⟨_,he,ztZ hl (λt ht=>?_) SX hW hb hT lY (BY hgs)⟩;have:=List.all_eq_true.1 P6 t ht;simpa using this
omit [jA]in
def zuY{tn:TypeId→Option TN}{D:Nat}(hK:kM P tn D){f:Nat}{fn:Func}{body:Code}{ats:List Ty}{F:iB ats→Option Bool}{n:Nat}
  {tns:TypeId→Option TN} (hc:∀m:Nat,@xB ⟨tns,m⟩ P f ⟨XD n,iB ats,iB [.v .bool],rD ats,F,qE [.v .bool],[(false,1)],[],false⟩ oL) (hn:ats.length=n) (hF:∀x,F x=some true)
  (hf : P.funcs[f]? = some fn) (hb : fn.body = some body) (JW : (fn.name == "runtime.NumGoroutine") = false) (ht : EM P tn D fn.params.toList ats = true)
  (hl:laidOutB P=true) (P6:(fn.params.toList.all λt=>P.readableRec t&&Nat.blt t P.types.size)=true) {T:TypeId} (hT:fn.resultTypes= #[T]) (lY:P.underlying T=some .bool)
  {s:ChangeSpec} (SX:s.vars=[]) {apart fresh qX again:Bool} {args:Array Value} {ds gs:List (DataW H)} {before:List MemPlace} {r:Reach} {b:Nat}
  (hW:DataW.Whole encH P fn.params.toList s.vars apart W args.toList ds gs before) (BY:gs=[]→s.fn H (ds++gs)={results:=[.lit (.bool true)],args:=ds})
  (ZY:∀(j:Nat) t v,fn.params[j]?=some t→args[j]?=some v→Value.okWide P W r b t v):
  Calls P f args W λe W'=>∃v,e= .returned v∧s.post encH P fn apart fresh qX again W args v W':=
 zt6 (g:=oL) trivial hK hc hn hF hf hb JW ht hl P6 hT lY SX hW BY ZY
end
end Go.D

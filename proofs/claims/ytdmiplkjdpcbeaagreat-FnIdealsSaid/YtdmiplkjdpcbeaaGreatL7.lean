/-
 A body's end: what the function gives.
-/
import Derived.Test.YtdmiplkjdpcbeaaGreatL6
import Derived.Test.YtdmiplkjdpcbeaaGreatL5
import Derived.Carry
import Derived.WideKeyArgs
import Derived.ChangeSame
namespace Go.D
variable [fA]
omit [fA] in
theorem vB.app {a b c d:List V} (h:vB a b) (k:vB c d):vB (a++c) (b++d):=by
 induction h with
 | nil=>exact k
 | cons h1 _ ih=>exact .cons h1 ih
omit [fA] in
theorem zg8 (t:Ty) (vs:List V) (x:t.T × List V) (h:zF t vs=some x):∃ us,vs=us++x.2∧vB us (iR t x.1):=by
 cases t with
 | v t=>
  simp only [zF] at h
  obtain ⟨a,h1,h2⟩:=Option.bind_eq_some_iff.1 h
  cases h2
  exact ⟨_,(List.take_append_drop _ _).symm,CD t h1⟩
 | cells t=>
  simp only [zF] at h
  obtain ⟨a,h1,h2⟩:=Option.bind_eq_some_iff.1 h
  cases h2
  exact ⟨_,(List.take_append_drop _ _).symm,CD t h1⟩
 | sl t=>
  cases vs with
  | nil=>simp [zF] at h
  | cons v vs=>
   simp only [zF] at h
   obtain ⟨a,h1,h2⟩:=Option.bind_eq_some_iff.1 h
   cases h2
   exact ⟨[v],rfl, .cons (SA h1) .nil⟩
 | raw=>
  cases vs with
  | nil=>simp [zF] at h
  | cons v vs=>simp only [zF,Option.some.injEq] at h;subst h;exact ⟨[v],rfl, .cons (.refl _) .nil⟩
 | pt=>simp [zF] at h
 | c1=>simp [zF] at h
 | p1=>simp [zF] at h
 | c2=>simp [zF] at h
omit [fA] in
theorem zcg:∀ (ts:List Ty) (vs:List V) (x:lA ts),xG ts vs=some x→vB vs (KC ts x)
 | [],[],x,h=> .nil
 | [],_ :: _,x,h=>by simp [xG] at h
 | [t],vs,x,h=>by
  simp only [xG] at h
  obtain ⟨y,h1,h2⟩:=Option.bind_eq_some_iff.1 h
  obtain ⟨us,h3,h4⟩:=zg8 t vs y h1
  split at h2
  ·rename_i h5
   cases h2
   rw [h5,List.append_nil] at h3;subst h3;exact h4
  ·cases h2
 | t :: d :: r,vs,x,h=>by
  simp only [xG] at h
  obtain ⟨y,h1,h2⟩:=Option.bind_eq_some_iff.1 h
  obtain ⟨z,h3,h4⟩:=Option.bind_eq_some_iff.1 h2
  cases h4
  obtain ⟨us,h5,h6⟩:=zg8 t vs y h1
  rw [h5]
  exact h6.app (zcg (d :: r) _ z h3)
section
variable {C:Cx} {w0:World} {outer own D:Nat→Prop} {R:Type} {st st1 st2:St} {ρ ρ1 ρ2:Nat→Option RI} {a a1 a2:Act} {w w1 w2:World} {j:JI}
omit [fA] in
theorem zg5 (an:An):∀ c:Code,AF an (fun _=>True) c:=by
 have jd:∀ o,JD (fun _=>True) o:=fun o=>by cases o <;> simp [JD]
 intro c
 induction c with
 | region id ops d=>exact ⟨fun _ _ _ _=>trivial,jd _⟩
 | seq x y hx hy=>exact ⟨hx,hy⟩
 | cond c x y hx hy=>cases c <;> first | exact ⟨hx,hy,jd _⟩ | exact ⟨hx,hy⟩
 | block id x hx=>exact ⟨hx,jd _⟩
 | loop x hx=>
  refine ⟨hx,?_⟩
  split
  ·exact jd _
  ·trivial
 | scope x hx=>exact hx
 | _=>trivial
omit [fA] in
theorem XU (ow:List Nat) (B:Nat) (e:V) (es:List V) (p q:Nat) (h:q≠p):UA ow B (fun _=>none) p (e :: es) (B+q)=UA ow B (fun _=>none) (p+1) es (B+q):=by
 cases e <;> simp only [UA]
 cases hb:ow.any (Nat.beq p)
 ·rfl
 ·simp only [cond_true];rw [vA _ _ _ _ (by omega)]
omit [fA] in
theorem zcd (ow:List Nat) (B:Nat):∀ (cs es:List V) (p q:Nat) (row:nA),vB cs es→UA ow B (fun _=>none) p es (B+q)=some row→
  UA ow B (fun _=>none) p cs (B+q)=some row∨(UA ow B (fun _=>none) p cs (B+q)=none∧∃ t,row=⟨.arr t [], .own⟩)
 | [],_,p,q,row,hs,h=>by cases hs;simp [UA] at h
 | c :: cs,_,p,q,row,hs,h=>by
  cases hs with
  | cons EY QX=>
  rename_i e es
  by_cases hq:q=p
  ·subst hq
   cases EY with
   | refl=>
    have hn:∀ l:List V,UA ow B (fun _=>none) (q+1) l (B+q)=none:=fun l=>BC _ _ _ _ _ (by omega)
    left
    cases c <;> simp only [UA] at h ⊢ <;> try (rw [hn] at h;cases h)
    cases hb:ow.any (Nat.beq q)
    ·simp only [hb,cond_false] at h;rw [hn] at h;cases h
    ·simp only [hb,cond_true,IA] at h ⊢;exact h
   | byte n=>simp only [UA] at h;rw [BC _ _ _ _ _ (by omega)] at h;cases h
   | nil t=>
    right
    simp only [UA] at h ⊢
    refine ⟨BC _ _ _ _ _ (by omega),?_⟩
    cases hb:ow.any (Nat.beq q)
    ·simp only [hb,cond_false] at h;rw [BC _ _ _ _ _ (by omega)] at h;cases h
    ·simp only [hb,cond_true,IA] at h;cases h;exact ⟨t,rfl⟩
  ·rw [XU _ _ _ _ _ _ hq] at h ⊢
   exact zcd ow B cs es (p+1) q row QX h
theorem zce (ow:List Nat) (B:Nat) {bad bad2:Nat→Prop} {ρ2:Nat→Option RI} (hk:∀ u d,VR w ρ bad u d→VR w ρ2 bad2 u d):∀ (cs es:List V) (p:Nat) (u:Nat→Value),vB cs es→
  (∀ q t,p≤q→UA ow B (fun _=>none) p cs (B+q)=none→UA ow B (fun _=>none) p es (B+q)=some ⟨.arr t [], .own⟩→ρ2 (B+q)=some ⟨0,0,0,true⟩)→
  (∀ j (hj:j<(JA ow B p cs).length),VR w ρ bad (u j) (JA ow B p cs)[j])→∀ j (hj:j<(JA ow B p es).length),VR w ρ2 bad2 (u j) (JA ow B p es)[j]
 | [],_,p,u,hs,hn,hv,j,hj=>by cases hs;simp [JA] at hj
 | c :: cs,_,p,u,hs,hn,hv,j,hj=>by
  cases hs with
  | cons EY QX=>
  rename_i e es
  have hd:∀ (c:V) (cs:List V),∃ c',JA ow B p (c :: cs)=c' :: JA ow B (p+1) cs:=fun c cs=>by cases c <;> exact ⟨_,rfl⟩
  obtain ⟨c',E0⟩:=hd c cs
  obtain ⟨e',YX⟩:=hd e es
  have D5:∀ j (hj:j<(c' :: JA ow B (p+1) cs).length),VR w ρ bad (u j) (c' :: JA ow B (p+1) cs)[j]:=fun j hj=>by
   have:=hv j (by rw [E0];exact hj)
   simpa only [E0] using this
  have ih:=zce ow B hk cs es (p+1) (fun j=>u (j+1)) QX (fun q t h1 h2 h3=>hn q t (by omega) (by rw [XU _ _ _ _ _ _ (by omega)];exact h2) (by rw [XU _ _ _ _ _ _ (by omega)];exact h3))
   (fun j hj=>by have:=D5 (j+1) (by simp;omega);simpa using this)
  have RX:=D5 0 (by simp)
  simp only [List.getElem_cons_zero] at RX
  have goal0:VR w ρ2 bad2 (u 0) e':=by
   cases EY with
   | refl=>
    have:e'=c':=by
     have h1:=congrArg List.head? E0
     have h2:=congrArg List.head? YX
     cases c <;> simp [JA] at h1 h2 <;> rw [← h1, ← h2]
    rw [this];exact hk _ _ RX
   | byte n=>
    have h1:=congrArg List.head? E0
    have h2:=congrArg List.head? YX
    simp only [JA,List.head?_cons,Option.some.injEq] at h1 h2
    subst h1;subst h2
    exact hk _ _ (VR.sub (.byte n) RX)
   | nil t=>
    have h1:=congrArg List.head? E0
    have h2:=congrArg List.head? YX
    simp only [JA,List.head?_cons,Option.some.injEq] at h1 h2
    subst h1
    have I1:u 0= .slice none 0 0:=by generalize u 0=x at RX;cases RX;rfl
    cases hb:ow.any (Nat.beq p)
    ·simp only [hb,cond_false] at h2
     subst h2
     rw [I1];exact .slE _ _ _ (Nat.zero_le _)
    ·simp only [hb,cond_true] at h2
     subst h2
     rw [I1]
     refine .owN _ ⟨0,0,0,true⟩ none (hn p t (Nat.le_refl _) ?_ ?_) rfl rfl
     ·simp only [UA];exact BC _ _ _ _ _ (by omega)
     ·simp only [UA,hb,cond_true,IA]
  cases j with
  | zero=>simp only [YX,List.getElem_cons_zero];exact goal0
  | succ j=>simp only [YX,List.getElem_cons_succ];exact ih j (by rw [YX] at hj;simpa using hj)
omit [fA] in
theorem zg7 {t:Ty} {ats:List Ty} {as:List V} {x:lA (t :: ats)} (hd:jC (t :: ats) as=some x):
  ∃ v vs y,as=v :: vs∧∃ (x0:t.T),DC t v=some x0∧jC ats vs=some y∧WA (t :: ats) x=VB t x0 :: WA ats y:=by
 cases ats with
 | nil=>
  cases as with
  | nil=>simp [jC] at hd
  | cons v vs=>
   cases vs with
   | nil=>exact ⟨v,[],(),rfl,x,by simpa [jC] using hd,rfl,rfl⟩
   | cons=>simp [jC] at hd
 | cons d r=>
  cases as with
  | nil=>simp [jC] at hd
  | cons v vs=>
   simp only [jC] at hd
   obtain ⟨x0,h1,h2⟩:=Option.bind_eq_some_iff.1 hd
   obtain ⟨y,h3,h4⟩:=Option.bind_eq_some_iff.1 h2
   cases h4
   exact ⟨v,vs,y,rfl,x0,h1,h3,rfl⟩
omit [fA] in
theorem rE:∀ (ks:List ZA) (k:Nat) (as:List V) (q:Nat) (row:nA),yA ks k as q=some row→128 *k≤q
  | [],k,as,q,row,h=>by cases as <;> simp [yA] at h
  | .plain :: ks,k,[],q,row,h=>by simp [yA] at h
  | .plain :: ks,k,a :: as,q,row,h=>by
   have:=rE ks (k+1) as q row (by simpa only [yA] using h);omega
  | .mv ow :: ks,k,[],q,row,h=>by simp [yA] at h
  | .mv ow :: ks,k,a :: as,q,row,h=>by
   cases a <;> simp only [yA] at h <;> try (cases h;done)
   rw [FB] at h
   split at h
   ·rename_i x hx
    obtain ⟨_,_,_,h1,_⟩:=UC _ _ _ _ _ _ hx
    omega
   ·have:=rE ks (k+1) as q row h;omega
  | .ptr ow :: ks,k,[],q,row,h=>by simp [yA] at h
  | .ptr ow :: ks,k,a :: as,q,row,h=>by
   cases a <;> simp only [yA] at h <;> try (cases h;done)
   by_cases hq:q=128 *k+127
   ·omega
   ·rw [vA _ _ _ _ hq,FB] at h
    split at h
    ·rename_i x hx
     obtain ⟨_,_,_,h1,_⟩:=UC _ _ _ _ _ _ hx
     omega
    ·have:=rE ks (k+1) as q row h;omega
theorem zey {bad bad2:Nat→Prop} {ρ2:Nat→Option RI} (qY:∀ u d,VR w ρ bad u d→VR w ρ2 bad2 u d):∀ (ks:List ZA) (ats:List Ty) (as:List V) (x:lA ats) (k:Nat) (u:Nat→Value),HB ks ats=true→jC ats as=some x→
  (∀ q t,yA ks k as q=none→yA ks k (WA ats x) q=some ⟨.arr t [], .own⟩→ρ2 q=some ⟨0,0,0,true⟩)→
  (∀ j (hj:j<(rB ks k as).length),VR w ρ bad (u j) (rB ks k as)[j])→
  (rB ks k (WA ats x)).length=(rB ks k as).length∧∀ j (hj:j<(rB ks k (WA ats x)).length),VR w ρ2 bad2 (u j) (rB ks k (WA ats x))[j]:=by
 intro ks
 induction ks with
 | nil=>
  intro ats as x k u hk hd hn hv
  cases ats with
  | nil=>cases as with
   | nil=>exact ⟨rfl,fun j hj=>by simp [rB] at hj⟩
   | cons=>simp [jC] at hd
  | cons=>simp [HB] at hk
 | cons q ks ih=>
  intro ats as x k u hk hd hn hv
  cases ats with
  | nil=>cases q <;> simp [HB] at hk
  | cons t ats=>
   obtain ⟨v,vs,y,rfl,x0,h1,h3,h4⟩:=zg7 hd
   rw [h4] at hn ⊢
   cases q with
   | plain=>
    simp only [HB] at hk
    obtain ⟨e1,e2⟩:=ih ats vs y (k+1) (fun j=>u (j+1)) hk h3 (fun q t a b=>hn q t a b) (fun j hj=>hv (j+1) (by simp [rB];omega))
    refine ⟨by simp [rB,e1],fun j hj=>?_⟩
    cases j with
    | zero=>exact qY _ _ (zek t v x0 h1 (hv 0 (by simp [rB])))
    | succ j=>exact e2 j (by simpa [rB] using hj)
   | ptr ow=>
    cases t with
    | cells t=>
     simp only [HB,Bool.and_eq_true] at hk
     have eW:=Nat.le_of_ble_eq_true hk.1
     simp only [DC] at h1
     split at h1
     case h_2=>cases h1
     rename_i cs
     have AW:(enc t x0).length=sz t:=aC t x0
     have m5:cs.length=sz t:=by rw [(CD t h1).len,AW]
     obtain ⟨e1,e2⟩:=ih ats vs y (k+1) (fun j=>u (j+1)) hk.2 h3 (fun q t' a b=>by
      have bZ:=rE ks (k+1) _ q _ b
      refine hn q t' ?_ ?_
      ·simp only [yA];rw [vA _ _ _ _ (by omega),FB,BC _ _ _ _ _ (by omega)];exact a
      ·simp only [yA,VB];rw [vA _ _ _ _ (by omega),FB,BC _ _ _ _ _ (by omega)];exact b) (fun j hj=>hv (j+1) (by simp [rB];omega))
     refine ⟨by simp [rB,e1],fun j hj=>?_⟩
     cases j with
     | zero=>exact qY _ _ (hv 0 (by simp [rB]))
     | succ j=>exact e2 j (by simpa [rB] using hj)
    | _=>simp [HB] at hk
   | mv ow=>
    cases t with
    | v t=>
     simp only [HB,Bool.and_eq_true] at hk
     obtain ⟨⟨DW,eW⟩,hk⟩:=hk
     have eW:=Nat.le_of_ble_eq_true eW
     simp only [DC] at h1
     split at h1
     case h_2=>simp [DW] at h1
     rename_i cs
     simp only [DW,cond_true] at h1
     have JW:=CD t h1
     have AW:(enc t x0).length=sz t:=aC t x0
     have m5:cs.length=sz t:=by rw [JW.len,AW]
     have U8:VB (.v t) x0= .agg (enc t x0):=by simp only [VB,PG,DW,cond_true]
     rw [U8] at hn ⊢
     obtain ⟨e1,e2⟩:=ih ats vs y (k+1) (fun j=>u (j+1)) hk h3 (fun q t' a b=>by
      have bZ:=rE ks (k+1) _ q _ b
      refine hn q t' ?_ ?_
      ·simp only [yA];rw [FB,BC _ _ _ _ _ (by omega)];exact a
      ·simp only [yA];rw [FB,BC _ _ _ _ _ (by omega)];exact b) (fun j hj=>hv (j+1) (by simp [rB];omega))
     refine ⟨by simp [rB,e1],fun j hj=>?_⟩
     cases j with
     | zero=>
      have RX:=hv 0 (by simp [rB])
      simp only [rB,List.getElem_cons_zero] at RX ⊢
      generalize u 0=u0 at RX
      cases RX with
      | agg _ vsA hs cY=>
      rw [ND] at hs
      refine .agg _ vsA (by rw [ND,hs,AW,m5]) ?_
      refine zce ow (128 *k) qY cs (enc t x0) 0 (fun j=>vsA.getD j undef) JW (fun p t' _ h5 h6=>?_) cY
      obtain ⟨_,_,_,e3,e4⟩:=UC _ _ _ _ _ _ h6
      refine hn _ t' ?_ ?_
      ·simp only [yA]
       rw [FB,h5]
       show yA ks (k+1) vs (128 *k+p)=none
       cases hr:yA ks (k+1) vs (128 *k+p) with
       | none=>rfl
       | some z=>have:=rE ks (k+1) vs _ z hr;omega
      ·simp only [yA]
       rw [FB,h6]
     | succ j=>exact e2 j (by simpa [rB] using hj)
    | _=>simp [HB] at hk
omit [fA] in
theorem zpG:∀ (ks:List ZA) (ats:List Ty) (as:List V) (x:lA ats) (k:Nat),HB ks ats=true→jC ats as=some x→
  (∀ q row,yA ks k as q=some row→q<128 *(k+ks.length))∧
  ∀ q row',yA ks k (WA ats x) q=some row'→q<128 *(k+ks.length)∧(yA ks k as q=some row'∨(yA ks k as q=none∧∃ t,row'=⟨.arr t [], .own⟩)∨
   ∃ ow B cs es,yA ks k as q=some ⟨.box (JA ow B 0 cs), .own⟩∧row'=⟨.box (JA ow B 0 es), .own⟩∧vB cs es∧
    ∀ p t,UA ow B (fun _=>none) 0 cs (B+p)=none→UA ow B (fun _=>none) 0 es (B+p)=some ⟨.arr t [], .own⟩→yA ks k as (B+p)=none∧yA ks k (WA ats x) (B+p)=some ⟨.arr t [], .own⟩):=by
 intro ks
 induction ks with
 | nil=>
  intro ats as x k hk hd
  refine ⟨fun q row h=>by cases as <;> simp [yA] at h,fun q row' h=>?_⟩
  cases ats with
  | nil=>simp [yA] at h
  | cons=>simp [HB] at hk
 | cons g ks ih=>
  intro ats as x k hk hd
  cases ats with
  | nil=>cases g <;> simp [HB] at hk
  | cons t ats=>
   obtain ⟨v,vs,y,rfl,x0,h1,h3,h4⟩:=zg7 hd
   rw [h4]
   cases g with
   | plain=>
    simp only [HB] at hk
    obtain ⟨i1,i2⟩:=ih ats vs y (k+1) hk h3
    refine ⟨fun q row h=>?_,fun q row' h=>?_⟩
    ·simp only [yA] at h
     have:=i1 q row h
     simp only [List.length_cons];omega
    ·simp only [yA] at h ⊢
     obtain ⟨j1,j2⟩:=i2 q row' h
     exact ⟨by simp only [List.length_cons];omega,j2⟩
   | ptr ow=>
    cases t with
    | cells t=>
     simp only [HB,Bool.and_eq_true] at hk
     obtain ⟨eW,hk⟩:=hk
     have eW:=Nat.le_of_ble_eq_true eW
     simp only [DC] at h1
     split at h1
     case h_2=>cases h1
     rename_i cs
     obtain ⟨i1,i2⟩:=ih ats vs y (k+1) hk h3
     have JW:=CD t h1
     have AW:(enc t x0).length=sz t:=aC t x0
     have m5:cs.length=sz t:=by rw [JW.len,AW]
     refine ⟨fun q row h=>?_,fun q row' h=>?_⟩
     ·simp only [List.length_cons]
      simp only [yA] at h
      by_cases hq:q=128 *k+127
      ·omega
      ·rw [vA _ _ _ _ hq,FB] at h
       split at h
       ·rename_i z hz
        obtain ⟨_,_,_,e1,e2⟩:=UC _ _ _ _ _ _ hz
        omega
       ·have:=i1 q row h;omega
     ·simp only [List.length_cons]
      simp only [VB,yA] at h
      by_cases hq:q=128 *k+127
      ·subst hq
       rw [IA] at h;cases h
       refine ⟨by omega, .inr (.inr ⟨ow,128 *k,cs,enc t x0,by simp only [yA];exact IA _ _ _,rfl,JW,fun p t' e1 e2=>?_⟩)⟩
       obtain ⟨_,_,_,e3,e4⟩:=UC _ _ _ _ _ _ e2
       have RY:128 *k+p≠128 *k+127:=by omega
       simp only [yA,VB]
       rw [vA _ _ _ _ RY,vA _ _ _ _ RY,FB,FB ow (128 *k) (yA ks (k+1) (WA ats y)),e1,e2]
       refine ⟨?_,rfl⟩
       cases hr:yA ks (k+1) vs (128 *k+p) with
       | none=>rfl
       | some z=>have:=rE ks (k+1) vs _ z hr;omega
      ·rw [vA _ _ _ _ hq,FB] at h
       split at h
       ·rename_i z hz
        cases h
        obtain ⟨_,_,_,e1,e2⟩:=UC _ _ _ _ _ _ hz
        refine ⟨by omega,?_⟩
        have C0:=hz
        rw [show q=128 *k+(q - 128 *k) by omega] at C0
        rcases zcd ow (128 *k) cs (enc t x0) 0 _ _ JW C0 with h5 | ⟨h5,h6⟩ <;> rw [show 128 *k+(q - 128 *k)=q by omega] at h5
        ·left
         simp only [yA]
         rw [vA _ _ _ _ hq,FB,h5]
        ·right;left
         refine ⟨?_,h6⟩
         simp only [yA]
         rw [vA _ _ _ _ hq,FB,h5]
         show yA ks (k+1) vs q=none
         cases hr:yA ks (k+1) vs q with
         | none=>rfl
         | some z=>have:=rE ks (k+1) vs _ z hr;omega
       ·rename_i hz
        obtain ⟨j1,j2⟩:=i2 q row' h
        have bZ:=rE ks (k+1) _ q row' h
        have lift:∀ q',128 *(k+1)≤q'→yA (.ptr ow :: ks) k (.agg cs :: vs) q'=yA ks (k+1) vs q'∧yA (.ptr ow :: ks) k (.agg (enc t x0) :: WA ats y) q'=yA ks (k+1) (WA ats y) q':=fun q' MY=>by
         simp only [yA]
         rw [vA _ _ _ _ (by omega),vA _ _ _ _ (by omega),FB,FB ow (128 *k) (yA ks (k+1) (WA ats y)),BC _ _ _ _ _ (by omega),BC _ _ _ _ _ (by omega)]
         exact ⟨rfl,rfl⟩
        obtain ⟨l1,l2⟩:=lift q (by omega)
        refine ⟨by omega,?_⟩
        rw [l1]
        rcases j2 with j2 | j2 | ⟨ow',B,cs',es',j2,j3,j4,j5⟩
        ·exact .inl j2
        ·exact .inr (.inl j2)
        ·refine .inr (.inr ⟨ow',B,cs',es',j2,j3,j4,fun p t' e1 e2=>?_⟩)
         obtain ⟨j6,j7⟩:=j5 p t' e1 e2
         have:=rE ks (k+1) _ _ _ j7
         obtain ⟨l3,l4⟩:=lift (B+p) (by omega)
         show yA (.ptr ow :: ks) k (.agg cs :: vs) (B+p)=none∧yA (.ptr ow :: ks) k (.agg (enc t x0) :: WA ats y) (B+p)=_
         rw [l3,l4];exact ⟨j6,j7⟩
    | _=>simp [HB] at hk
   | mv ow=>
    cases t with
    | v t=>
     simp only [HB,Bool.and_eq_true] at hk
     obtain ⟨⟨DW,eW⟩,hk⟩:=hk
     have eW:=Nat.le_of_ble_eq_true eW
     simp only [DC] at h1
     split at h1
     case h_2=>simp [DW] at h1
     rename_i cs
     simp only [DW,cond_true] at h1
     obtain ⟨i1,i2⟩:=ih ats vs y (k+1) hk h3
     have JW:=CD t h1
     have AW:(enc t x0).length=sz t:=aC t x0
     have m5:cs.length=sz t:=by rw [JW.len,AW]
     have U8:VB (.v t) x0= .agg (enc t x0):=by simp only [VB,PG,DW,cond_true]
     rw [U8]
     refine ⟨fun q row h=>?_,fun q row' h=>?_⟩
     ·simp only [List.length_cons]
      simp only [yA] at h
      rw [FB] at h
      split at h
      ·rename_i z hz
       obtain ⟨_,_,_,e1,e2⟩:=UC _ _ _ _ _ _ hz
       omega
      ·have:=i1 q row h;omega
     ·simp only [List.length_cons]
      simp only [yA] at h
      rw [FB] at h
      split at h
      ·rename_i z hz
       cases h
       obtain ⟨_,_,_,e1,e2⟩:=UC _ _ _ _ _ _ hz
       refine ⟨by omega,?_⟩
       have C0:=hz
       rw [show q=128 *k+(q - 128 *k) by omega] at C0
       rcases zcd ow (128 *k) cs (enc t x0) 0 _ _ JW C0 with h5 | ⟨h5,h6⟩ <;> rw [show 128 *k+(q - 128 *k)=q by omega] at h5
       ·left
        simp only [yA]
        rw [FB,h5]
       ·right;left
        refine ⟨?_,h6⟩
        simp only [yA]
        rw [FB,h5]
        show yA ks (k+1) vs q=none
        cases hr:yA ks (k+1) vs q with
        | none=>rfl
        | some z=>have:=rE ks (k+1) vs _ z hr;omega
      ·rename_i hz
       obtain ⟨j1,j2⟩:=i2 q row' h
       have bZ:=rE ks (k+1) _ q row' h
       have lift:∀ q',128 *(k+1)≤q'→yA (.mv ow :: ks) k (.agg cs :: vs) q'=yA ks (k+1) vs q'∧yA (.mv ow :: ks) k (.agg (enc t x0) :: WA ats y) q'=yA ks (k+1) (WA ats y) q':=fun q' MY=>by
        simp only [yA]
        rw [FB,FB ow (128 *k) (yA ks (k+1) (WA ats y)),BC _ _ _ _ _ (by omega),BC _ _ _ _ _ (by omega)]
        exact ⟨rfl,rfl⟩
       obtain ⟨l1,l2⟩:=lift q (by omega)
       refine ⟨by omega,?_⟩
       rw [l1]
       rcases j2 with j2 | j2 | ⟨ow',B,cs',es',j2,j3,j4,j5⟩
       ·exact .inl j2
       ·exact .inr (.inl j2)
       ·refine .inr (.inr ⟨ow',B,cs',es',j2,j3,j4,fun p t' e1 e2=>?_⟩)
        obtain ⟨j6,j7⟩:=j5 p t' e1 e2
        have:=rE ks (k+1) _ _ _ j7
        obtain ⟨l3,l4⟩:=lift (B+p) (by omega)
        rw [l3,l4];exact ⟨j6,j7⟩
    | _=>simp [HB] at hk
theorem zeB {ks:List ZA} {ats:List Ty} {as:List V} {x:lA ats} (QY:HB ks ats=true) (hd:jC ats as=some x) (hh:aB w0 outer own ρ (yA ks 0 as) w) (dX:∀ q,yA ks 0 as q=none→ρ q=none):
  ∃ ρ2,aB w0 outer own ρ2 (yA ks 0 (WA ats x)) w∧(∀ u d,VR w ρ (mA outer ρ (yA ks 0 as)) u d→VR w ρ2 (mA outer ρ2 (yA ks 0 (WA ats x))) u d)∧
   (∀ q ri,ρ q=some ri→ρ2 q=some ri)∧(∀ q,128 *ks.length≤q→ρ2 q=none)∧∀ q row,yA ks 0 as q=none→yA ks 0 (WA ats x) q=some row→ρ2 q=some ⟨0,0,0,true⟩:=by
 have hEE:∀ q row,yA ks 0 as q=none→yA ks 0 (WA ats x) q=some row→ρ q=none:=fun q _ h _=>dX q h
 obtain ⟨r1,r2⟩:=zpG ks ats as x 0 QY hd
 generalize hE:yA ks 0 as=h at *
 generalize hE2:yA ks 0 (WA ats x)=h2 at *
 let ρ2:Nat→Option RI:=fun q=>match ρ q with
  | some ri=>some ri
  | none=>if (h2 q).isSome=true then some ⟨0,0,0,true⟩ else none
 have e1:∀ q ri,ρ q=some ri→ρ2 q=some ri:=fun q ri hq=>by simp only [ρ2,hq]
 have e2:∀ q row,ρ q=none→h2 q=some row→ρ2 q=some ⟨0,0,0,true⟩:=fun q row hq hr=>by simp only [ρ2,hq,hr];rfl
 have e3:∀ q,ρ q=none→h2 q=none→ρ2 q=none:=fun q hq hr=>by simp only [ρ2,hq,hr];rfl
 have rW:∀ b,mA outer ρ2 h2 b→mA outer ρ h b:=by
  rintro b (hb | ⟨q,row,ri,f1,f2,f3,f4,f5⟩)
  ·exact .inl hb
  ·rcases (r2 q row f1).2 with g | ⟨g,_⟩ | ⟨ow,B,cs,es,g,_⟩
   ·obtain ⟨ri',k1,_⟩:=hh.rows q _ g
    rw [e1 _ _ k1] at f3;cases f3
    exact .inr ⟨q,row,_,g,f2,k1,f4,f5⟩
   ·rw [e2 q row (dX q g) f1] at f3;cases f3;cases f4
   ·obtain ⟨ri',k1,_⟩:=hh.rows q _ g
    rw [e1 _ _ k1] at f3;cases f3
    exact .inr ⟨q,_,_,g,rfl,k1,f4,f5⟩
 have hk:∀ u d,VR w ρ (mA outer ρ h) u d→VR w ρ2 (mA outer ρ2 h2) u d:=fun u d hu=>hu.mono e1 (fun _ _ _=>rfl) fun b hb=> .inl (rW b hb)
 have X0:∀ q row' ri,h2 q=some row'→ρ2 q=some ri→ri.nl=false→∃ row,h q=some row∧ρ q=some ri:=fun q row' ri f1 f3 f4=>by
  rcases (r2 q row' f1).2 with g | ⟨g,_⟩ | ⟨ow,B,cs,es,g,_⟩
  ·obtain ⟨ri',k1,_⟩:=hh.rows q _ g
   rw [e1 _ _ k1] at f3;cases f3
   exact ⟨_,g,k1⟩
  ·rw [e2 q row' (dX q g) f1] at f3;cases f3;cases f4
  ·obtain ⟨ri',k1,_⟩:=hh.rows q _ g
   rw [e1 _ _ k1] at f3;cases f3
   exact ⟨_,g,k1⟩
 refine ⟨ρ2,⟨hh.wx,hh.old,hh.outLt,fun r row' hr=>?_,fun q q' row row' qi qi' h1 h2 h3 h4 h5 h6 h7=>?_⟩,hk,e1,fun q hq=>?_,fun q row h1 h2=>e2 q row (dX q h1) h2⟩
 ·rcases (r2 r row' hr).2 with g | ⟨g,t,rfl⟩ | ⟨ow,B,cs,es,g,rfl,g2,g3⟩
  ·obtain ⟨ri,k1,k2,k3⟩:=hh.rows r _ g
   exact ⟨ri,e1 _ _ k1,k2.keep (fun _=>rfl) hk,k3⟩
  ·exact ⟨⟨0,0,0,true⟩,e2 r _ (dX r g) hr,⟨rfl, .inl ⟨rfl,rfl⟩⟩,fun hn=>by cases hn⟩
  ·obtain ⟨ri,k1,k2,k3⟩:=hh.rows r _ g
   refine ⟨ri,e1 _ _ k1,⟨k2.1,fun j hj=>?_⟩,k3⟩
   have hl:(JA ow B 0 es).length=(JA ow B 0 cs).length:=by rw [ND,ND,g2.len]
   obtain ⟨f1,u,f2,f3⟩:=k2.2 j (by rw [← hl];exact hj)
   refine ⟨f1,u,f2,?_⟩
   have:=zce (w:=w) (ρ:=ρ) ow B hk cs es 0 (fun j=>(w.cell? (xA ri.b j)).getD undef) g2 (fun q t _ h5 h6=>by
    obtain ⟨g4,g5⟩:=g3 q t h5 h6
    exact e2 _ _ (dX _ g4) g5) (fun j hj=>by
    obtain ⟨_,u,f2,f3⟩:=k2.2 j hj
    rw [f2];exact f3) j hj
   rw [f2] at this;exact this
 ·obtain ⟨_,g1,g2⟩:=X0 _ _ _ h1 h3 h5
  obtain ⟨_,g3,g4⟩:=X0 _ _ _ h2 h4 h6
  exact hh.inj q q' _ _ qi qi' g1 g3 g2 g4 h5 h6 h7
 ·refine e3 q (dX q ?_) ?_
  ·cases hq2:h q with
   | none=>rfl
   | some row=>have:=r1 q row hq2;omega
  ·cases hq2:h2 q with
   | none=>rfl
   | some row=>have:=(r2 q row hq2).1;omega
end
end Go.D
namespace Go.D
variable [fA]
section
variable {C:Cx} {w0:World} {outer own D:Nat→Prop} {R:Type} {st st1 st2:St} {ρ ρ1 ρ2:Nat→Option RI} {a a1 a2:Act} {w w1 w2:World} {j:JI}
omit [fA] in
theorem mR {α:Type} (l m:List α) (i:Nat) (d:α) (h:i<l.length):(l++m).getD i d=l.getD i d:=by
 rw [List.getD_eq_getElem?_getD,List.getD_eq_getElem?_getD,List.getElem?_append_left h]
omit [fA] in
theorem nR {α:Type} (l m:List α) (i:Nat) (d:α) (h:l.length≤i):(l++m).getD i d=m.getD (i - l.length) d:=by
 rw [List.getD_eq_getElem?_getD,List.getD_eq_getElem?_getD,List.getElem?_append_right h]
inductive XF:List (Bool × Nat)→List Value→List Value→Prop
 | nil:XF [] [] []
 | agg {n:Nat} {sh:List (Bool × Nat)} {rv cells:List Value} (vs:Array Value) (h:vs.size=n) (hr:XF sh rv cells):XF ((true,n) :: sh) (.agg vs :: rv) (vs.toList++cells)
 | one {sh:List (Bool × Nat)} {rv cells:List Value} (v:Value) (hr:XF sh rv cells):XF ((false,1) :: sh) (v :: rv) (v :: cells)
omit [fA] in
theorem XF.len {sh:List (Bool × Nat)} {rv cells:List Value} (h:XF sh rv cells):PH sh=cells.length∧rv.length=sh.length:=by
 induction h with
 | nil=>exact ⟨rfl,rfl⟩
 | agg vs h hr ih=>simp only [PH,List.map_cons,List.sum_cons,List.length_append,Array.length_toList,List.length_cons] at ih ⊢;omega
 | one v hr ih=>simp only [PH,List.map_cons,List.sum_cons,List.length_cons] at ih ⊢;omega
theorem zr7 {bad:Nat→Prop} {sh:List (Bool × Nat)} {rv cells:List Value} (h:XF sh rv cells):∀ X:List V,cells.length≤X.length→(∀ j (hj:j<X.length),j<cells.length→VR w ρ bad (cells.getD j undef) X[j])→
  (ZC sh X).length=rv.length∧∀ i (hi:i<(ZC sh X).length),VR w ρ bad (rv.getD i undef) (ZC sh X)[i]:=by
 induction h with
 | nil=>intro X _ _;exact ⟨rfl,fun i hi=>by simp [ZC] at hi⟩
 | agg vs eW hr ih=>
  rename_i n sh rv cells
  intro X hX hv
  simp only [List.length_append,Array.length_toList] at hX
  obtain ⟨h1,h2⟩:=ih (X.drop n) (by simp;omega) (fun j hj eX=>by
   have:=hv (n+j) (by simp at hj;omega) (by simp;omega)
   rw [List.getElem_drop]
   rw [nR _ _ _ _ (by simp;omega)] at this
   simpa [eW] using this)
  refine ⟨by simp [ZC,h1],fun i hi=>?_⟩
  cases i with
  | zero=>
   show VR w ρ bad (.agg vs) (.agg (X.take n))
   refine .agg _ _ (by simp;omega) fun j hj=>?_
   have hjn:j<n:=by simp at hj;omega
   have:=hv j (by simp at hj;omega) (by simp;omega)
   rw [mR _ _ _ _ (by simp;omega)] at this
   rw [List.getElem_take]
   rw [Array.getD_eq_getD_getElem?];rw [List.getD_eq_getElem?_getD] at this
   simpa using this
  | succ i=>exact h2 i (by simpa [ZC] using hi)
 | one v hr ih=>
  rename_i sh rv cells
  intro X hX hv
  cases X with
  | nil=>simp at hX
  | cons x X=>
   simp only [List.length_cons] at hX
   obtain ⟨h1,h2⟩:=ih X (by omega) (fun j hj eX=>hv (j+1) (by simp;omega) (by simp;omega))
   refine ⟨by simp [ZC,h1],fun i hi=>?_⟩
   cases i with
   | zero=>exact hv 0 (by simp) (by simp)
   | succ i=>exact h2 i (by simpa [ZC] using hi)
omit [fA] in
theorem zr6 {sh:List (Bool × Nat)} {X:List V} {v:V} (h:ZC sh X=[v]):RF sh X=v:=by simp [RF,h]
omit [fA] in
theorem zr4 {sh:List (Bool × Nat)} {X:List V} (h:∀ v,ZC sh X≠[v]):RF sh X= .tup (ZC sh X):=by
 unfold RF
 split
 ·rename_i v hv;exact absurd hv (h v)
 ·rfl
theorem zr5 {bad:Nat→Prop} {sh:List (Bool × Nat)} {rv cells:List Value} (h:XF sh rv cells) {X:List V} (hX:cells.length≤X.length) (hv:∀ j (hj:j<X.length),j<cells.length→VR w ρ bad (cells.getD j undef) X[j]):
  VR w ρ bad (if h:rv.toArray.size=1 then rv.toArray[0] else .tuple rv.toArray) (RF sh X):=by
 obtain ⟨h1,h2⟩:=zr7 h X hX hv
 by_cases hY:∃ v,ZC sh X=[v]
 ·obtain ⟨v,hY⟩:=hY
  rw [zr6 hY]
  rw [hY] at h1
  have hl:rv.toArray.size=1:=by simpa using h1.symm
  rw [dif_pos hl]
  have h3:=h2 0 (by rw [hY];simp)
  simp only [hY,List.getElem_cons_zero] at h3
  rw [List.getD_eq_getElem?_getD,List.getElem?_eq_getElem (by simp at hl;omega)] at h3
  simpa using h3
 ·have hl:¬ rv.toArray.size=1:=fun hl=>by
   have D3:(ZC sh X).length=1:=by rw [h1];simpa using hl
   exact hY (List.length_eq_one_iff.1 D3)
  rw [dif_neg hl,zr4 fun v hv=>hY ⟨v,hv⟩]
  refine .tup _ _ (by simp [h1]) fun i hi=>?_
  have:=h2 i hi
  rw [Array.getD_eq_getD_getElem?];rw [List.getD_eq_getElem?_getD] at this
  simpa using this
omit [fA] in
theorem zbn {α β:Type} {P:Program} {w:World} (f:α→Sem β):∀ (l:List α) (r:List β),l.length=r.length→(∀ i (hi:i<l.length) (hr:i<r.length),(f l[i]).run P w= .ok r[i] w)→(l.mapM f).run P w= .ok r w
 | [],[],_,_=>by simp
 | [],_ :: _,h,_=>by simp at h
 | _ :: _,[],h,_=>by simp at h
 | x :: l,y :: r,h,hf=>by
  have h0:=hf 0 (by simp) (by simp)
  simp only [List.getElem_cons_zero] at h0
  have h1:=zbn f l r (by simpa using h) (fun i hi hr=>hf (i+1) (by simp;omega) (by simp;omega))
  simp [List.mapM_cons,h0,h1,Result.andThen]
def MH (tmps:Array Value):ResultVar→Sem Value
 | .tmp t=>pure (tmps.getD t undef)
 | .cell x t=>do loadVar t (← asAddr (tmps.getD x undef))
theorem sS (hr:RA C w0 outer own ρ st a w):∀ (rs:List ResultVar) (sh:List (Bool × Nat)) (vs:List V),vF C.P st rs sh=some vs→
  ∃ rv cells,XF sh rv cells∧rs.length=rv.length∧cells.length=vs.length∧(∀ j (hj:j<vs.length),VR w ρ (mA outer ρ st.h) (cells.getD j undef) vs[j])∧
   ∀ i (hi:i<rs.length) (h2:i<rv.length),(MH a.tmps rs[i]).run C.P w= .ok rv[i] w
 | [],[],vs,h=>by
  simp only [vF,Option.some.injEq] at h;subst h
  exact ⟨[],[], .nil,rfl,rfl,fun j hj=>by simp at hj,fun i hi=>by simp at hi⟩
 | [],_ :: _,vs,h=>by simp [vF] at h
 | .tmp t :: _,[],vs,h=>by simp [vF] at h
 | .cell .. :: _,[],vs,h=>by simp [vF] at h
 | .tmp t :: rs,(ag,n) :: sh,vs,h=>by
  simp only [vF] at h
  have hv:=hr.slots t
  split at h
  ·rename_i cs us hs Y9
   cases hb:(ag&&Nat.beq n cs.length)
   case false=>simp [hb] at h
   simp only [hb,cond_true,Option.some.injEq] at h
   subst h
   simp only [Bool.and_eq_true] at hb
   obtain ⟨rfl,hn⟩:=hb
   have hn:=Nat.eq_of_beq_eq_true hn
   obtain ⟨rv,cells,h1,h2,h3,h4,h5⟩:=sS hr rs sh us Y9
   rw [hs] at hv
   generalize hA:a.tmps.getD t undef=A at hv
   cases hv with
   | agg _ vs eW cY=>
   refine ⟨.agg vs :: rv,vs.toList++cells, .agg vs (by omega) h1,by simp [h2],by simp [h3,eW],fun j hj=>?_,fun i hi lX=>?_⟩
   ·by_cases FX:j<cs.length
    ·rw [List.getElem_append_left FX,mR _ _ _ _ (by simp;omega)]
     have:=cY j FX
     rw [Array.getD_eq_getD_getElem?] at this;rw [List.getD_eq_getElem?_getD]
     simpa using this
    ·have eX:j - cs.length<us.length:=by simp at hj;omega
     rw [List.getElem_append_right (by omega),nR _ _ _ _ (by simp;omega)]
     have:=h4 _ eX
     simpa [eW] using this
   ·cases i with
    | zero=>simp only [List.getElem_cons_zero,MH,hA];rfl
    | succ i=>exact h5 i (by simpa using hi) (by simpa using lX)
  ·rename_i us Y9 ZX
   cases hb:(!ag&&Nat.beq n 1&&(st.s t).leaf)
   case false=>simp [hb] at h
   simp only [hb,cond_true,Option.some.injEq] at h
   subst h
   simp only [Bool.and_eq_true,Bool.not_eq_true'] at hb
   obtain ⟨⟨rfl,hn⟩,hlf⟩:=hb
   have hn:=Nat.eq_of_beq_eq_true hn
   subst hn
   obtain ⟨rv,cells,h1,h2,h3,h4,h5⟩:=sS hr rs sh us Y9
   refine ⟨a.tmps.getD t undef :: rv,a.tmps.getD t undef :: cells, .one _ h1,by simp [h2],by simp [h3],fun j hj=>?_,fun i hi lX=>?_⟩
   ·cases j with
    | zero=>exact hv
    | succ j=>exact h4 j (by simpa using hj)
   ·cases i with
    | zero=>rfl
    | succ i=>exact h5 i (by simpa using hi) (by simpa using lX)
  ·cases h
 | .cell x t :: rs,(ag,n) :: sh,vs,h=>by
  simp only [vF] at h
  have hv:=hr.slots x
  split at h
  case h_2=>cases h
  rename_i b us ag' n' hs Y9 DW eW
  split at h
  case h_2=>cases h
  rename_i cs m LV
  cases hb:((ag==ag')&&Nat.beq n n'&&Nat.beq n cs.length&&(ag||Nat.beq n 1))
  case false=>simp [hb] at h
  simp only [hb,cond_true,Option.some.injEq] at h
  subst h
  simp only [Bool.and_eq_true,beq_iff_eq] at hb
  obtain ⟨⟨⟨rfl,h1⟩,h2⟩,h3⟩:=hb
  have h1:=Nat.eq_of_beq_eq_true h1
  have h2:=Nat.eq_of_beq_eq_true h2
  subst h1
  obtain ⟨rv,cells,k1,k2,k3,k4,k5⟩:=sS hr rs sh us Y9
  rw [hs] at hv
  obtain ⟨ri,hρ,dW,_⟩:=hr.heap.rows _ _ LV
  obtain ⟨e1,e2⟩:=AV hρ dW hv
  have RV:gE ag n cs 0 some=some (if ag then .agg cs else cs.getD 0 .undef):=by
   unfold gE
   cases ag with
   | true=>
    have:Nat.ble (0+n) cs.length=true:=Nat.ble_eq_true_of_le (by omega)
    simp only [XB,this,if_true,List.drop_zero]
    rw [List.take_of_length_le (by omega)]
   | false=>
    simp only [Bool.false_or] at h3
    have:=Nat.eq_of_beq_eq_true h3
    match cs,h2 with
    | [c],_=>rfl
    | [],h2=>simp at h2;omega
    | _ :: _ :: _,h2=>simp at h2;omega
  obtain ⟨d,v,g1,g2,g3⟩:=zfk (K:=some) DW eW e2 RV
  have g1:d=if ag then V.agg cs else cs.getD 0 .undef:=Option.some.inj g1
  subst g1
  have KV:(MH a.tmps (.cell x t)).run C.P w= .ok v w:=by
   simp only [MH,e1,asAddr,Sem.run_bind,Sem.run_pure,Result.andThen_ok]
   exact g3
  cases ag with
  | true=>
   simp only [if_true] at g2
   cases g2 with
   | agg _ vs dAA cY=>
   refine ⟨.agg vs :: rv,vs.toList++cells, .agg vs (by omega) k1,by simp [k2],by simp [k3,dAA],fun j hj=>?_,fun i hi lX=>?_⟩
   ·by_cases FX:j<cs.length
    ·rw [List.getElem_append_left FX,mR _ _ _ _ (by simp;omega)]
     have:=cY j FX
     rw [Array.getD_eq_getD_getElem?] at this;rw [List.getD_eq_getElem?_getD]
     simpa using this
    ·have eX:j - cs.length<us.length:=by simp at hj;omega
     rw [List.getElem_append_right (by omega),nR _ _ _ _ (by simp;omega)]
     have:=k4 _ eX
     simpa [dAA] using this
   ·cases i with
    | zero=>exact KV
    | succ i=>exact k5 i (by simpa using hi) (by simpa using lX)
  | false=>
   simp only [Bool.false_or] at h3
   have h3:=Nat.eq_of_beq_eq_true h3
   subst h3
   match cs,h2 with
   | [c],_=>
    simp only [Bool.false_eq_true,if_false] at g2
    refine ⟨v :: rv,v :: cells, .one v k1,by simp [k2],by simp [k3],fun j hj=>?_,fun i hi lX=>?_⟩
    ·cases j with
     | zero=>exact g2
     | succ j=>exact k4 j (by simpa using hj)
    ·cases i with
     | zero=>exact KV
     | succ i=>exact k5 i (by simpa using hi) (by simpa using lX)
   | [],h2=>simp at h2
   | _ :: _ :: _,h2=>simp at h2
theorem zsj (hr:RA C w0 outer own ρ st a w) {fn:Func} {sh:List (Bool × Nat)} {vs:List V} (h:vF C.P st fn.results.toList sh=some vs):
  ∃ rv cells,XF sh rv cells∧cells.length=vs.length∧(∀ j (hj:j<vs.length),VR w ρ (mA outer ρ st.h) (cells.getD j undef) vs[j])∧
   (results fn a.tmps).run C.P w= .ok (if h:rv.toArray.size=1 then rv.toArray[0] else .tuple rv.toArray) w:=by
 obtain ⟨rv,cells,h1,h2,h3,h4,h5⟩:=sS hr _ _ _ h
 refine ⟨rv,cells,h1,h3,h4,?_⟩
 have:=zbn (P:=C.P) (w:=w) (MH a.tmps) fn.results.toList rv h2 h5
 show ((do let vs ← fn.results.mapM (MH a.tmps);pure (if h:vs.size=1 then vs[0] else .tuple vs)):Sem Value).run C.P w=_
 rw [Array.mapM_eq_mapM_toList]
 simp only [Sem.run_bind,Sem.run_map,this,Result.andThen_ok,Sem.run_pure]
end
end Go.D
namespace Go.D
variable [fA]
inductive Bd:V→Prop where
 | undef:Bd .undef
 | bool (b:Bool):Bd (.bool b)
 | int (k:IntKind) (n:Int) (h:VC k n):Bd (.int k n)
 | str (s:List UInt8) (h:s.length≤maxLen):Bd (.str s)
 | nil:Bd .nil
 | sl (t:TN) (l:List (El t)) (h:l.length≤maxLen) (hv:∀ i (h:i<l.length) j,j<sz t→Bd ((enc t l[i]).getD j .undef)):Bd (.sl t l)
 | ow (r:Nat):Bd (.ow r)
 | ov (r:Nat) (t:TN) (off len:Nat):Bd (.ov r t off len)
 | bp (r off:Nat):Bd (.bp r off)
 | ep (r:Nat) (t:TN) (i off:Nat):Bd (.ep r t i off)
 | fp (cs:List V) (off:Nat) (h:∀ j (h:j<cs.length),Bd cs[j]):Bd (.fp cs off)
 | fn (f:Nat) (cs:List V) (h:∀ j (h:j<cs.length),Bd cs[j]):Bd (.fn f cs)
 | agg (cs:List V) (h:∀ j (h:j<cs.length),Bd cs[j]):Bd (.agg cs)
 | tup (cs:List V) (h:∀ j (h:j<cs.length),Bd cs[j]):Bd (.tup cs)
 | nili:Bd .nili
 | ifc (b:Bool):Bd (.ifc b)
section
variable {w:World} {ρ:Nat→Option RI} {bad:Nat→Prop} {v:Value} {d:V}
theorem VR.bd (h:VR w ρ bad v d):Bd d:=by
 induction h with
 | undef=>exact .undef
 | bool=>exact .bool _
 | int _ _ h=>exact .int _ _ h
 | str _ h=>exact .str _ h
 | nil=>exact .nil
 | slE=>exact .sl _ _ (Nat.zero_le _) (fun i h=>by simp at h)
 | slC t l b off cap u hb hl hc he hu hv ih=>exact .sl _ _ (Nat.le_trans hl hc) ih
 | ow=>exact .ow _
 | owN=>exact .ow _
 | ov=>exact .ov _ _ _ _
 | bp=>exact .bp _ _
 | ep=>exact .ep _ _ _ _
 | fp cs off b o u h0 hb hu hv ih=>exact .fp _ _ ih
 | fn f cs caps hs hv ih=>exact .fn _ _ ih
 | agg cs vs hs hv ih=>exact .agg _ ih
 | tup cs vs hs hv ih=>exact .tup _ ih
 | nili=>exact .nili
 | ifc=>exact .ifc _
 | ifn=>exact .ifc _
def BF (t:TN) (x:El t):Prop:=∀ j,j<sz t→Bd ((enc t x).getD j .undef)
def bdl (t:TN) (l:List (El t)):Prop:=l.length≤maxLen∧∀ x ∈ l,BF t x
omit [fA] in
theorem Bd.list {t:TN} {l:List (El t)} (h:Bd (.sl t l)):bdl t l:=by
 cases h with
 | sl _ _ h hv=>
  refine ⟨h,fun x hx j hj=>?_⟩
  obtain ⟨i,hi,rfl⟩:=List.mem_iff_getElem.1 hx
  exact hv i hi j hj
omit [fA] in
theorem Bd.len {s:List UInt8} (h:Bd (.str s)):s.length≤maxLen:=by cases h;assumption
omit [fA] in
theorem Bd.fits {k:IntKind} {n:Int} (h:Bd (.int k n)):VC k n:=by cases h;assumption
omit [fA] in
theorem zew (t:TN) (h:t.isAgg=false) (x:El t):∃ c,enc t x=[c]:=by cases t <;> first | exact ⟨_,rfl⟩ | simp [TN.isAgg] at h
def uV:(t:Ty)→t.T→Prop
 | .v t,x=>BF t x
 | .sl t,l=>bdl t l
 | .raw,v=>Bd v
 | .cells t,x=>BF t x
 | .pt t,x=>BF t x
 | .c1 _ t,x=>BF t x
 | .p1 _ t,x=>BF t x
 | .c2 _ _ t,x=>BF t x.1∧BF t x.2
omit [fA] in
theorem PM {t:TN} {x:El t} (h:Bd (.fp (enc t x) 0)):BF t x:=fun j hj=>by
 have eX:j<(enc t x).length:=by rw [aC];exact hj
 rw [List.getD_eq_getElem?_getD,List.getElem?_eq_getElem eX]
 cases h with
 | fp _ _ h=>exact h j eX
omit [fA] in
theorem OP {g:Nat} {c:V} {r:List V} (h:Bd (.fn g (c :: r))):Bd c:=by
 cases h with
 | fn _ _ h=>exact h 0 (by simp)
omit [fA] in
theorem zhx {g:Nat} {c d:V} (h:Bd (.fn g [c,d])):Bd d:=by
 cases h with
 | fn _ _ h=>exact h 1 (by simp)
omit [fA] in
theorem zcE {c:V} (h:Bd (.fp [c] 0)):Bd c:=by
 cases h with
 | fp _ _ h=>exact h 0 (by simp)
def rA:(ts:List Ty)→lA ts→Prop
 | [],_=>True
 | [t],x=>uV t x
 | t :: d :: r,x=>uV t x.1∧rA (d :: r) x.2
omit [fA] in
theorem zcD {t:Ty} {x:t.T} (h:Bd (VB t x)):uV t x:=by
 cases t with
 | v t=>
  intro j hj
  simp only [VB,PG] at h
  have eX:j<(enc t x).length:=by rw [aC];exact hj
  cases DW:t.isAgg
  ·simp only [DW,cond_false] at h
   have eW:sz t=1:=by cases t <;> first | rfl | simp [TN.isAgg] at DW
   obtain ⟨c,hc⟩:=zew t DW x
   simp only [hc] at h ⊢
   have:j=0:=by omega
   subst this
   exact h
  ·simp only [DW,cond_true] at h
   rw [List.getD_eq_getElem?_getD,List.getElem?_eq_getElem eX]
   cases h with
   | agg _ h=>exact h j eX
 | sl t=>exact Bd.list h
 | raw=>exact h
 | cells t=>
  intro j hj
  have eX:j<(enc t x).length:=by rw [aC];exact hj
  rw [List.getD_eq_getElem?_getD,List.getElem?_eq_getElem eX]
  cases h with
  | agg _ h=>exact h j eX
 | pt t=>exact PM h
 | c1 g t=>exact PM (OP h)
 | p1 g t=>exact PM (OP (zcE h))
 | c2 g h' t=>exact ⟨PM (OP (zcE (OP h))),PM (zhx h)⟩
omit [fA] in
theorem tV:∀ (ts:List Ty) (x:lA ts),(∀ v ∈ WA ts x,Bd v)→rA ts x
 | [],x,h=>trivial
 | [t],x,h=>zcD (h _ (by simp [WA]))
 | t :: d :: r,x,h=>⟨zcD (h _ (by simp [WA])),tV (d :: r) x.2 fun v hv=>h v (by simp [WA,hv])⟩
omit [fA] in
theorem zpF {t:Ty} {ats:List Ty} (x:lA (t :: ats)):∃ (x0:t.T) (y:lA ats),WA (t :: ats) x=VB t x0 :: WA ats y:=by
 cases ats with
 | nil=>exact ⟨x,(),rfl⟩
 | cons d r=>exact ⟨x.1,x.2,rfl⟩
theorem zcF {outer own:Nat→Prop} {w0:World} {h:Nat→Option nA} (hh:aB w0 outer own ρ h w) {r:Nat} {t:TN} {l:List (El t)} {m:HE} (hr:h r=some ⟨.arr t l,m⟩):Bd (.sl t l):=by
 obtain ⟨ri,_,⟨hn,ho⟩,_⟩:=hh.rows r _ hr
 rcases ho with ⟨_,rfl⟩ | ⟨_,_,h1,h2,_,h3⟩
 ·exact .sl _ _ (Nat.zero_le _) fun i h=>by simp at h
 ·refine .sl _ _ (by omega) fun i hi j hj=>?_
  obtain ⟨u,_,h4⟩:=h3 i hi j hj
  exact h4.bd
omit [fA] in
theorem zcc (ow:List Nat) (B:Nat):∀ (es:List V) (p:Nat),(∀ j (hj:j<(JA ow B p es).length),Bd (JA ow B p es)[j])→(∀ q t l,UA ow B (fun _=>none) p es q=some ⟨.arr t l, .own⟩→Bd (.sl t l))→∀ j (hj:j<es.length),Bd es[j]
 | [],p,hv,hr,j,hj=>by simp at hj
 | e :: es,p,hv,hr,j,hj=>by
  have hd:∃ e',JA ow B p (e :: es)=e' :: JA ow B (p+1) es:=by cases e <;> exact ⟨_,rfl⟩
  obtain ⟨e',YX⟩:=hd
  have D5:∀ j (hj:j<(e' :: JA ow B (p+1) es).length),Bd (e' :: JA ow B (p+1) es)[j]:=fun j hj=>by
   have:=hv j (by rw [YX];exact hj)
   simpa only [YX] using this
  cases j with
  | succ j=>
   refine zcc ow B es (p+1) (fun j hj=>by have:=D5 (j+1) (by simp;omega);simpa using this) (fun q t l hq=>?_) j (by simpa using hj)
   obtain ⟨_,_,_,h1,_⟩:=UC _ _ _ _ _ _ hq
   refine hr q t l ?_
   have:=XU ow B e es p (q - B) (by omega)
   rw [show B+(q - B)=q by omega] at this
   rw [this];exact hq
  | zero=>
   have h0:=D5 0 (by simp)
   simp only [List.getElem_cons_zero] at h0 ⊢
   have h1:=congrArg List.head? YX
   cases e <;> simp only [JA,List.head?_cons,Option.some.injEq] at h1 <;> try (subst h1;exact h0)
   rename_i t l
   cases hb:ow.any (Nat.beq p)
   ·simp only [hb,cond_false] at h1;subst h1;exact h0
   ·exact hr (B+p) t l (by simp only [UA,hb,cond_true,IA])
theorem zeA {outer own:Nat→Prop} {w0:World} {h:Nat→Option nA} (hh:aB w0 outer own ρ h w):∀ (ks:List ZA) (ats:List Ty) (x:lA ats) (k:Nat) (u:Nat→Value),HB ks ats=true→
  (∀ q row,yA ks k (WA ats x) q=some row→h q=some row)→
  (∀ j (hj:j<(rB ks k (WA ats x)).length),VR w ρ (mA outer ρ h) (u j) (rB ks k (WA ats x))[j])→∀ v ∈ WA ats x,Bd v:=by
 intro ks
 induction ks with
 | nil=>
  intro ats x k u hk hE hS v hv
  cases ats with
  | nil=>simp [WA] at hv
  | cons=>simp [HB] at hk
 | cons g ks ih=>
  intro ats x k u hk hE hS v hv
  cases ats with
  | nil=>cases g <;> simp [HB] at hk
  | cons t ats=>
   obtain ⟨x0,y,he⟩:=zpF x
   rw [he] at hE hS hv
   cases g with
   | plain=>
    simp only [HB] at hk
    rcases List.mem_cons.1 hv with rfl | hv
    ·exact (hS 0 (by simp [rB])).bd
    ·exact ih ats y (k+1) (fun j=>u (j+1)) hk (fun q row hq=>hE q row (by simpa only [yA] using hq)) (fun j hj=>hS (j+1) (by simp [rB];omega)) v hv
   | mv ow=>
    cases t with
    | v t=>
     simp only [HB,Bool.and_eq_true] at hk
     obtain ⟨⟨DW,eW⟩,hk⟩:=hk
     have eW:=Nat.le_of_ble_eq_true eW
     have U8:VB (.v t) x0= .agg (enc t x0):=by simp only [VB,PG,DW,cond_true]
     rw [U8] at hE hS hv
     have AW:(enc t x0).length=sz t:=aC t x0
     rcases List.mem_cons.1 hv with rfl | hv
     ·have h0:=hS 0 (by simp [rB])
      simp only [rB,List.getElem_cons_zero] at h0
      generalize u 0=u0 at h0
      cases h0 with
      | agg _ vsA hs cY=>
      refine .agg _ (zcc ow (128 *k) _ 0 (fun j hj=>(cY j hj).bd) fun q t' l hq=>?_)
      obtain ⟨_,_,_,e1,e2⟩:=UC _ _ _ _ _ _ hq
      refine zcF hh (hE q ⟨.arr t' l, .own⟩ ?_)
      simp only [yA]
      rw [FB,hq]
     ·refine ih ats y (k+1) (fun j=>u (j+1)) hk (fun q row hq=>hE q row ?_) (fun j hj=>hS (j+1) (by simp [rB];omega)) v hv
      have bZ:=rE ks (k+1) _ q row hq
      simp only [yA]
      rw [FB,BC _ _ _ _ _ (by omega)];exact hq
    | _=>simp [HB] at hk
   | ptr ow=>
    cases t with
    | cells t=>
     simp only [HB,Bool.and_eq_true] at hk
     obtain ⟨eW,hk⟩:=hk
     have eW:=Nat.le_of_ble_eq_true eW
     simp only [VB] at hE hS hv
     have AW:(enc t x0).length=sz t:=aC t x0
     have LV:=hE (128 *k+127) _ (by simp only [yA];exact IA _ _ _)
     rcases List.mem_cons.1 hv with rfl | hv
     ·obtain ⟨ri,_,dW,_⟩:=hh.rows _ _ LV
      refine .agg _ (zcc ow (128 *k) _ 0 (fun j hj=>?_) fun q t' l hq=>?_)
      ·obtain ⟨_,x,_,h2⟩:=dW.2 j hj
       exact h2.bd
      ·obtain ⟨_,_,_,e1,e2⟩:=UC _ _ _ _ _ _ hq
       refine zcF hh (hE q ⟨.arr t' l, .own⟩ ?_)
       simp only [yA]
       rw [vA _ _ _ _ (by omega),FB,hq]
     ·refine ih ats y (k+1) (fun j=>u (j+1)) hk (fun q row hq=>hE q row ?_) (fun j hj=>hS (j+1) (by simp [rB];omega)) v hv
      have bZ:=rE ks (k+1) _ q row hq
      simp only [yA]
      rw [vA _ _ _ _ (by omega),FB,BC _ _ _ _ _ (by omega)];exact hq
    | _=>simp [HB] at hk
end
end Go.D
namespace Go.D
variable [fA]
section
variable {C:Cx} {w0:World} {outer own D:Nat→Prop} {R:Type} {st st1 st2:St} {ρ ρ1 ρ2:Nat→Option RI} {a a1 a2:Act} {w w1 w2:World} {j:JI}
omit [fA] in
theorem zve {t:Ty} {ats:List Ty} {as:List V} {x:lA (t :: ats)} (hd:jC (t :: ats) as=some x):
  ∃ v vs y,as=v :: vs∧∃ (x0:t.T),DC t v=some x0∧jC ats vs=some y∧WA (t :: ats) x=VB t x0 :: WA ats y:=by
 cases ats with
 | nil=>
  cases as with
  | nil=>simp [jC] at hd
  | cons v vs=>
   cases vs with
   | nil=>exact ⟨v,[],(),rfl,x,by simpa [jC] using hd,rfl,rfl⟩
   | cons=>simp [jC] at hd
 | cons d r=>
  cases as with
  | nil=>simp [jC] at hd
  | cons v vs=>
   simp only [jC] at hd
   obtain ⟨x0,h1,h2⟩:=Option.bind_eq_some_iff.1 hd
   obtain ⟨y,h3,h4⟩:=Option.bind_eq_some_iff.1 h2
   cases h4
   exact ⟨v,vs,y,rfl,x0,h1,h3,rfl⟩
omit [fA] in
theorem zse:∀ (ks:List ZA) (ats:List Ty) (as:List V) (x:lA ats) (k:Nat),HB ks ats=true→jC ats as=some x→
  (∀ bs vs h,uB ks (WA ats x) bs vs h=uB ks as bs vs h)∧∀ bs q b,fB ks k bs q=some b→∃ row,yA ks k as q=some row:=by
 intro ks
 induction ks with
 | nil=>
  intro ats as x k hk hd
  cases ats with
  | nil=>cases as with
   | nil=>exact ⟨fun _ _ _=>rfl,fun bs q b h=>by simp [fB] at h⟩
   | cons=>simp [jC] at hd
  | cons=>simp [HB] at hk
 | cons g ks ih=>
  intro ats as x k hk hd
  cases ats with
  | nil=>cases g <;> simp [HB] at hk
  | cons t ats=>
   obtain ⟨v,vs,y,rfl,x0,h1,h3,h4⟩:=zve hd
   rw [h4]
   cases g with
   | plain=>
    simp only [HB] at hk
    obtain ⟨e1,e2⟩:=ih ats vs y (k+1) hk h3
    exact ⟨fun bs ws h=>e1 bs ws h,fun bs q b h=>by simp only [fB] at h;exact e2 bs q b h⟩
   | mv ow=>
    cases t with
    | v t=>
     simp only [HB,Bool.and_eq_true] at hk
     obtain ⟨⟨DW,eW⟩,hk⟩:=hk
     have eW:=Nat.le_of_ble_eq_true eW
     obtain ⟨e1,e2⟩:=ih ats vs y (k+1) hk h3
     simp only [DC] at h1
     split at h1
     case h_2=>simp [DW] at h1
     rename_i cs
     simp only [DW,cond_true] at h1
     have AW:(enc t x0).length=sz t:=aC t x0
     have m5:cs.length=sz t:=by rw [(CD t h1).len,AW]
     refine ⟨fun bs ws h=>e1 bs ws h,fun bs q b h=>?_⟩
     simp only [fB] at h
     have bZ:=(AD _ _ _ _ _ h).1
     simp only [yA]
     rw [FB,BC _ _ _ _ _ (by omega)];exact e2 bs q b h
    | _=>simp [HB] at hk
   | ptr ow=>
    cases t with
    | cells t=>
     simp only [HB,Bool.and_eq_true] at hk
     obtain ⟨eW,hk⟩:=hk
     have eW:=Nat.le_of_ble_eq_true eW
     obtain ⟨e1,e2⟩:=ih ats vs y (k+1) hk h3
     simp only [DC] at h1
     split at h1
     ·rename_i cs
      have hl:=(CD t h1).len
      refine ⟨fun bs ws h=>?_,fun bs q b h=>?_⟩
      ·cases bs with
       | nil=>rfl
       | cons b bs=>simp only [VB,uB, ← hl,e1]
      ·cases bs with
       | nil=>simp [fB] at h
       | cons c bs=>
        simp only [fB] at h
        simp only [yA]
        by_cases hq:q=128 *k+127
        ·subst hq;exact ⟨_,IA _ _ _⟩
        ·rw [if_neg hq] at h
         have bZ:=(AD _ _ _ _ _ h).1
         have AW:(enc t x0).length=sz t:=aC t x0
         rw [vA _ _ _ _ hq,FB,BC _ _ _ _ _ (by omega)];exact e2 bs q b h
     ·cases h1
    | _=>simp [HB] at hk
theorem zhG (hh:aB w0 outer own ρ st.h w):∀ (ks:List ZA) (as:List V) (k:Nat) (us:List V),bE st ks as k=some us→
  ∃ uc:Nat→Value,(∀ j (hj:j<us.length),VR w ρ (mA outer ρ st.h) (uc j) us[j])∧
   ∀ (bs:List Nat) (vs:List V) (h0:Nat→Option nA) (r:Nat) (row:nA),uB ks as bs vs h0 r=some row→h0 r=some row∨
    ∃ q off n cs ri,fB ks k bs q=some r∧row=⟨.box ((vs.drop off).take n), .own⟩∧off+n≤us.length∧st.h q=some ⟨.box cs, .own⟩∧ρ q=some ri∧ri.nl=false∧
     ∀ i,i<n→w.frozen? (xA ri.b i)=false∧w.cell? (xA ri.b i)=some (uc (off+i)):=by
 intro ks
 induction ks with
 | nil=>
  intro as k us h
  cases as with
  | nil=>
   simp only [bE,Option.some.injEq] at h;subst h
   exact ⟨fun _=>undef,fun j hj=>by simp at hj,fun bs vs h0 r row hr=> .inl (by simpa [uB] using hr)⟩
  | cons=>simp [bE] at h
 | cons g ks ih=>
  intro as k us h
  cases g with
  | plain=>
   cases as with
   | nil=>simp [bE] at h
   | cons v as=>
    simp only [bE] at h
    obtain ⟨uc,h1,h2⟩:=ih as (k+1) us h
    exact ⟨uc,h1,fun bs vs h0 r row hr=>by simp only [uB] at hr;simp only [fB];exact h2 bs vs h0 r row hr⟩
  | mv ow=>
   cases as with
   | nil=>simp [bE] at h
   | cons v as=>
    simp only [bE] at h
    obtain ⟨uc,h1,h2⟩:=ih as (k+1) us h
    exact ⟨uc,h1,fun bs vs h0 r row hr=>by simp only [uB] at hr;simp only [fB];exact h2 bs vs h0 r row hr⟩
  | ptr ow=>
   cases as with
   | nil=>simp [bE] at h
   | cons v as=>
    cases v with
    | agg cs0=>
     simp only [bE] at h
     split at h
     case h_2=>cases h
     rename_i cs us' LV d8
     cases hb:Nat.beq cs.length cs0.length
     case false=>simp [hb] at h
     simp only [hb,cond_true,Option.some.injEq] at h
     subst h
     have hl:=Nat.eq_of_beq_eq_true hb
     obtain ⟨uc,h1,h2⟩:=ih as (k+1) us' d8
     obtain ⟨ri,hρ,dW,_⟩:=hh.rows _ _ LV
     refine ⟨fun j=>if j<cs.length then (w.cell? (xA ri.b j)).getD undef else uc (j - cs.length),fun j hj=>?_,fun bs vs h0 r row hr=>?_⟩
     ·dsimp only
      by_cases FX:j<cs.length
      ·rw [if_pos FX,List.getElem_append_left FX]
       obtain ⟨_,u,f1,f2⟩:=dW.2 j FX
       rw [f1];exact f2
      ·rw [if_neg FX,List.getElem_append_right (by omega)]
       exact h1 _ _
     ·cases bs with
      | nil=>exact .inl (by simpa [uB] using hr)
      | cons b bs=>
       simp only [uB] at hr
       by_cases hrb:r=b
       ·subst hrb
        rw [IA] at hr;cases hr
        refine .inr ⟨128 *k+127,0,cs0.length,cs,ri,by simp [fB],by simp,by simp;omega,LV,hρ,dW.1,fun i hi=>?_⟩
        obtain ⟨f0,u,f1,f2⟩:=dW.2 i (by omega)
        refine ⟨f0,?_⟩
        dsimp only
        rw [if_pos (by omega)]
        simp [f1]
       ·rw [vA _ _ _ _ hrb] at hr
        rcases h2 bs _ h0 r row hr with h3 | ⟨q,off,n,cs',ri',e1,e2,e3,e4,e5,e6,e7⟩
        ·exact .inl h3
        ·refine .inr ⟨q,cs0.length+off,n,cs',ri',?_,by rw [e2,List.drop_drop],by simp;omega,e4,e5,e6,fun i hi=>?_⟩
         ·have:=(AD _ _ _ _ _ e1).1
          simp only [fB];rw [if_neg (by omega)];exact e1
         ·obtain ⟨g1,g2⟩:=e7 i hi
          refine ⟨g1,?_⟩
          dsimp only
          rw [g2,if_neg (by omega)]
          congr 2;omega
    | _=>simp [bE] at h
omit [fA] in
theorem zqb {h:Nat→Option nA} {v:V} {x:V × List Nat} (hf:tE h v=some x):∀ r ∈ x.2,∃ t l m,h r=some ⟨.arr t l,m⟩:=by
 unfold tE at hf
 split at hf
 ·rename_i r
  split at hf
  ·rename_i t l m hr
   cases hm:m.isLock <;> simp [hm] at hf
   subst hf;intro q hq;simp at hq;subst hq;exact ⟨_,_,_,hr⟩
  ·cases hf
 ·rename_i r t off len
  split at hf
  ·rename_i t' l m hr
   cases hm:m.isLock
   ·simp only [hm,cond_false] at hf
    split at hf
    ·simp at hf;subst hf;intro q hq;simp at hq;subst hq;exact ⟨_,_,_,hr⟩
    ·cases hf
   ·simp [hm] at hf
  ·cases hf
 ·cases hb:iE 8 v <;> simp [hb] at hf
  subst hf;simp
omit [fA] in
theorem xP (ow:List Nat):∀ (cs:List V) (p:Nat) (h:Nat→Option nA) (x:List V × (Nat→Option nA)) (q:Nat) (c:List V),AC ow p cs h=some x→h q=some ⟨.box c, .own⟩→x.2 q=some ⟨.box c, .own⟩
 | [],p,h,x,q,c,ht,hq=>by simp [AC] at ht;subst ht;exact hq
 | v :: cs,p,h,x,q,c,ht,hq=>by
  simp only [AC] at ht
  cases hb:ow.any (Nat.beq p)
  ·simp only [hb,cond_false] at ht
   split at ht
   case h_2=>cases ht
   rename_i c' ids I0
   split at ht
   case h_2=>cases ht
   rename_i hr
   cases ht
   have hx:=xP ow cs _ _ _ q c hr
   refine hx ?_
   rw [ID,if_neg]
   ·exact hq
   ·intro hm
    obtain ⟨t,l,m,h3⟩:=zqb I0 q hm
    rw [hq] at h3;cases h3
  ·simp only [hb,cond_true] at ht
   split at ht
   ·split at ht
    case h_2=>cases ht
    rename_i LV
    split at ht
    case h_2=>cases ht
    rename_i hr
    cases ht
    have hx:=xP ow cs _ _ _ q c hr
    refine hx ?_
    rw [vA _ _ _ _ (by rintro rfl;rw [LV] at hq;cases hq)];exact hq
   ·split at ht
    case h_2=>cases ht
    rename_i hr
    cases ht
    have hx:=xP ow cs _ _ _ q c hr
    exact hx hq
   ·split at ht
    case h_2=>cases ht
    rename_i LV
    split at ht
    case h_2=>cases ht
    rename_i hr
    cases ht
    have hx:=xP ow cs _ _ _ q c hr
    refine hx ?_
    rw [vA _ _ _ _ (by rintro rfl;rw [LV] at hq;cases hq)];exact hq
   ·cases ht
open Classical in
theorem zpY {fn:Func} {ks:List ZA} {as:List V} {bs ow:List Nat} {base:Nat} {shape:List (Bool × Nat)} {rts:List Ty} {vs us rs:List V} {h2:Nat→Option nA} {r:lA rts}
  (hr:RA C w0 outer own ρ st a w) (hf:∀ q,st.nx≤q→ρ q=none) (WX:vF C.P st fn.results.toList shape=some vs) (d8:bE st ks as 0=some us)
  (aX:AC ow 0 (vs++us) st.h=some (rs,h2)) (hun:xG rts rs=some r) (QV:(KC rts r).length≤128) (o5:bs.Nodup) (hbo:∀ b ∈ bs,Out base 128 b):
  ∃ v,(results fn a.tmps).run C.P w= .ok v w∧∃ ρf,aB w0 outer own ρf (jD ks as bs ow base shape (KC rts r)) w∧
   VR w ρf (mA outer ρf (jD ks as bs ow base shape (KC rts r))) v (RF shape (JA ow base 0 (KC rts r)))∧
   (∀ q b,fB ks 0 bs q=some b→ρf b=ρ q)∧(∀ r,ρf r≠none→(base≤r∧r<base+128)∨r ∈ bs):=by
 obtain ⟨rv,cells,k1,k2,k3,k4⟩:=zsj hr WX
 obtain ⟨uc,u1,u2⟩:=zhG hr.heap ks as 0 us d8
 have JW:=zcg rts rs r hun
 have Z9:=DM ow _ _ _ _ aX
 simp only at Z9
 generalize hR0:KC rts r=R0 at *
 have hRl:R0.length=vs.length+us.length:=by rw [← JW.len,Z9,List.length_append]
 have hsh:PH shape=vs.length:=by rw [k1.len.1,k2]
 let M:=st.nx
 let u:Nat→Value:=fun j=>if j<vs.length then cells.getD j undef else uc (j - vs.length)
 have hhn:∀ q,st.nx≤q→st.h q=none:=fun q hq=>by
  cases hg:st.h q with
  | none=>rfl
  | some row=>obtain ⟨ri,h3,_⟩:=hr.heap.rows _ _ hg;rw [hf q hq] at h3;cases h3
 obtain ⟨ρ2,g2,T,hTl⟩:=yP ow M 128 (vs++us) 0 st.h h2 rs R0 ρ st.h u aX JW (by rw [List.length_append];omega) hr.heap (fun j hj=>by
   simp only [u]
   by_cases FX:j<vs.length
   ·rw [if_pos FX,List.getElem_append_left FX];exact k3 j FX
   ·rw [if_neg FX,List.getElem_append_right (by omega)];exact u1 _ (by simp at hj;omega)) (fun _ _ h=>h) (fun q _=>hhn _ (by simp only [M];omega)) (fun q _ _=>hf _ (by simp only [M];omega))
 let ρf:Nat→Option RI:=fun r=>if base≤r∧r<base+128 then ρ2 (M+(r - base)) else if h:∃ q,fB ks 0 bs q=some r then ρ (Classical.choose h) else none
 let φ:Nat→Nat:=fun r=>if base≤r∧r<base+128 then M+(r - base) else if h:∃ q,fB ks 0 bs q=some r then Classical.choose h else 0
 have lZ:∀ q,q<128→ρf (base+q)=ρ2 (M+q)∧φ (base+q)=M+q:=fun q hq=>by
  have h1:base≤base+q∧base+q<base+128:=by omega
  simp only [ρf,φ,if_pos h1]
  have:base+q - base=q:=by omega
  simp [this]
 have D1:∀ q b,fB ks 0 bs q=some b→ρf b=ρ q∧φ b=q:=fun q b hq=>by
  have h1:¬ (base≤b∧b<base+128):=hbo b (AD _ _ _ _ _ hq).2.2
  have h2:∃ q,fB ks 0 bs q=some b:=⟨q,hq⟩
  have h3:Classical.choose h2=q:=SM ks 0 bs _ _ b o5 (Classical.choose_spec h2) hq
  simp only [ρf,φ,if_neg h1,dif_pos h2,h3]
  exact ⟨trivial,trivial⟩
 -- the rows
 have LV:∀ q row,jD ks as bs ow base shape R0 q=some row→
   (∃ p t l,p<128∧q=base+p∧row=⟨.arr t l, .own⟩∧g2 (M+p)=some row)∨
   ∃ p off n cs ri,fB ks 0 bs p=some q∧row=⟨.box ((((JA ow base 0 R0).drop (PH shape)).drop off).take n), .own⟩∧off+n≤us.length∧g2 p=some ⟨.box cs, .own⟩∧ρ p=some ri∧ri.nl=false∧p<M∧
    ∀ i,i<n→w.frozen? (xA ri.b i)=false∧w.cell? (xA ri.b i)=some (uc (off+i)):=fun q row hq=>by
  rcases u2 bs _ _ q row hq with h1 | ⟨p,off,n,cs,ri,e1,e2,e3,e4,e5,e6,e7⟩
  ·obtain ⟨t,l,h3,h4,h5⟩:=UC _ _ _ _ _ _ h1
   refine .inl ⟨q - base,t,l,by omega,by omega,h3,?_⟩
   rw [T.new (q - base) (by omega) (by omega), ← zP ow base M R0 0 (q - base),show base+(q - base)=q by omega]
   exact h1
  ·refine .inr ⟨p,off,n,cs,ri,e1,e2,e3,T.lies _ _ (xP ow _ _ _ _ p cs aX e4),e5,e6,?_,e7⟩
   rcases Nat.lt_or_ge p st.nx with h | h
   ·exact h
   ·rw [hf p h] at e5;cases e5
 have rW:∀ b,mA outer ρf (jD ks as bs ow base shape R0) b→mA outer ρ2 g2 b:=by
  rintro b (hb | ⟨q,row,ri,f1,f2,f3,f4,f5⟩)
  ·exact .inl hb
  ·rcases LV q row f1 with ⟨p,t,l,h1,rfl,h3,h4⟩ | ⟨p,off,n,cs,ri',e1,e2,e3,e4,e5,e6,e7,e8⟩
   ·rw [(lZ p h1).1] at f3
    exact .inr ⟨_,row,ri,h4,f2,f3,f4,f5⟩
   ·rw [(D1 p q e1).1] at f3
    exact .inr ⟨p,_,ri,e4,rfl,T.ext _ _ f3,f4,f5⟩
 have hX:∀ j (hj:j<(JA ow base 0 R0).length),VR w ρf (mA outer ρf (jD ks as bs ow base shape R0)) (u j) (JA ow base 0 R0)[j]:=
  AP (w:=w) (ρ:=ρ2) (ρ2:=ρf) (bad:=mA outer ρ2 g2) (bad2:=mA outer ρf (jD ks as bs ow base shape R0)) ow M base R0 0 u (fun q _ hq _ _=>(lZ q (by omega)).1) (fun j hj=>(T.closed j hj).1) rW T.vals
 refine ⟨_,k4,ρf,?_,?_,fun q b hq=>(D1 q b hq).1,fun q hq=>?_⟩
 ·refine T.heap.sub φ T.heap.wx T.heap.old T.heap.outLt (fun q row hq=>?_) (fun q q' row row' h1 h2 h3=>?_)
  ·rcases LV q row hq with ⟨p,t,l,h1,rfl,rfl,h4⟩ | ⟨p,off,n,cs,ri,e1,e2,e3,e4,e5,e6,e7,e8⟩
   ·obtain ⟨ri,f1,f2,f3⟩:=T.heap.rows _ _ h4
    exact ⟨_,ri,by rw [(lZ p h1).2];exact h4,by rw [(lZ p h1).1];exact f1,by rw [(lZ p h1).2];exact f1,yS f2 rW ρf,fun hn=>(f3 hn).1⟩
   ·obtain ⟨ri',f1,f2,f3⟩:=T.heap.rows _ _ e4
    rw [T.ext _ _ e5] at f1;cases f1
    refine ⟨_,ri,by rw [(D1 p q e1).2];exact e4,by rw [(D1 p q e1).1];exact e5,by rw [(D1 p q e1).2];exact T.ext _ _ e5,?_,fun hn=>⟨(f3 hn).1.1,fun _=>(f3 hn).1.2 rfl⟩⟩
    rw [e2]
    refine ⟨e6,fun i hi=>?_⟩
    have VW:i<n∧vs.length+off+i<(JA ow base 0 R0).length:=by
     simp only [List.length_take,List.length_drop] at hi
     omega
    obtain ⟨g3,g4⟩:=e8 i VW.1
    refine ⟨g3,_,g4,?_⟩
    have h5:=hX (vs.length+(off+i)) (by omega)
    simp only [u] at h5
    rw [if_neg (by omega),show vs.length+(off+i) - vs.length=off+i by omega] at h5
    simp only [List.getElem_take,List.getElem_drop,hsh]
    exact h5
  ·rcases LV q row h1 with ⟨p,t,l,f1,rfl,f3,f4⟩ | ⟨p,off,n,cs,ri,e1,e2,e3,e4,e5,e6,e7,e8⟩ <;>
   rcases LV q' row' h2 with ⟨p',t',l',f1',rfl,f3',f4'⟩ | ⟨p',off',n',cs',ri',e1',e2',e3',e4',e5',e6',e7',e8'⟩
   ·rw [(lZ p f1).2,(lZ p' f1').2] at h3;omega
   ·rw [(lZ p f1).2,(D1 p' q' e1').2] at h3;omega
   ·rw [(D1 p q e1).2,(lZ p' f1').2] at h3;omega
   ·rw [(D1 p q e1).2,(D1 p' q' e1').2] at h3;subst h3
    rw [e1] at e1';exact Option.some.inj e1'
 ·refine zr5 k1 (by rw [ND];omega) fun j hj eX=>?_
  have h5:=hX j hj
  simp only [u] at h5
  rw [if_pos (by omega)] at h5;exact h5
 ·by_cases h1:base≤q∧q<base+128
  ·exact .inl h1
  ·by_cases h2:∃ p,fB ks 0 bs p=some q
   ·obtain ⟨p,h2⟩:=h2
    exact .inr (AD _ _ _ _ _ h2).2.2
   ·simp only [ρf,if_neg h1,dif_neg h2] at hq;exact absurd rfl hq
theorem zpM (hC : yD C) (hΦ : RD C) {f : Nat} {fn : Func} {body : Code} (hf : C.P.funcs[f]? = some fn) (hb : fn.body = some body) (ZW : (fn.name == "runtime.NumGoroutine") = false)
  (hnt:C.nt=fn.ntmps) (an:An) (ks:List ZA) (ow:List Nat) (shape:List (Bool × Nat)) (ats rts:List Ty) (F:lA ats→Option (lA rts))
  (QY:HB ks ats=true) (b5:Nat.ble ks.length fn.ntmps=true)
  (hev:∀ x r,rA ats x→F x=some r→iN C fn body an ks ow shape rts (WA ats x)=some r):
  eA C.P f ⟨ks,lA ats,lA rts,jC ats,F,KC rts,shape,ow,false⟩ C.g:=by
 intro w args as outer ownw ρ x r base bs eW GZ hh BY dX o5 hbo G0 hF hrl hgl
 simp only at eW GZ hh BY dX G0 hF hrl
 have b5:=Nat.le_of_ble_eq_true b5
 refine .inl ⟨?_,calls_of_wp hf hb ?_⟩
 ·have sY : ¬ fn.name = "runtime.NumGoroutine" := by simpa using ZW
  simp [callFunc,program,hf,hb,sY,Sem.run]
 obtain ⟨pb1,pb2⟩:=zse ks ats as x 0 QY G0
 obtain ⟨ρ2,H1,H2,H3,H4,H5⟩:=zeB QY G0 hh dX
 obtain ⟨e1,e2⟩:=zey (w:=w) (ρ:=ρ) H2 ks ats as x 0 (fun j=>args.getD j undef) QY G0 (fun q t h1 h2=>H5 q _ h1 h2) BY
 have hex:∀ base rs,jD ks (WA ats x) bs ow base shape rs=jD ks as bs ow base shape rs:=fun base rs=>by simp only [jD,pb1]
 have n0:RA C w outer ownw ρ2 { s:=fun i=>match (rB ks 0 (WA ats x)).drop i with | v :: _=>v | []=> .undef,h:=yA ks 0 (WA ats x),nx:=128 *ks.length }
   { tmps:=args++Array.replicate (fn.ntmps - args.size) undef,defers:=[] } w:=by
  refine ⟨H1,fun i=>?_,by simp;omega,rfl,hgl⟩
  show VR w ρ2 _ _ (match (rB ks 0 (WA ats x)).drop i with | v :: _=>v | []=> .undef)
  by_cases hi:i<(rB ks 0 (WA ats x)).length
  ·rw [List.drop_eq_getElem_cons hi]
   have h3:=e2 i hi
   have hia:i<args.size:=by omega
   rw [Array.getD_eq_getD_getElem?] at h3 ⊢
   rw [Array.getElem?_append_left hia];exact h3
  ·rw [List.drop_eq_nil_of_le (by omega)];exact .undef _
 refine zfV hC hΦ an body (fun _=>True) (zg5 an body) _ _ w ρ2 _ r _ n0 (fun q hq=>H4 q hq) (hev x r (tV ats x (zeA H1 ks ats x 0 (fun j=>args.getD j undef) QY (fun _ _ h=>h) fun j hj=>e2 j hj)) hF) fun e st' a' w' ρ' hg hk=>?_
 have key:(match vF C.P st' fn.results.toList shape,bE st' ks (WA ats x) 0 with
   | some vs,some us=>match AC ow 0 (vs++us) st'.h with
    | some (rs,_)=>xG rts rs
    | none=>none
   | _,_=>none)=some r→a'.defers=[]∧∃ v,(results fn a'.tmps).run C.P w'= .ok v w'∧∃ v',Ending.returned v= .returned v'∧∃ ρf,aB w outer ownw ρf (jD ks as bs ow base shape (KC rts r)) w'∧
   VR w' ρf (mA outer ρf (jD ks as bs ow base shape (KC rts r))) v' (RF shape (JA ow base 0 (KC rts r)))∧
   (∀ q b,fB ks 0 bs q=some b→ρf b=ρ q)∧(∀ r,ρf r≠none→(base≤r∧r<base+128)∨r ∈ bs):=by
  intro hk
  split at hk
  case h_2=>cases hk
  rename_i vs us WX d8
  split at hk
  case h_2=>cases hk
  rename_i rs h2 aX
  obtain ⟨v,h3,ρf,h4,h5,h6,h7⟩:=zpY (bs:=bs) (base:=base) hg.rel hg.fresh WX d8 aX hk hrl o5 hbo
  rw [hex] at h4 h5
  refine ⟨hg.rel.defers,v,h3,v,rfl,ρf,h4,h5,fun q b hq=>?_,h7⟩
  rw [h6 q b hq]
  obtain ⟨row,LV⟩:=pb2 bs q b hq
  obtain ⟨ri,h8,_⟩:=hh.rows _ _ LV
  rw [hg.ext _ _ (H3 _ _ h8),h8]
 cases e with
 | exit id=>cases hk
 | normal=>exact key hk
 | ret=>exact key hk
noncomputable def YQ (C:Cx) (fn:Func) (body:Code) (an:An) (ks:List ZA) (ts:List Ty) (as:List V):Option (lA ts):=
 bD C an body { s:=fun i=>match (rB ks 0 as).drop i with | v :: _=>v | []=> .undef,h:=yA ks 0 as,nx:=128 *ks.length } fun e st=>
  match e with
  | .exit _=>none
  | _=>match fn.results.toList with
   | [.tmp t]=>match st.s t with
    | .bp b 0=>match st.h b with
     | some ⟨.box cs, .own⟩=>bif cs.all (iE 8) then xG ts cs else none
     | _=>none
    | _=>none
   | _=>none
theorem zpZ {fn:Func} {ks:List ZA} {as:List V} {bs:List Nat} {base t b:Nat} {rts:List Ty} {cs:List V} {r:lA rts}
  (hr:RA C w0 outer own ρ st a w) (WX:fn.results.toList=[.tmp t]) (hs:st.s t= .bp b 0) (LV:st.h b=some ⟨.box cs, .own⟩) (ZX:cs.all (iE 8)=true) (hun:xG rts cs=some r):
  ∃ v,(results fn a.tmps).run C.P w= .ok v w∧∃ ρf,aB w0 outer own ρf (uA (fun _=>none) base (some ⟨.box (KC rts r), .own⟩)) w∧
   VR w ρf (mA outer ρf (uA (fun _=>none) base (some ⟨.box (KC rts r), .own⟩))) v (.bp base 0)∧(∀ q,ρf q≠none→q=base):=by
 have hv:=hr.slots t
 rw [hs] at hv
 obtain ⟨ri,hρ,dW,g7⟩:=hr.heap.rows _ _ LV
 have JW:=zcg rts cs r hun
 generalize KC rts r=es at JW
 generalize hA:a.tmps.getD t undef=A at hv
 cases hv with
 | bp _ _ ri' h1 h2=>
 rw [hρ] at h1;cases h1
 let ρf:Nat→Option RI:=fun q=>if q=base then some ri else none
 have rW:∀ c,mA outer ρf (uA (fun _=>none) base (some ⟨.box es, .own⟩)) c→mA outer ρ st.h c:=by
  rintro c (hb | ⟨q,row,ri',f1,f2,f3,f4,f5⟩)
  ·exact .inl hb
  ·by_cases hq:q=base
   ·subst hq
    simp only [ρf,if_true,Option.some.injEq] at f3
    subst f3
    exact .inr ⟨b,_,ri,LV,rfl,hρ,f4,f5⟩
   ·rw [vA _ _ _ _ hq] at f1;cases f1
 refine ⟨.pointer (some (xA ri.b 0)),?_,ρf,?_, .bp _ _ ri (by simp [ρf]) h2,fun q hq=>?_⟩
 ·have:=zbn (P:=C.P) (w:=w) (MH a.tmps) fn.results.toList [.pointer (some (xA ri.b 0))] (by rw [WX];rfl) (fun i hi lX=>by
   simp only [WX] at hi ⊢
   have:i=0:=by simp at hi;omega
   subst this
   simp only [List.getElem_cons_zero,MH,hA];rfl)
  show ((do let vs ← fn.results.mapM (MH a.tmps);pure (if h:vs.size=1 then vs[0] else .tuple vs)):Sem Value).run C.P w=_
  rw [Array.mapM_eq_mapM_toList]
  simp only [Sem.run_bind,Sem.run_map,this,Result.andThen_ok,Sem.run_pure]
  rfl
 ·refine hr.heap.sub (fun _=>b) hr.heap.wx hr.heap.old hr.heap.outLt (fun q row hq=>?_) (fun q q' row row' g1 g2 _=>?_)
  ·by_cases t5:q=base
   ·subst t5
    rw [IA] at hq;cases hq
    refine ⟨_,ri,LV,by simp [ρf],hρ,⟨h2,fun j hj=>?_⟩,fun hn=>⟨(g7 hn).1.1,fun _=>(g7 hn).1.2 rfl⟩⟩
    have eX:j<cs.length:=by rw [JW.len];exact hj
    obtain ⟨e1,u,e2,e3⟩:=dW.2 j eX
    refine ⟨e1,u,e2,VR.sub (JW.get j eX hj) ?_⟩
    have hn:=(jS 8 _ (List.all_eq_true.1 ZX _ (List.getElem_mem eX))).1
    exact (e3.noRef hn ρf).mono (fun _ _ h=>h) (fun _ _ _=>rfl) fun c hc=> .inl (rW c hc)
   ·rw [vA _ _ _ _ t5] at hq;cases hq
  ·have k1:q=base:=by
    rcases Nat.decEq q base with h | h
    ·rw [vA _ _ _ _ h] at g1;cases g1
    ·exact h
   have k2:q'=base:=by
    rcases Nat.decEq q' base with h | h
    ·rw [vA _ _ _ _ h] at g2;cases g2
    ·exact h
   rw [k1,k2]
 ·by_cases h:q=base
  ·exact h
  ·simp only [ρf,if_neg h] at hq;exact absurd rfl hq
omit [fA] in
theorem zcQ:∀ (n k:Nat) (bs:List Nat) (q:Nat),fB (List.replicate n .plain) k bs q=none
 | 0,k,bs,q=>by simp [fB]
 | n+1,k,bs,q=>by simp only [List.replicate_succ,fB];exact zcQ n (k+1) bs q
theorem zpN (hC : yD C) (hΦ : RD C) {f : Nat} {fn : Func} {body : Code} (hf : C.P.funcs[f]? = some fn) (hb : fn.body = some body) (ZW : (fn.name == "runtime.NumGoroutine") = false)
  (hnt:C.nt=fn.ntmps) (an:An) (n:Nat) (shape:List (Bool × Nat)) (ats rts:List Ty) (F:lA ats→Option (lA rts))
  (QY:HB (List.replicate n .plain) ats=true) (b5:Nat.ble n fn.ntmps=true)
  (hev:∀ x r,rA ats x→F x=some r→YQ C fn body an (List.replicate n ZA.plain) rts (WA ats x)=some r):
  eA C.P f ⟨List.replicate n .plain,lA ats,lA rts,jC ats,F,KC rts,shape,[],true⟩ C.g:=by
 generalize L9:List.replicate n ZA.plain=ks at QY hev ⊢
 have hkn:ks.length=n:=by rw [← L9];simp
 intro w args as outer ownw ρ x r base bs eW GZ hh BY dX o5 hbo G0 hF hrl hgl
 simp only at eW GZ hh BY dX G0 hF hrl
 have b5:=Nat.le_of_ble_eq_true b5
 refine .inl ⟨?_,calls_of_wp hf hb ?_⟩
 ·have sY : ¬ fn.name = "runtime.NumGoroutine" := by simpa using ZW
  simp [callFunc,program,hf,hb,sY,Sem.run]
 obtain ⟨ρ2,H1,H2,H3,H4,H5⟩:=zeB QY G0 hh dX
 obtain ⟨e1,e2⟩:=zey (w:=w) (ρ:=ρ) H2 ks ats as x 0 (fun j=>args.getD j undef) QY G0 (fun q t h1 h2=>H5 q _ h1 h2) BY
 have n0:RA C w outer ownw ρ2 { s:=fun i=>match (rB ks 0 (WA ats x)).drop i with | v :: _=>v | []=> .undef,h:=yA ks 0 (WA ats x),nx:=128 *ks.length }
   { tmps:=args++Array.replicate (fn.ntmps - args.size) undef,defers:=[] } w:=by
  refine ⟨H1,fun i=>?_,by simp;omega,rfl,hgl⟩
  show VR w ρ2 _ _ (match (rB ks 0 (WA ats x)).drop i with | v :: _=>v | []=> .undef)
  by_cases hi:i<(rB ks 0 (WA ats x)).length
  ·rw [List.drop_eq_getElem_cons hi]
   have h3:=e2 i hi
   have hia:i<args.size:=by omega
   rw [Array.getD_eq_getD_getElem?] at h3 ⊢
   rw [Array.getElem?_append_left hia];exact h3
  ·rw [List.drop_eq_nil_of_le (by omega)];exact .undef _
 refine zfV hC hΦ an body (fun _=>True) (zg5 an body) _ _ w ρ2 _ r _ n0 (fun q hq=>H4 q hq) (hev x r (tV ats x (zeA H1 ks ats x 0 (fun j=>args.getD j undef) QY (fun _ _ h=>h) fun j hj=>e2 j hj)) hF) fun e st' a' w' ρ' hg hk=>?_
 have key:(match fn.results.toList with
   | [.tmp t]=>match st'.s t with
    | .bp b 0=>match st'.h b with
     | some ⟨.box cs, .own⟩=>bif cs.all (iE 8) then xG rts cs else none
     | _=>none
    | _=>none
   | _=>none)=some r→a'.defers=[]∧∃ v,(results fn a'.tmps).run C.P w'= .ok v w'∧∃ v',Ending.returned v= .returned v'∧∃ ρf,aB w outer ownw ρf (uA (fun _=>none) base (some ⟨.box (KC rts r), .own⟩)) w'∧
   VR w' ρf (mA outer ρf (uA (fun _=>none) base (some ⟨.box (KC rts r), .own⟩))) v' (.bp base 0)∧
   (∀ q b,fB ks 0 bs q=some b→ρf b=ρ q)∧(∀ r,ρf r≠none→(base≤r∧r<base+128)∨r ∈ bs):=by
  intro hk
  split at hk
  case h_2=>cases hk
  rename_i t WX
  split at hk
  case h_2=>cases hk
  rename_i b hs
  split at hk
  case h_2=>cases hk
  rename_i cs LV
  cases ZX:cs.all (iE 8)
  case false=>simp [ZX] at hk
  simp only [ZX,cond_true] at hk
  obtain ⟨v,h3,ρf,h4,h5,h6⟩:=zpZ (ks:=ks) (as:=as) (bs:=bs) (base:=base) hg.rel WX hs LV ZX hk
  refine ⟨hg.rel.defers,v,h3,v,rfl,ρf,h4,h5,fun q b hq=>?_,fun q hq=>?_⟩
  ·rw [← L9,zcQ] at hq;cases hq
  ·rw [h6 q hq];exact .inl ⟨Nat.le_refl _,by omega⟩
 cases e with
 | exit id=>cases hk
 | normal=>exact key hk
 | ret=>exact key hk
end
end Go.D
namespace Go.D
inductive LK where
 | i | by | b | s
 | l (t:TN)
 deriving DecidableEq
def lk:TN→List LK
 | .byte=>[.by] | .int=>[.i] | .bool=>[.b] | .str=>[.s] | .bs=>[.l .byte]
 | .Addr=>[.i, .i]
 | .Op=>[.i, .i, .i, .l .byte]
 | .Event=>[.i, .i, .i, .i, .l .byte, .l .Op]
 | .Jar=>[.l .byte]
 | .Dice=>[.l .byte, .i]
 | .Win=>[.i, .l .int]
 | .Ep=>[.i, .l .byte, .i, .i, .l .int]
 | .Chan=>[.i, .l .byte, .i, .l .byte, .i, .i, .l .int, .i, .l .byte, .i, .i, .l .int, .b, .i, .l .byte]
 | .Cand=>[.i, .i, .l .byte, .i]
 | .Paths=>[.i, .i, .l .Cand]
 | .Sess=>[.i, .l .byte, .l .byte, .i, .l .byte, .i, .l .byte, .i, .i, .l .int, .i, .l .byte, .i, .i, .l .int, .b, .i, .l .byte, .i, .i, .l .Cand, .i, .i, .b]
 | .Tab=>[.i, .l .Sess]
 | .Credit=>[.i, .i, .i, .i]
 | .Server=>[.l .bs, .l .byte, .l .byte, .i, .i, .l .Sess, .l .Credit]
 | .Frame=>[.i, .i, .l .byte, .l .byte, .i, .l .byte, .l .byte, .i, .i, .l .byte, .l .byte]
 | .Timer=>[.b, .i, .i, .i]
 | .Client=>[.i, .l .byte, .i, .i, .i, .l .byte, .i, .i, .l .byte, .l .byte, .i, .l .byte, .l .byte, .i, .i, .l .byte, .l .byte, .i, .l .byte, .i, .l .byte, .i, .i, .l .int, .i, .l .byte, .i, .i, .l .int, .b, .i, .l .byte, .b, .i, .i, .i, .b, .i, .i, .i, .i]
 | .Wire=>[.i, .i, .i, .i, .l .byte]
 | .Note=>[.i, .i, .i, .l .byte, .l .byte, .i, .i, .l .byte, .l .byte, .i, .i, .i]
 | .World=>[.i, .l .Client, .l .bs, .l .byte, .l .byte, .i, .i, .l .Sess, .l .Credit, .l .byte, .i, .l .Wire, .l .bs, .l .Note]
 | .Cur=>[.l .byte, .i, .i]
 | .Out=>[.i, .i, .i, .i, .l .byte, .l .byte, .i, .l .byte, .l .byte, .i, .i, .l .byte, .l .byte]
 | .Form=>[.i, .s]
 | .Hash=>[.l .int, .l .byte, .i]
def Mat:LK→V→Prop
 | .i,v=>∃ n,CA v=some n
 | .by,v=>∃ n,jK v=some n
 | .b,v=>∃ n,fF v=some n
 | .s,v=>∃ n,YI v=some n
 | .l t,v=>∃ n,NA t v=some n
inductive wB:List LK→List V→Prop
 | nil:wB [] []
 | cons {k:LK} {v:V} {ks:List LK} {vs:List V} (h:Mat k v) (r:wB ks vs):wB (k :: ks) (v :: vs)
theorem wB.app {a b:List LK} {x y:List V} (h:wB a x) (k:wB b y):wB (a++b) (x++y):=by
 induction h with
 | nil=>exact k
 | cons h _ ih=>exact .cons h ih
theorem wB.len {a:List LK} {x:List V} (h:wB a x):a.length=x.length:=by
 induction h with
 | nil=>rfl
 | cons h _ ih=>simp [ih]
theorem wB.take {k:LK} {ks:List LK} {x:List V} (h:wB (k :: ks) x):∃ v r,x=v :: r∧Mat k v∧wB ks r:=by
 cases h with | cons h r=>exact ⟨_,_,rfl,h,r⟩
theorem BP {α β:Type} {p:V→Option α} {v:V} {a:α} (h:p v=some a) (cs:List V) (k:α→List V→Option β):tk p (v :: cs) k=k a cs:=by simp [tk,h]
theorem uC {β:Type} (r:β) {x:List V} (h:wB [] x):∃ y,gB x r=some y:=by cases h;exact ⟨r,rfl⟩
theorem FA {β:Type} {ks:List LK} {K:Int→List V→Option β} {x:List V} (h:wB (.i :: ks) x) (hk:∀ a r,wB ks r→∃ y,K a r=some y):∃ y,tk CA x K=some y:=by
 cases h with | cons h r=>obtain ⟨a,h⟩:=h;rw [BP h];exact hk _ _ r
theorem PI {β:Type} {ks:List LK} {K:Bool→List V→Option β} {x:List V} (h:wB (.b :: ks) x) (hk:∀ a r,wB ks r→∃ y,K a r=some y):∃ y,tk fF x K=some y:=by
 cases h with | cons h r=>obtain ⟨a,h⟩:=h;rw [BP h];exact hk _ _ r
theorem zg4 {β:Type} {ks:List LK} {K:List UInt8→List V→Option β} {x:List V} (h:wB (.s :: ks) x) (hk:∀ a r,wB ks r→∃ y,K a r=some y):∃ y,tk YI x K=some y:=by
 cases h with | cons h r=>obtain ⟨a,h⟩:=h;rw [BP h];exact hk _ _ r
theorem VA {β:Type} {t:TN} {ks:List LK} {K:List (El t)→List V→Option β} {x:List V} (h:wB (.l t :: ks) x) (hk:∀ a r,wB ks r→∃ y,K a r=some y):∃ y,tk (NA t) x K=some y:=by
 cases h with | cons h r=>obtain ⟨a,h⟩:=h;rw [BP h];exact hk _ _ r
theorem zuQ {x:List V} (h:wB (lk .Addr) x):∃ y,qQ x=some y:=FA h fun _ _ h=>FA h fun _ _ h=>uC _ h
theorem zu4 {x:List V} (h:wB (lk .Op) x):∃ y,EQ x=some y:=FA h fun _ _ h=>FA h fun _ _ h=>FA h fun _ _ h=>VA h fun _ _ h=>uC _ h
theorem zuY {x:List V} (h:wB (lk .Event) x):∃ y,yQ x=some y:=FA h fun _ _ h=>FA h fun _ _ h=>FA h fun _ _ h=>FA h fun _ _ h=>VA h fun _ _ h=>VA h fun _ _ h=>uC _ h
theorem zu2 {x:List V} (h:wB (lk .Jar) x):∃ y,CQ x=some y:=VA h fun _ _ h=>uC _ h
theorem zuW {x:List V} (h:wB (lk .Dice) x):∃ y,wQ x=some y:=VA h fun _ _ h=>FA h fun _ _ h=>uC _ h
theorem zvb {x:List V} (h:wB (lk .Win) x):∃ y,LQ x=some y:=FA h fun _ _ h=>VA h fun _ _ h=>uC _ h
theorem zuX {x:List V} (h:wB (lk .Ep) x):∃ y,xQ x=some y:=FA h fun _ _ h=>VA h fun _ _ h=>FA h fun _ _ h=>FA h fun _ _ h=>VA h fun _ _ h=>uC _ h
theorem zuS {x:List V} (h:wB (lk .Chan) x):∃ y,sQ x=some y:=FA h fun _ _ h=>VA h fun _ _ h=>FA h fun _ _ h=>VA h fun _ _ h=>FA h fun _ _ h=>FA h fun _ _ h=>VA h fun _ _ h=>FA h fun _ _ h=>VA h fun _ _ h=>FA h fun _ _ h=>FA h fun _ _ h=>VA h fun _ _ h=>PI h fun _ _ h=>FA h fun _ _ h=>VA h fun _ _ h=>uC _ h
theorem zuR {x:List V} (h:wB (lk .Cand) x):∃ y,rQ x=some y:=FA h fun _ _ h=>FA h fun _ _ h=>VA h fun _ _ h=>FA h fun _ _ h=>uC _ h
theorem zu6 {x:List V} (h:wB (lk .Paths) x):∃ y,GQ x=some y:=FA h fun _ _ h=>FA h fun _ _ h=>VA h fun _ _ h=>uC _ h
theorem zu8 {x:List V} (h:wB (lk .Sess) x):∃ y,IQ x=some y:=FA h fun _ _ h=>VA h fun _ _ h=>VA h fun _ _ h=>FA h fun _ _ h=>VA h fun _ _ h=>FA h fun _ _ h=>VA h fun _ _ h=>FA h fun _ _ h=>FA h fun _ _ h=>VA h fun _ _ h=>FA h fun _ _ h=>VA h fun _ _ h=>FA h fun _ _ h=>FA h fun _ _ h=>VA h fun _ _ h=>PI h fun _ _ h=>FA h fun _ _ h=>VA h fun _ _ h=>FA h fun _ _ h=>FA h fun _ _ h=>VA h fun _ _ h=>FA h fun _ _ h=>FA h fun _ _ h=>PI h fun _ _ h=>uC _ h
theorem zu9 {x:List V} (h:wB (lk .Tab) x):∃ y,JQ x=some y:=FA h fun _ _ h=>VA h fun _ _ h=>uC _ h
theorem zuU {x:List V} (h:wB (lk .Credit) x):∃ y,uQ x=some y:=FA h fun _ _ h=>FA h fun _ _ h=>FA h fun _ _ h=>FA h fun _ _ h=>uC _ h
theorem zu7 {x:List V} (h:wB (lk .Server) x):∃ y,HQ x=some y:=VA h fun _ _ h=>VA h fun _ _ h=>VA h fun _ _ h=>FA h fun _ _ h=>FA h fun _ _ h=>VA h fun _ _ h=>VA h fun _ _ h=>uC _ h
theorem zu0 {x:List V} (h:wB (lk .Frame) x):∃ y,AQ x=some y:=FA h fun _ _ h=>FA h fun _ _ h=>VA h fun _ _ h=>VA h fun _ _ h=>FA h fun _ _ h=>VA h fun _ _ h=>VA h fun _ _ h=>FA h fun _ _ h=>FA h fun _ _ h=>VA h fun _ _ h=>VA h fun _ _ h=>uC _ h
theorem zva {x:List V} (h:wB (lk .Timer) x):∃ y,KQ x=some y:=PI h fun _ _ h=>FA h fun _ _ h=>FA h fun _ _ h=>FA h fun _ _ h=>uC _ h
theorem zuT {x:List V} (h:wB (lk .Client) x):∃ y,tQ x=some y:=FA h fun _ _ h=>VA h fun _ _ h=>FA h fun _ _ h=>FA h fun _ _ h=>FA h fun _ _ h=>VA h fun _ _ h=>FA h fun _ _ h=>FA h fun _ _ h=>VA h fun _ _ h=>VA h fun _ _ h=>FA h fun _ _ h=>VA h fun _ _ h=>VA h fun _ _ h=>FA h fun _ _ h=>FA h fun _ _ h=>VA h fun _ _ h=>VA h fun _ _ h=>FA h fun _ _ h=>VA h fun _ _ h=>FA h fun _ _ h=>VA h fun _ _ h=>FA h fun _ _ h=>FA h fun _ _ h=>VA h fun _ _ h=>FA h fun _ _ h=>VA h fun _ _ h=>FA h fun _ _ h=>FA h fun _ _ h=>VA h fun _ _ h=>PI h fun _ _ h=>FA h fun _ _ h=>VA h fun _ _ h=>PI h fun _ _ h=>FA h fun _ _ h=>FA h fun _ _ h=>FA h fun _ _ h=>PI h fun _ _ h=>FA h fun _ _ h=>FA h fun _ _ h=>FA h fun _ _ h=>FA h fun _ _ h=>uC _ h
theorem zvc {x:List V} (h:wB (lk .Wire) x):∃ y,MQ x=some y:=FA h fun _ _ h=>FA h fun _ _ h=>FA h fun _ _ h=>FA h fun _ _ h=>VA h fun _ _ h=>uC _ h
theorem zu3 {x:List V} (h:wB (lk .Note) x):∃ y,DQ x=some y:=FA h fun _ _ h=>FA h fun _ _ h=>FA h fun _ _ h=>VA h fun _ _ h=>VA h fun _ _ h=>FA h fun _ _ h=>FA h fun _ _ h=>VA h fun _ _ h=>VA h fun _ _ h=>FA h fun _ _ h=>FA h fun _ _ h=>FA h fun _ _ h=>uC _ h
theorem zvd {x:List V} (h:wB (lk .World) x):∃ y,NQ x=some y:=FA h fun _ _ h=>VA h fun _ _ h=>VA h fun _ _ h=>VA h fun _ _ h=>VA h fun _ _ h=>FA h fun _ _ h=>FA h fun _ _ h=>VA h fun _ _ h=>VA h fun _ _ h=>VA h fun _ _ h=>FA h fun _ _ h=>VA h fun _ _ h=>VA h fun _ _ h=>VA h fun _ _ h=>uC _ h
theorem zuV {x:List V} (h:wB (lk .Cur) x):∃ y,vQ x=some y:=VA h fun _ _ h=>FA h fun _ _ h=>FA h fun _ _ h=>uC _ h
theorem zu5 {x:List V} (h:wB (lk .Out) x):∃ y,FQ x=some y:=FA h fun _ _ h=>FA h fun _ _ h=>FA h fun _ _ h=>FA h fun _ _ h=>VA h fun _ _ h=>VA h fun _ _ h=>FA h fun _ _ h=>VA h fun _ _ h=>VA h fun _ _ h=>FA h fun _ _ h=>FA h fun _ _ h=>VA h fun _ _ h=>VA h fun _ _ h=>uC _ h
theorem zuZ {x:List V} (h:wB (lk .Form) x):∃ y,zQ x=some y:=FA h fun _ _ h=>zg4 h fun _ _ h=>uC _ h
theorem zu1 {x:List V} (h:wB (lk .Hash) x):∃ y,BQ x=some y:=VA h fun _ _ h=>VA h fun _ _ h=>FA h fun _ _ h=>uC _ h
theorem zel (t:TN) (x:List V) (h:wB (lk t) x):∃ y,iD t x=some y:=by
 cases t with
 | byte=>
  cases h with
  | cons h r=>
   obtain ⟨a,h⟩:=h
   cases r
   refine ⟨a,?_⟩
   simp only [iD]
   rw [BP h];rfl
 | int=>exact FA h fun _ _ h=>uC _ h
 | bool=>exact PI h fun _ _ h=>uC _ h
 | str=>exact zg4 h fun _ _ h=>uC _ h
 | bs=>exact VA h fun _ _ h=>uC _ h
 | Addr=>exact zuQ h
 | Op=>exact zu4 h
 | Event=>exact zuY h
 | Jar=>exact zu2 h
 | Dice=>exact zuW h
 | Win=>exact zvb h
 | Ep=>exact zuX h
 | Chan=>exact zuS h
 | Cand=>exact zuR h
 | Paths=>exact zu6 h
 | Sess=>exact zu8 h
 | Tab=>exact zu9 h
 | Credit=>exact zuU h
 | Server=>exact zu7 h
 | Frame=>exact zu0 h
 | Timer=>exact zva h
 | Client=>exact zuT h
 | Wire=>exact zvc h
 | Note=>exact zu3 h
 | World=>exact zvd h
 | Cur=>exact zuV h
 | Out=>exact zu5 h
 | Form=>exact zuZ h
 | Hash=>exact zu1 h
end Go.D
namespace Go.D
variable [fA]
open Go.RowKit Go.ChangeShapes
section
variable {H:Type} {encH:TypeId × Value→H} {P:Program} {W:World}
def kG:Nat→Option RI:=fun _=>none
def yE:Nat→Prop:=fun _=>False
def MF (P:Program) (tn:TypeId→Option TN):Nat→TypeId→Option (List LK)
 | 0,_=>none
 | d+1,t=>match P.underlying t with
  | some (.int .i64)=>some [.i]
  | some (.int .u8)=>some [.by]
  | some .bool=>some [.b]
  | some .string=>some [.s]
  | some (.slice e)=>(tn e).map fun t=>[.l t]
  | some (.struct fs)=>(kindsF (MF P tn d) P 0 fs.toList).bind fun ks=>bif Nat.beq (P.cellsOf t) ks.length then some ks else none
  | _=>none
where
 kindsF (f:TypeId→Option (List LK)) (P:Program):Nat→List Field→Option (List LK)
  | _,[]=>some []
  | k,x :: xs=>bif Nat.beq x.offset k then
    match f x.type with
    | some ks=>bif Nat.beq (P.cellsOf x.type) ks.length then (kindsF f P (k+ks.length) xs).map fun r=>ks++r else none
    | none=>none
   else none
structure WH (P:Program) (tn:TypeId→Option TN) (D:Nat):Prop where
 ok:∀ e t,tn e=some t→MF P tn D e=some (lk t)∧P.cellsOf e=sz t
def IE (W:World) (cs:List Value) (vs:List V):Prop:=cs.length=vs.length∧∀ j (hj:j<vs.length),VR W kG yE (cs.getD j undef) vs[j]
theorem IE.one {c:Value} {v:V} (h:VR W kG yE c v):IE W [c] [v]:=⟨rfl,fun j hj=>by
 have:j=0:=by simp at hj;omega
 subst this;exact h⟩
theorem IE.app {a b:List Value} {x y:List V} (h:IE W a x) (k:IE W b y):IE W (a++b) (x++y):=by
 refine ⟨by simp [h.1,k.1],fun j hj=>?_⟩
 by_cases FX:j<x.length
 ·rw [List.getElem_append_left FX,mR _ _ _ _ (by rw [h.1];exact FX)];exact h.2 j FX
 ·rw [List.getElem_append_right (by omega),nR _ _ _ _ (by rw [h.1];omega),h.1]
  exact k.2 _ (by simp at hj;omega)
omit [fA] in
theorem zp8 {k:IntKind} {n:Int} (h:(Lit.int k n).wf=true):VC k n:=by
 simp only [Lit.wf,Bool.and_eq_true,decide_eq_true_eq] at h
 exact h
omit [fA] in
theorem zbo {α β:Type} {f:α→Option β}:∀ {l:List α} {r:List β},l.mapM f=some r→r.length=l.length∧∀ i (hi:i<l.length) (hr:i<r.length),f l[i]=some r[i]
 | [],r,h=>by simp at h;subst h;exact ⟨rfl,fun i hi=>by simp at hi⟩
 | x :: l,r,h=>by
  rw [List.mapM_cons] at h
  cases hx:f x with
  | none=>rw [hx] at h;simp at h
  | some y=>
   rw [hx] at h
   cases hl:l.mapM f with
   | none=>rw [hl] at h;simp at h
   | some ys=>
    rw [hl] at h;simp at h;subst h
    obtain ⟨h1,h2⟩:=zbo hl
    refine ⟨by simp [h1],fun i hi hr=>?_⟩
    cases i with
    | zero=>exact hx
    | succ i=>exact h2 i (by simpa using hi) (by simpa using hr)
omit [fA] in
theorem zdP {α:Type} {p:Nat→α→Prop}:∀ (n:Nat),(∀ i,i<n→∃ x,p i x)→∃ l:List α,l.length=n∧∀ i (hi:i<l.length),p i l[i]
 | 0,_=>⟨[],rfl,fun i hi=>by simp at hi⟩
 | n+1,h=>by
  obtain ⟨l,h1,h2⟩:=zdP n (fun i hi=>h i (by omega))
  obtain ⟨x,hx⟩:=h n (by omega)
  refine ⟨l++[x],by simp [h1],fun i hi=>?_⟩
  by_cases cZ:i<l.length
  ·rw [List.getElem_append_left cZ];exact h2 i cZ
  ·have:i=n:=by simp at hi;omega
   subst this
   rw [List.getElem_append_right (by omega)]
   simpa [h1] using hx
omit [fA] in
theorem zat {a:Addr} {n:Nat} {cs:List Value} (h:W.cells? 0 a n=some cs):cs.length=n∧∀ i (_:i<n),W.cell? (a.add i)=some (cs.getD i undef):=by
 simp only [World.cells?,Nat.zero_le,if_true] at h
 obtain ⟨h1,h2⟩:=zbo h
 simp at h1
 refine ⟨h1,fun i hi=>?_⟩
 have:=h2 i (by simpa using hi) (by omega)
 simp only [List.getElem_range] at this
 rw [this,List.getD_eq_getElem?_getD,List.getElem?_eq_getElem (by omega)];rfl
variable (hB:W.heap.size≤fA.base) in
include hB in
theorem aV {tn:TypeId→Option TN} {D:Nat} (hK:WH P tn D) {sp:Nat→Bool} {GY:Bool}:∀ (fuel:Nat) (T:TypeId) (cs:List Value) (x:DataW H × List MemPlace) (d:Nat) (ks:List LK),
  DataW.trod encH P W 0 sp GY fuel T cs=some x→MF P tn d T=some ks→∃ vs,IE W cs vs∧wB ks vs
 | 0,T,cs,x,d,ks,h,hk=>by simp [DataW.trod] at h
 | fuel+1,T,cs,x,0,ks,h,hk=>by simp [MF] at hk
 | fuel+1,T,cs,x,d+1,ks,h,hk=>by
  have slice:∀ e,P.underlying T=some (.slice e)→(tn e).map (fun t=>[LK.l t])=some ks→∃ vs,IE W cs vs∧wB ks vs:=fun e hu hk=>by
   obtain ⟨t,ht,hk⟩:=Option.map_eq_some_iff.1 hk
   subst hk
   obtain ⟨kk,eW⟩:=hK.ok e t ht
   cases cs with
   | nil=>simp [DataW.trod,hu] at h
   | cons v r=>
   cases r with
   | cons v2 r2=>cases v <;> simp [DataW.trod,hu] at h
   | nil=>
   have hv:∃ ao len cap,v= .slice ao len cap:=by cases v <;> first | exact ⟨_,_,_,rfl⟩ | simp [DataW.trod,hu] at h
   obtain ⟨ao,len,cap,rfl⟩:=hv
   cases ao with
   | none=>
    have hz:len=0∧cap=0:=by
     cases len <;> cases cap <;> simp [DataW.trod,hu] at h
     exact ⟨rfl,rfl⟩
    obtain ⟨rfl,rfl⟩:=hz
    exact ⟨[.nil],IE.one .nil, .cons ⟨[],rfl⟩ .nil⟩
   | some a=>
    simp only [DataW.trod,hu] at h
    split at h
    case isFalse=>cases h
    rename_i N5
    obtain ⟨_,QV,Q1⟩:=N5
    obtain ⟨elems,GZ,_⟩:=Option.bind_eq_some_iff.1 h
    rw [eW] at GZ
    obtain ⟨m1,m2⟩:=zbo GZ
    simp at m1
    have one:∀ i,i<len→∃ y:El t,∃ u:List Value,W.cells? 0 (a.add (i *sz t)) (sz t)=some u∧∀ j (_:j<sz t),VR W kG yE (u.getD j undef) ((enc t y).getD j .undef):=fun i hi=>by
     have h1:=m2 i (by simpa using hi) (by omega)
     simp only [List.getElem_range] at h1
     obtain ⟨u,h2,h3⟩:=Option.bind_eq_some_iff.1 h1
     obtain ⟨vs,h4,h5⟩:=aV hK fuel e u _ D (lk t) h3 kk
     obtain ⟨y,h6⟩:=zel t vs h5
     have h7:=CD t h6
     refine ⟨y,u,h2,fun j hj=>?_⟩
     have eX:j<(enc t y).length:=by rw [aC];exact hj
     have FX:j<vs.length:=by rw [h7.len];exact eX
     rw [List.getD_eq_getElem?_getD (l:=enc t y),List.getElem?_eq_getElem eX]
     exact VR.sub (h7.get j FX eX) (h4.2 j FX)
    obtain ⟨l,d5,D3⟩:=zdP (p:=fun i y=>∃ u:List Value,W.cells? 0 (a.add (i *sz t)) (sz t)=some u∧∀ j (_:j<sz t),VR W kG yE (u.getD j undef) ((enc t y).getD j .undef)) len one
    refine ⟨[.sl t l],IE.one ?_, .cons ⟨l,by simp [NA,TN.cast]⟩ .nil⟩
    cases l with
    | nil=>
     simp at d5;subst d5
     exact .slE t _ cap Q1
    | cons y0 l0=>
    -- there is a cell:the address is a plain one
    obtain ⟨u0,I1,_⟩:=D3 0 (by simp)
    have K5:=(zat I1).2 0 (VJ t)
    have A5:a.spot=none:=by
     simp only [World.cell?] at K5
     split at K5
     ·simp only [Addr.add,Nat.zero_mul,if_true] at K5
      cases hs:a.spot with
      | none=>rfl
      | some _=>rw [hs] at K5;simp at K5
     ·cases K5
    obtain ⟨b,off,spot⟩:=a
    simp only at A5;subst A5
    subst d5
    refine .slC t _ b off cap (fun i j=>(W.cell? (xA b (off+i *sz t+j))).getD undef) (fun h=>h) QV Q1 (fun _=> .inl (Nat.lt_of_lt_of_le (YM (show W.cell? (xA b (off+0 *sz t+0))=_ by
     have h:=K5;rw [show (⟨b,off,none⟩:Addr)=xA b off from rfl,aE,aE] at h;exact h)) hB)) (fun i hi j hj=>?_) (fun i hi j hj=>?_)
    ·obtain ⟨u,h1,_⟩:=D3 i hi
     have:=(zat h1).2 j hj
     have e:((⟨b,off,none⟩:Addr).add (i *sz t)).add j=xA b (off+i *sz t+j):=by
      show ((xA b off).add (i *sz t)).add j=_
      rw [aE,aE]
     rw [e] at this
     rw [this];rfl
    ·obtain ⟨u,h1,h2⟩:=D3 i hi
     have:=(zat h1).2 j hj
     have e:((⟨b,off,none⟩:Addr).add (i *sz t)).add j=xA b (off+i *sz t+j):=by
      show ((xA b off).add (i *sz t)).add j=_
      rw [aE,aE]
     rw [e] at this
     rw [this];exact h2 j hj
  simp only [MF] at hk
  cases hu:P.underlying T with
  | none=>rw [hu] at hk;cases hk
  | some td=>
   rw [hu] at hk
   cases td with
   | int k=>
    cases cs with
    | nil=>simp [DataW.trod,hu] at h
    | cons v r=>
    cases r with
    | cons v2 r2=>cases v <;> simp [DataW.trod,hu] at h
    | nil=>
    cases v with
    | int k' n=>
     simp only [DataW.trod,hu] at h
     split at h
     case isFalse=>cases h
     rename_i N5
     obtain ⟨rfl,hw⟩:=N5
     have hf:=zp8 hw
     refine ⟨[.int k' n],IE.one (.int _ _ hf),?_⟩
     cases k' <;> simp at hk <;> subst hk
     ·exact .cons ⟨n,rfl⟩ .nil
     ·exact .cons ⟨_,rfl⟩ .nil
    | _=>simp [DataW.trod,hu] at h
   | bool=>
    cases cs with
    | nil=>simp [DataW.trod,hu] at h
    | cons v r=>
    cases r with
    | cons v2 r2=>cases v <;> simp [DataW.trod,hu] at h
    | nil=>
    cases v with
    | bool b=>
     simp at hk;subst hk
     exact ⟨[.bool b],IE.one (.bool _), .cons ⟨b,rfl⟩ .nil⟩
    | _=>simp [DataW.trod,hu] at h
   | string=>
    cases cs with
    | nil=>simp [DataW.trod,hu] at h
    | cons v r=>
    cases r with
    | cons v2 r2=>cases v <;> simp [DataW.trod,hu] at h
    | nil=>
    cases v with
    | string s=>
     simp only [DataW.trod,hu] at h
     split at h
     case isFalse=>cases h
     rename_i hs
     simp at hk;subst hk
     refine ⟨[.str s.data.toList],IE.one ?_, .cons ⟨_,rfl⟩ .nil⟩
     have R7:s.data.toList.length≤maxLen:=by
      rw [Array.length_toList];exact hs
     exact VR.str (w:=W) (ρ:=kG) (bad:=yE) s.data.toList R7
    | _=>simp [DataW.trod,hu] at h
   | slice e=>exact slice e hu hk
   | struct fs=>
    unfold DataW.trod at h
    rw [hu] at h
    simp only at h
    split at h
    case isFalse=>cases h
    rename_i QV
    obtain ⟨xs,S7,_⟩:=Option.map_eq_some_iff.1 h
    clear h slice
    -- the fields
    have go:∀ (l:List Field) (k:Nat) (ks:List LK) (xs:List (DataW H × List MemPlace)),MF.kindsF (MF P tn d) P k l=some ks→
      l.mapM (fun f=>DataW.trod encH P W 0 sp GY fuel f.type ((cs.drop f.offset).take (P.cellsOf f.type)))=some xs→
      ∃ vs,wB ks vs∧k+vs.length≤max k cs.length∧IE W ((cs.drop k).take vs.length) vs:=by
     intro l
     induction l with
     | nil=>
      intro k ks xs hk _
      simp [MF.kindsF] at hk;subst hk
      exact ⟨[], .nil,by simp;omega,by simp,fun j hj=>by simp at hj⟩
     | cons f l ih=>
      intro k ks xs hk hx
      simp only [MF.kindsF] at hk
      cases hb:Nat.beq f.offset k
      case false=>simp [hb] at hk
      have VY:=Nat.eq_of_beq_eq_true hb
      simp only [hb,cond_true] at hk
      split at hk
      case h_2=>cases hk
      rename_i k0 hk0
      cases B4:Nat.beq (P.cellsOf f.type) k0.length
      case false=>simp [B4] at hk
      have F4:=Nat.eq_of_beq_eq_true B4
      simp only [B4,cond_true] at hk
      obtain ⟨r,hr,rfl⟩:=Option.map_eq_some_iff.1 hk
      rw [List.mapM_cons] at hx
      cases h0:DataW.trod encH P W 0 sp GY fuel f.type ((cs.drop f.offset).take (P.cellsOf f.type)) with
      | none=>rw [h0] at hx;simp at hx
      | some y=>
       rw [h0] at hx
       cases h1:l.mapM (fun f=>DataW.trod encH P W 0 sp GY fuel f.type ((cs.drop f.offset).take (P.cellsOf f.type))) with
       | none=>rw [h1] at hx;simp at hx
       | some ys=>
        obtain ⟨v0,g1,g2⟩:=aV hK fuel f.type _ y d k0 h0 hk0
        have RX:v0.length=k0.length:=g2.len.symm
        rw [← VY] at hr ⊢
        obtain ⟨vs,e1,e2,e3⟩:=ih (f.offset+k0.length) r ys hr h1
        have K4:=g1.1
        rw [F4] at K4 g1
        simp only [List.length_take,List.length_drop] at K4
        refine ⟨v0++vs,g2.app e1,by simp;omega,?_⟩
        have es:(cs.drop f.offset).take (v0++vs).length=(cs.drop f.offset).take k0.length++(cs.drop (f.offset+k0.length)).take vs.length:=by
         rw [List.length_append,RX,List.take_add,List.drop_drop]
        rw [es]
        exact g1.app e3
    obtain ⟨ks',O7,NV⟩:=Option.bind_eq_some_iff.1 hk
    cases hb:Nat.beq (P.cellsOf T) ks'.length
    case false=>simp [hb] at NV
    have F4:=Nat.eq_of_beq_eq_true hb
    simp only [hb,cond_true,Option.some.injEq] at NV
    subst NV
    obtain ⟨vs,e1,e2,e3⟩:=go fs.toList 0 ks' xs O7 S7
    have hvl:vs.length=cs.length:=by rw [← e1.len,QV,F4]
    refine ⟨vs,?_,e1⟩
    rw [List.drop_zero,List.take_of_length_le (by omega)] at e3
    exact e3
   | _=>simp at hk
def CP (P:Program) (tn:TypeId→Option TN) (D:Nat) (T:TypeId):Ty→Bool
 | .v t=>(match P.underlying T with
   | some (.struct _)=>t.isAgg
   | some (.int _) | some .bool | some .string=>!t.isAgg
   | _=>false)&&decide (MF P tn D T=some (lk t))
 | .sl t=>(match P.underlying T with
   | some (.slice _)=>true
   | _=>false)&&decide (MF P tn D T=some [.l t])
 | _=>false
variable (hB:W.heap.size≤fA.base) in
include hB in
theorem zht {tn:TypeId→Option TN} {D:Nat} (hK:WH P tn D) {sp:Nat→Bool} {GY:Bool} {T:TypeId} {ty:Ty} (M0:CP P tn D T ty=true) {v:Value} {d:DataW H} {ps:List MemPlace}
  (h:DataW.Trod encH P W 0 sp GY T v d ps) {r:Reach} {b:Nat} (hw:Value.okWide P W r b T v):∃ x:ty.T,VR W kG yE v (VB ty x)∧DC ty (VB ty x)=some x:=by
 obtain ⟨fuel,h⟩:=h
 -- a value of one cell
 have G3:(∀ fs,P.underlying T≠some (.struct fs))→(∀ n e,P.underlying T≠some (.array n e))→v.cells.toList=[v]:=fun h1 h2=>by
  unfold Value.okWide at hw
  split at hw
  ·rename_i fs hu;exact absurd hu (h1 _)
  ·rename_i hu;exact absurd hu (h2 _ _)
  ·cases v with
   | agg cs=>
    exfalso
    unfold Cell.okWide at hw
    split at hw <;> simp_all [Cell.ok]
   | _=>rfl
 cases ty with
 | v t=>
  simp only [CP,Bool.and_eq_true,decide_eq_true_eq] at M0
  obtain ⟨vs,h1,h2⟩:=aV hB hK fuel T _ _ D _ h M0.2
  obtain ⟨x,hx⟩:=zel t vs h2
  have hs:=CD t hx
  have hd:iD t (enc t x)=some x:=by
   cases t <;> first | rfl | (simp [iD,enc,tk,jK,gB];done)
  refine ⟨x,?_⟩
  have iW:∀ j (hj:j<(enc t x).length),VR W kG yE (v.cells.toList.getD j undef) (enc t x)[j]:=fun j hj=>VR.sub (hs.get j (by rw [hs.len];exact hj) hj) (h1.2 j (by rw [hs.len];exact hj))
  cases DW:t.isAgg
  ·obtain ⟨c,hc⟩:=zew t DW x
   have hv:v.cells.toList=[v]:=by
    refine G3 (fun fs hu=>?_) (fun n e hu=>?_)
    ·rw [hu] at M0;simp [DW] at M0
    ·rw [hu] at M0;simp at M0
   have he:VB (.v t) x=c:=by simp [VB,PG,DW,hc]
   rw [he]
   have h0:=iW 0 (by rw [hc];simp)
   simp only [hv,hc,List.getElem_cons_zero] at h0
   refine ⟨h0,?_⟩
   rw [hc] at hd
   cases c <;> first | (simp only [DC,DW,cond_false];exact hd) | skip
   exfalso
   have:=zev t x
   rw [hc] at this;simp [V.leaf] at this
  ·have hu:∃ fs,P.underlying T=some (.struct fs):=by
    revert M0
    cases P.underlying T with
    | none=>simp
    | some td=>cases td <;> simp [DW]
   obtain ⟨fs,hu⟩:=hu
   unfold Value.okWide at hw
   rw [hu] at hw
   obtain ⟨cs,rfl,eW,_⟩:=hw
   have he:VB (.v t) x= .agg (enc t x):=by simp [VB,PG,DW]
   rw [he]
   refine ⟨.agg _ _ ?_ fun j hj=>?_,by simp only [DC,DW,cond_true];exact hd⟩
   ·have:=h1.1
    simp only [Value.cells,Array.length_toList] at this
    rw [this,hs.len]
   ·have:=iW j hj
    simp only [Value.cells] at this
    rw [Array.getD_eq_getD_getElem?];rw [List.getD_eq_getElem?_getD] at this
    simpa using this
 | sl t=>
  simp only [CP,Bool.and_eq_true,decide_eq_true_eq] at M0
  obtain ⟨vs,h1,h2⟩:=aV hB hK fuel T _ _ D _ h M0.2
  obtain ⟨c,r,rfl,⟨l,hl⟩,hr⟩:=h2.take
  cases hr
  have hv:v.cells.toList=[v]:=by
   refine G3 (fun fs hu=>?_) (fun n e hu=>?_)
   ·rw [hu] at M0;simp at M0
   ·rw [hu] at M0;simp at M0
  refine ⟨l,?_,by simp [DC,VB,NA,TN.cast]⟩
  have h0:=h1.2 0 (by simp)
  simp only [hv] at h0
  exact VR.sub (SA hl) h0
 | _=>simp [CP] at M0
def QI (P:Program) (tn:TypeId→Option TN) (D:Nat):List TypeId→List Ty→Bool
 | [],[]=>true
 | T :: Ts,t :: ts=>CP P tn D T t&&QI P tn D Ts ts
 | _,_=>false
variable (hB:W.heap.size≤fA.base) in
include hB in
theorem zcA {tn:TypeId→Option TN} {D:Nat} (hK:WH P tn D) {sp:Nat→Bool} {GY:Bool} {r:Reach} {b:Nat}:∀ (Ts:List TypeId) (ats:List Ty) (vs:List Value) (ds:List (DataW H)) (ps:List MemPlace),
  QI P tn D Ts ats=true→DataW.TrodAll encH P W 0 sp GY Ts vs ds ps→(∀ (j:Nat) t v,Ts[j]?=some t→vs[j]?=some v→Value.okWide P W r b t v)→
  vs.length=ats.length∧∃ x:lA ats,jC ats (WA ats x)=some x∧(WA ats x).length=ats.length∧∀ j (hj:j<(WA ats x).length),VR W kG yE (vs.getD j undef) (WA ats x)[j]
 | [],[],vs,ds,ps,_,h,_=>by
  cases vs <;> cases ds <;> simp [DataW.TrodAll] at h
  exact ⟨rfl,(),rfl,rfl,fun j hj=>by simp [WA] at hj⟩
 | [],_ :: _,vs,ds,ps,ht,_,_=>by simp [QI] at ht
 | _ :: _,[],vs,ds,ps,ht,_,_=>by simp [QI] at ht
 | T :: Ts,t :: ts,vs,ds,ps,ht,h,hw=>by
  simp only [QI,Bool.and_eq_true] at ht
  obtain ⟨v,vs',d,ds',p,q,rfl,rfl,rfl,h0,h1⟩:=ChangeShapes.trodAll_cons h
  obtain ⟨x0,k1,k2⟩:=zht hB hK ht.1 h0 (hw 0 T v rfl rfl)
  obtain ⟨e1,y,e2,e3,e4⟩:=zcA hK Ts ts vs' ds' q ht.2 h1 (fun j t v h1 h2=>hw (j+1) t v h1 h2)
  refine ⟨by simp [e1],?_⟩
  cases ts with
  | nil=>
   refine ⟨x0,by simpa [jC,WA] using k2,rfl,fun j hj=>?_⟩
   have:j=0:=by simp [WA] at hj;omega
   subst this;exact k1
  | cons d r=>
   refine ⟨(x0,y),?_,by simp [WA] at e3 ⊢;exact e3,fun j hj=>?_⟩
   ·simp only [jC,WA]
    rw [k2];simp only [Option.bind_some];rw [e2];rfl
   ·cases j with
    | zero=>exact k1
    | succ j=>exact e4 j (by simpa [WA] using hj)
def kA (n:Nat):List ZA:=List.replicate n .plain
omit [fA] in
theorem zez:∀ (n k:Nat) (as:List V),as.length=n→rB (kA n) k as=as∧yA (kA n) k as=fun _=>none
 | 0,k,[],_=>⟨rfl,rfl⟩
 | 0,k,_ :: _,h=>by simp at h
 | n+1,k,[],h=>by simp at h
 | n+1,k,a :: as,h=>by
  obtain ⟨h1,h2⟩:=zez n (k+1) as (by simpa using h)
  refine ⟨?_,?_⟩
  ·show a :: rB (kA n) (k+1) as=_;rw [h1]
  ·show yA (kA n) (k+1) as=_;exact h2
theorem zqO (hB:fA.base=W.heap.size) {tn:TypeId→Option TN} {D:Nat} (hK:WH P tn D) {f:Nat} {ats:List Ty} {F:lA ats→Option Bool} {n:Nat}
  {g:Gl} (hg:g.p W) (hc:eA P f ⟨kA n,lA ats,lA [.v .bool],jC ats,F,KC [.v .bool],[(false,1)],[],false⟩ g) (hn:ats.length=n) (hF:∀ x,F x=some true) {Ts:List TypeId} (ht:QI P tn D Ts ats=true)
  {sp:Nat→Bool} {GY:Bool} {r:Reach} {b:Nat} {args:Array Value} {ds:List (DataW H)} {ps:List MemPlace} (h:DataW.TrodAll encH P W 0 sp GY Ts args.toList ds ps)
  (hw:∀ (j:Nat) t v,Ts[j]?=some t→args[j]?=some v→Value.okWide P W r b t v) (v6:(callFunc f args).run P W= .ok (.enter f args) W):
  Calls P f args W fun e W'=>e= .returned (.bool true)∧Below W.heap.size W W':=by
 obtain ⟨h1,x,h2,h3,h4⟩:=zcA (Nat.le_of_eq hB.symm) hK Ts ats args.toList ds ps ht h (fun j t v h5 h6=>hw j t v h5 (by simpa using h6))
 have QV:(WA ats x).length=n:=by rw [h3,hn]
 obtain ⟨e1,e2⟩:=zez n 0 (WA ats x) QV
 have hp:(kA n).length=n:=by simp [kA]
 have rW:∀ b,mA yE kG (yA (kA n) 0 (WA ats x)) b→yE b:=by
  rintro b (h | ⟨q,row,ri,h,_⟩)
  ·exact h
  ·rw [e2] at h;cases h
 have hemp:∀ h:Nat→Option nA,h=(fun _=>none)→aB W yE yE kG h W:=fun h he=>by
  subst he
  exact ⟨Wx.refl _,fun _ _ _=>rfl,fun b hb=>hb.elim,fun r row hr=>(by cases hr),fun q q' row row' qi qi' hq=>(by cases hq)⟩
 have G:=hc W args (WA ats x) yE yE kG x true 0 [] (by simp at h1;rw [hp];omega) (by rw [e1,hp,QV])
  (hemp (yA (kA n) 0 (WA ats x)) e2)
  (fun j hj=>by
   have eX:j<(WA ats x).length:=by rw [← e1];exact hj
   have h5:=h4 j eX
   have h6:(rB (kA n) 0 (WA ats x))[j]=(WA ats x)[j]:=by simp only [e1]
   rw [h6]
   rw [Array.getD_eq_getD_getElem?];rw [List.getD_eq_getElem?_getD] at h5
   rw [Array.getElem?_toList] at h5
   exact h5.mono (fun _ _ h=>h) (fun _ _ _=>rfl) fun b hb=> .inl (rW b hb))
  (fun _ _=>rfl) (by simp) (fun b hb=>by simp at hb) h2 (hF x) (by simp [KC,iR,enc]) ⟨hg,fun _ _ h=>h,Nat.le_of_eq hB,fun _ _ h=>h⟩
 rcases G with ⟨_,G⟩ | ⟨v,w',G,_⟩
 ·refine Calls.mono' G fun e w' ⟨v,he,ρ',g1,g2,_⟩=>?_
  subst he
  refine ⟨?_,g1.wx.os,g1.wx.tape,g1.wx.output,g1.wx.size,fun k hk=>g1.old k hk fun h=>h⟩
  have g3:VR w' ρ' (mA yE ρ' (EC ⟨kA n,lA ats,lA [.v .bool],jC ats,F,KC [.v .bool],[(false,1)],[],false⟩ (WA ats x) [] 0 (KC [.v .bool] true))) v (.bool true):=g2
  cases g3;rfl
 ·rw [v6] at G;cases G
omit [fA] in
theorem zhz {W W':World} (hb:Below W.heap.size W W') {b off:Nat} (h:b<W.heap.size):W'.frozen? ⟨b,off,none⟩=W.frozen? ⟨b,off,none⟩:=by
 simp only [World.frozen?,hb.block b h]
omit [fA] in
theorem zg6 (hl:laidOutB P=true) {W':World} (hb:Below W.heap.size W W') {sp':Nat→Bool}:∀ (ts:List TypeId) (vs:List Value) (ds:List (DataW H)) (ps:List MemPlace),
  (∀ t ∈ ts,P.readableRec t=true∧t<P.types.size)→DataW.TrodAll encH P W 0 (fun _=>true) true ts vs ds ps→(∀ x ∈ ps,x.block<W.heap.size)→(∀ x ∈ ps,sp' x.block=true)→DataW.TrodAll encH P W' 0 sp' true ts vs ds ps
 | [],vs,ds,ps,hr,h,RV,hs=>by
  cases vs <;> cases ds <;> simp [DataW.TrodAll] at h ⊢
  exact h
 | t :: ts,vs,ds,ps,hr,h,RV,hs=>by
  obtain ⟨v,vs',d,ds',p,q,rfl,rfl,rfl,h0,h1⟩:=ChangeShapes.trodAll_cons h
  refine ⟨p,q,WideElems.Trod_stays hl (hr t (by simp)).1 (hr t (by simp)).2 h0 (fun x hx=>hb.same (RV x (by simp [hx]))) (fun x hx=>hs x (by simp [hx])),
   zg6 hl hb ts vs' ds' q (fun t ht=>hr t (List.mem_cons_of_mem _ ht)) h1 (fun x hx=>RV x (by simp [hx])) (fun x hx=>hs x (by simp [hx])),rfl⟩
omit [fA] in
theorem zqP (hl:laidOutB P=true) {f:Func} {s:ChangeSpec} {apart fresh GX again:Bool} {W':World} {args:Array Value} {ds gs:List (DataW H)} {before:List MemPlace}
  (hts:∀ t ∈ f.params.toList,P.readableRec t=true∧t<P.types.size) (CY:s.vars=[]) (hW:DataW.Whole encH P f.params.toList s.vars apart W args.toList ds gs before) (hb:Below W.heap.size W W')
  {T:TypeId} (hT:f.resultTypes= #[T]) (OY:P.underlying T=some .bool) (lZ:s.fn H (ds++gs)= { results:=[.lit (.bool true)],args:=ds }):
  s.post encH P f apart fresh GX again W args (.bool true) W':=by
 obtain ⟨p,q,h1,h2,rfl,h3,h4⟩:=id hW
 rw [CY] at h2
 have hq:gs=[]∧q=[]:=by cases gs <;> simp [DataW.TrodVars] at h2;exact ⟨rfl,h2⟩
 obtain ⟨rfl,rfl⟩:=hq
 have RV:∀ x ∈ p,x.block<W.heap.size:=fun x hx=>hW.lt x (by simp [hx])
 have LW:∀ sp:Nat→Bool,(∀ x ∈ p,sp x.block=true)→DataW.TrodAll encH P W' 0 sp true f.params.toList args.toList (s.fn H (ds++[])).args p:=fun sp hs=>by
  rw [lZ];exact zg6 hl hb _ _ _ _ hts h1 RV hs
 have WX:∀ (b:Nat) (sp:Nat→Bool) (hd:Bool),DataW.TrodAll encH P W' b sp hd f.resultTypes.toList ((Value.bool true).resultList f.resultTypes.size) (s.fn H (ds++[])).results []:=fun b sp hd=>by
  rw [lZ,hT]
  refine ⟨[],[],RowKit.shut_bool OY _,rfl,rfl⟩
 have cY:∀ sp:Nat→Bool,DataW.TrodVars encH P W' sp s.vars (s.fn H (ds++[])).vars []:=fun sp=>by
  rw [lZ,CY];rfl
 have X0:∀ x ∈ p,(fun b=>decide (b<W.heap.size)) x.block=true:=fun x hx=>by simpa using RV x hx
 refine ⟨ds,[],p++[],[],p,[],hW,WX _ _ _,LW _ X0,cY _,?_,fun _=>⟨?_,_,_,([]++p)++[],⟨[]++p,[],trodAll_append (LW _ (fun _ _=>rfl)) (WX _ _ _),cY _,rfl,?_,?_⟩,?_⟩⟩
 ·refine ⟨hb.os,hb.output,fun i hi=>?_⟩
  rw [hb.block i hi]
  exact (World.keptBut_refl W (fun x=>x ∈ p++[]∧(x ∈ []∨x ∈ p∨x ∈ []))).2.2 i hi
 ·exact ok_one hT rfl (okWide_bool_mk OY _)
 ·intro c off hp
  have hp':MemPlace.cell c off ∈ p++[]:=by simpa using hp
  have:=RV (.cell c off) (by simpa using hp')
  rw [zhz (b:=c) (off:=off) hb this]
  exact h3 c off hp'
 ·intro ha
  have:=h4 ha
  simpa using this
 ·intro x hx _
  simpa using hx
omit [fA] in
theorem zpH {f : Nat} {fn : Func} {body : Code} (hf : P.funcs[f]? = some fn) (hb : fn.body = some body) (ZW : (fn.name == "runtime.NumGoroutine") = false) (args : Array Value) :
  (callFunc f args).run P W= .ok (.enter f args) W:=by
 have sY : ¬ fn.name = "runtime.NumGoroutine" := by simpa using ZW
 simp [callFunc,program,hf,hb,sY,Sem.run]
omit [fA] in
theorem zqR {g:Gl} (hg:g.p W) {tn:TypeId→Option TN} {D:Nat} (hK:WH P tn D) {f:Nat} {fn:Func} {body:Code} {ats:List Ty} {F:lA ats→Option Bool} {n:Nat}
  {tns:TypeId→Option TN} (hc:∀ m:Nat,@eA ⟨tns,m⟩ P f ⟨kA n,lA ats,lA [.v .bool],jC ats,F,KC [.v .bool],[(false,1)],[],false⟩ g) (hn:ats.length=n) (hF:∀ x,F x=some true)
  (hf : P.funcs[f]? = some fn) (hb : fn.body = some body) (ZW : (fn.name == "runtime.NumGoroutine") = false) (ht : QI P tn D fn.params.toList ats = true)
  (hl:laidOutB P=true) (hts:(fn.params.toList.all fun t=>P.readableRec t&&Nat.blt t P.types.size)=true) {T:TypeId} (hT:fn.resultTypes= #[T]) (OY:P.underlying T=some .bool)
  {s:ChangeSpec} (CY:s.vars=[]) {apart fresh GX again:Bool} {args:Array Value} {ds gs:List (DataW H)} {before:List MemPlace} {r:Reach} {b:Nat}
  (hW:DataW.Whole encH P fn.params.toList s.vars apart W args.toList ds gs before) (lZ:gs=[]→s.fn H (ds++gs)= { results:=[.lit (.bool true)],args:=ds })
  (o0:∀ (j:Nat) t v,fn.params[j]?=some t→args[j]?=some v→Value.okWide P W r b t v):
  Calls P f args W fun e W'=>∃ v,e= .returned v∧s.post encH P fn apart fresh GX again W args v W':=by
 obtain ⟨p,q,h1,h2,h3⟩:=id hW
 have hgs:gs=[]:=by
  rw [CY] at h2
  cases gs
  ·rfl
  ·simp [DataW.TrodVars] at h2
 letI:fA:=⟨tns,W.heap.size⟩
 refine Calls.mono' (zqO rfl hK hg (hc W.heap.size) hn hF ht h1 (fun j t v h5 h6=>o0 j t v (by simpa using h5) h6) (zpH hf hb ZW args)) fun e W' ⟨he,hb⟩=>⟨_,he,zqP hl (fun t ht=>?_) CY hW hb hT OY (lZ hgs)⟩
 have:=List.all_eq_true.1 hts t ht
 simpa using this
omit [fA] in
theorem zqQ {tn:TypeId→Option TN} {D:Nat} (hK:WH P tn D) {f:Nat} {fn:Func} {body:Code} {ats:List Ty} {F:lA ats→Option Bool} {n:Nat}
  {tns:TypeId→Option TN} (hc:∀ m:Nat,@eA ⟨tns,m⟩ P f ⟨kA n,lA ats,lA [.v .bool],jC ats,F,KC [.v .bool],[(false,1)],[],false⟩ JH) (hn:ats.length=n) (hF:∀ x,F x=some true)
  (hf : P.funcs[f]? = some fn) (hb : fn.body = some body) (ZW : (fn.name == "runtime.NumGoroutine") = false) (ht : QI P tn D fn.params.toList ats = true)
  (hl:laidOutB P=true) (hts:(fn.params.toList.all fun t=>P.readableRec t&&Nat.blt t P.types.size)=true) {T:TypeId} (hT:fn.resultTypes= #[T]) (OY:P.underlying T=some .bool)
  {s:ChangeSpec} (CY:s.vars=[]) {apart fresh GX again:Bool} {args:Array Value} {ds gs:List (DataW H)} {before:List MemPlace} {r:Reach} {b:Nat}
  (hW:DataW.Whole encH P fn.params.toList s.vars apart W args.toList ds gs before) (lZ:gs=[]→s.fn H (ds++gs)= { results:=[.lit (.bool true)],args:=ds })
  (o0:∀ (j:Nat) t v,fn.params[j]?=some t→args[j]?=some v→Value.okWide P W r b t v):
  Calls P f args W fun e W'=>∃ v,e= .returned v∧s.post encH P fn apart fresh GX again W args v W':=
 zqR (g:=JH) trivial hK hc hn hF hf hb ZW ht hl hts hT OY CY hW lZ o0
end
end Go.D

/-
  A body's end: what the function gives.
-/
import Derived.Test.YtinolgjddfjojaaGreatL6
import Derived.Test.YtinolgjddfjojaaGreatL5
import Derived.Carry
import Derived.WideKeyArgs
import Derived.ChangeSame
namespace Go.D
theorem Subs.app {a b c d:List V} (h:Subs a b) (k:Subs c d):Subs (a++c) (b++d):=by
  induction h with
  | nil=>exact k
  | cons h1 _ ih=>exact .cons h1 ih
theorem unflatTy_sub (t:Ty) (vs:List V) (x:t.T × List V) (h:unflatTy t vs=some x):∃ us,vs=us++x.2∧Subs us (flatTy t x.1):=by
  cases t with
  | v t=>
    simp only [unflatTy] at h
    obtain ⟨a,h1,h2⟩:=Option.bind_eq_some_iff.1 h
    cases h2
    exact ⟨_,(List.take_append_drop _ _).symm,dec_sub t h1⟩
  | cells t=>
    simp only [unflatTy] at h
    obtain ⟨a,h1,h2⟩:=Option.bind_eq_some_iff.1 h
    cases h2
    exact ⟨_,(List.take_append_drop _ _).symm,dec_sub t h1⟩
  | sl t=>
    cases vs with
    | nil=>simp [unflatTy] at h
    | cons v vs=>
      simp only [unflatTy] at h
      obtain ⟨a,h1,h2⟩:=Option.bind_eq_some_iff.1 h
      cases h2
      exact ⟨[v],rfl, .cons (asL_sub h1) .nil⟩
  | raw=>
    cases vs with
    | nil=>simp [unflatTy] at h
    | cons v vs=>simp only [unflatTy,Option.some.injEq] at h;subst h;exact ⟨[v],rfl, .cons (.refl _) .nil⟩
  | pt=>simp [unflatTy] at h
  | c1=>simp [unflatTy] at h
  | p1=>simp [unflatTy] at h
  | c2=>simp [unflatTy] at h
theorem unflat_sub:∀ (ts:List Ty) (vs:List V) (x:TyTup ts),unflat ts vs=some x→Subs vs (flatTup ts x)
  | [],[],x,h=> .nil
  | [],_ :: _,x,h=>by simp [unflat] at h
  | [t],vs,x,h=>by
    simp only [unflat] at h
    obtain ⟨y,h1,h2⟩:=Option.bind_eq_some_iff.1 h
    obtain ⟨us,h3,h4⟩:=unflatTy_sub t vs y h1
    split at h2
    · rename_i h5
      cases h2
      rw [h5,List.append_nil] at h3;subst h3;exact h4
    · cases h2
  | t :: d :: r,vs,x,h=>by
    simp only [unflat] at h
    obtain ⟨y,h1,h2⟩:=Option.bind_eq_some_iff.1 h
    obtain ⟨z,h3,h4⟩:=Option.bind_eq_some_iff.1 h2
    cases h4
    obtain ⟨us,h5,h6⟩:=unflatTy_sub t vs y h1
    rw [h5]
    exact h6.app (unflat_sub (d :: r) _ z h3)
section
variable {C:Cx} {w0:World} {outer own D:Nat→Prop} {R:Type} {st st1 st2:St} {ρ ρ1 ρ2:Nat→Option RI} {a a1 a2:Act} {w w1 w2:World} {j:JI}
theorem touch_all (an:An):∀ c:Code,Touch an (fun _=>True) c:=by
  have jd:∀ o,JD (fun _=>True) o:=fun o=>by cases o <;> simp [JD]
  intro c
  induction c with
  | region id ops d=>exact ⟨fun _ _ _ _=>trivial,jd _⟩
  | seq x y hx hy=>exact ⟨hx,hy⟩
  | cond c x y hx hy=>cases c <;> first | exact ⟨hx,hy,jd _⟩ | exact ⟨hx,hy⟩
  | block id x hx=>exact ⟨hx,jd _⟩
  | loop x hx=>
    refine ⟨hx,?_⟩
    split
    · exact jd _
    · trivial
  | scope x hx=>exact hx
  | _=>trivial
theorem thawH_tail (ow:List Nat) (B:Nat) (e:V) (es:List V) (p q:Nat) (h:q≠p):thawH ow B (fun _=>none) p (e :: es) (B+q)=thawH ow B (fun _=>none) (p+1) es (B+q):=by
  cases e <;> simp only [thawH]
  cases hb:ow.any (Nat.beq p)
  · rfl
  · simp only [cond_true];rw [upd_other _ _ _ _ (by omega)]
theorem thaw_rel (ow:List Nat) (B:Nat):∀ (cs es:List V) (p q:Nat) (row:Row),Subs cs es→thawH ow B (fun _=>none) p es (B+q)=some row→
    thawH ow B (fun _=>none) p cs (B+q)=some row∨(thawH ow B (fun _=>none) p cs (B+q)=none∧∃ t,row=⟨.arr t [], .own⟩)
  | [],_,p,q,row,hs,h=>by cases hs;simp [thawH] at h
  | c :: cs,_,p,q,row,hs,h=>by
    cases hs with
    | cons hs0 hs1=>
    rename_i e es
    by_cases hq:q=p
    · subst hq
      cases hs0 with
      | refl=>
        have hn:∀ l:List V,thawH ow B (fun _=>none) (q+1) l (B+q)=none:=fun l=>thawH_none _ _ _ _ _ (by omega)
        left
        cases c <;> simp only [thawH] at h ⊢ <;> try (rw [hn] at h;cases h)
        cases hb:ow.any (Nat.beq q)
        · simp only [hb,cond_false] at h;rw [hn] at h;cases h
        · simp only [hb,cond_true,upd_same] at h ⊢;exact h
      | byte n=>simp only [thawH] at h;rw [thawH_none _ _ _ _ _ (by omega)] at h;cases h
      | nil t=>
        right
        simp only [thawH] at h ⊢
        refine ⟨thawH_none _ _ _ _ _ (by omega),?_⟩
        cases hb:ow.any (Nat.beq q)
        · simp only [hb,cond_false] at h;rw [thawH_none _ _ _ _ _ (by omega)] at h;cases h
        · simp only [hb,cond_true,upd_same] at h;cases h;exact ⟨t,rfl⟩
    · rw [thawH_tail _ _ _ _ _ _ hq] at h ⊢
      exact thaw_rel ow B cs es (p+1) q row hs1 h
theorem thaw_vals (ow:List Nat) (B:Nat) {bad bad2:Nat→Prop} {ρ2:Nat→Option RI} (hk:∀ u d,VR w ρ bad u d→VR w ρ2 bad2 u d):∀ (cs es:List V) (p:Nat) (u:Nat→Value),Subs cs es→
    (∀ q t,p≤q→thawH ow B (fun _=>none) p cs (B+q)=none→thawH ow B (fun _=>none) p es (B+q)=some ⟨.arr t [], .own⟩→ρ2 (B+q)=some ⟨0,0,0,true⟩)→
    (∀ j (hj:j<(thawL ow B p cs).length),VR w ρ bad (u j) (thawL ow B p cs)[j])→∀ j (hj:j<(thawL ow B p es).length),VR w ρ2 bad2 (u j) (thawL ow B p es)[j]
  | [],_,p,u,hs,hn,hv,j,hj=>by cases hs;simp [thawL] at hj
  | c :: cs,_,p,u,hs,hn,hv,j,hj=>by
    cases hs with
    | cons hs0 hs1=>
    rename_i e es
    have hd:∀ (c:V) (cs:List V),∃ c',thawL ow B p (c :: cs)=c' :: thawL ow B (p+1) cs:=fun c cs=>by cases c <;> exact ⟨_,rfl⟩
    obtain ⟨c',hc'⟩:=hd c cs
    obtain ⟨e',he'⟩:=hd e es
    have hv':∀ j (hj:j<(c' :: thawL ow B (p+1) cs).length),VR w ρ bad (u j) (c' :: thawL ow B (p+1) cs)[j]:=fun j hj=>by
      have:=hv j (by rw [hc'];exact hj)
      simpa only [hc'] using this
    have ih:=thaw_vals ow B hk cs es (p+1) (fun j=>u (j+1)) hs1 (fun q t h1 h2 h3=>hn q t (by omega) (by rw [thawH_tail _ _ _ _ _ _ (by omega)];exact h2) (by rw [thawH_tail _ _ _ _ _ _ (by omega)];exact h3))
      (fun j hj=>by have:=hv' (j+1) (by simp;omega);simpa using this)
    have hv0:=hv' 0 (by simp)
    simp only [List.getElem_cons_zero] at hv0
    have goal0:VR w ρ2 bad2 (u 0) e':=by
      cases hs0 with
      | refl=>
        have:e'=c':=by
          have h1:=congrArg List.head? hc'
          have h2:=congrArg List.head? he'
          cases c <;> simp [thawL] at h1 h2 <;> rw [← h1, ← h2]
        rw [this];exact hk _ _ hv0
      | byte n=>
        have h1:=congrArg List.head? hc'
        have h2:=congrArg List.head? he'
        simp only [thawL,List.head?_cons,Option.some.injEq] at h1 h2
        subst h1;subst h2
        exact hk _ _ (VR.sub (.byte n) hv0)
      | nil t=>
        have h1:=congrArg List.head? hc'
        have h2:=congrArg List.head? he'
        simp only [thawL,List.head?_cons,Option.some.injEq] at h1 h2
        subst h1
        have hu0:u 0= .slice none 0 0:=by generalize u 0=x at hv0;cases hv0;rfl
        cases hb:ow.any (Nat.beq p)
        · simp only [hb,cond_false] at h2
          subst h2
          rw [hu0];exact .slE _ _ _ (Nat.zero_le _)
        · simp only [hb,cond_true] at h2
          subst h2
          rw [hu0]
          refine .owN _ ⟨0,0,0,true⟩ none (hn p t (Nat.le_refl _) ?_ ?_) rfl rfl
          · simp only [thawH];exact thawH_none _ _ _ _ _ (by omega)
          · simp only [thawH,hb,cond_true,upd_same]
    cases j with
    | zero=>simp only [he',List.getElem_cons_zero];exact goal0
    | succ j=>simp only [he',List.getElem_cons_succ];exact ih j (by rw [he'] at hj;simpa using hj)
theorem tup_split0 {t:Ty} {ats:List Ty} {as:List V} {x:TyTup (t :: ats)} (hd:decTup (t :: ats) as=some x):
    ∃ v vs y,as=v :: vs∧∃ (x0:t.T),decTy t v=some x0∧decTup ats vs=some y∧encTup (t :: ats) x=encTy t x0 :: encTup ats y:=by
  cases ats with
  | nil=>
    cases as with
    | nil=>simp [decTup] at hd
    | cons v vs=>
      cases vs with
      | nil=>exact ⟨v,[],(),rfl,x,by simpa [decTup] using hd,rfl,rfl⟩
      | cons=>simp [decTup] at hd
  | cons d r=>
    cases as with
    | nil=>simp [decTup] at hd
    | cons v vs=>
      simp only [decTup] at hd
      obtain ⟨x0,h1,h2⟩:=Option.bind_eq_some_iff.1 hd
      obtain ⟨y,h3,h4⟩:=Option.bind_eq_some_iff.1 h2
      cases h4
      exact ⟨v,vs,y,rfl,x0,h1,h3,rfl⟩
theorem entH_ge:∀ (ks:List ArgK) (k:Nat) (as:List V) (q:Nat) (row:Row),entH ks k as q=some row→128 *k≤q
    | [],k,as,q,row,h=>by cases as <;> simp [entH] at h
    | .plain :: ks,k,[],q,row,h=>by simp [entH] at h
    | .plain :: ks,k,a :: as,q,row,h=>by
      have:=entH_ge ks (k+1) as q row (by simpa only [entH] using h);omega
    | .mv ow :: ks,k,[],q,row,h=>by simp [entH] at h
    | .mv ow :: ks,k,a :: as,q,row,h=>by
      cases a <;> simp only [entH] at h <;> try (cases h;done)
      rw [thawH_or] at h
      split at h
      · rename_i x hx
        obtain ⟨_,_,_,h1,_⟩:=thawH_arr _ _ _ _ _ _ hx
        omega
      · have:=entH_ge ks (k+1) as q row h;omega
    | .ptr ow :: ks,k,[],q,row,h=>by simp [entH] at h
    | .ptr ow :: ks,k,a :: as,q,row,h=>by
      cases a <;> simp only [entH] at h <;> try (cases h;done)
      by_cases hq:q=128 *k+127
      · omega
      · rw [upd_other _ _ _ _ hq,thawH_or] at h
        split at h
        · rename_i x hx
          obtain ⟨_,_,_,h1,_⟩:=thawH_arr _ _ _ _ _ _ hx
          omega
        · have:=entH_ge ks (k+1) as q row h;omega
theorem entS_enc {bad bad2:Nat→Prop} {ρ2:Nat→Option RI} (hkeep:∀ u d,VR w ρ bad u d→VR w ρ2 bad2 u d):∀ (ks:List ArgK) (ats:List Ty) (as:List V) (x:TyTup ats) (k:Nat) (u:Nat→Value),ksOk ks ats=true→decTup ats as=some x→
    (∀ q t,entH ks k as q=none→entH ks k (encTup ats x) q=some ⟨.arr t [], .own⟩→ρ2 q=some ⟨0,0,0,true⟩)→
    (∀ j (hj:j<(entS ks k as).length),VR w ρ bad (u j) (entS ks k as)[j])→
    (entS ks k (encTup ats x)).length=(entS ks k as).length∧∀ j (hj:j<(entS ks k (encTup ats x)).length),VR w ρ2 bad2 (u j) (entS ks k (encTup ats x))[j]:=by
  intro ks
  induction ks with
  | nil=>
    intro ats as x k u hk hd hn hv
    cases ats with
    | nil=>cases as with
      | nil=>exact ⟨rfl,fun j hj=>by simp [entS] at hj⟩
      | cons=>simp [decTup] at hd
    | cons=>simp [ksOk] at hk
  | cons q ks ih=>
    intro ats as x k u hk hd hn hv
    cases ats with
    | nil=>cases q <;> simp [ksOk] at hk
    | cons t ats=>
      obtain ⟨v,vs,y,rfl,x0,h1,h3,h4⟩:=tup_split0 hd
      rw [h4] at hn ⊢
      cases q with
      | plain=>
        simp only [ksOk] at hk
        obtain ⟨e1,e2⟩:=ih ats vs y (k+1) (fun j=>u (j+1)) hk h3 (fun q t a b=>hn q t a b) (fun j hj=>hv (j+1) (by simp [entS];omega))
        refine ⟨by simp [entS,e1],fun j hj=>?_⟩
        cases j with
        | zero=>exact hkeep _ _ (decTy_ok t v x0 h1 (hv 0 (by simp [entS])))
        | succ j=>exact e2 j (by simpa [entS] using hj)
      | ptr ow=>
        cases t with
        | cells t=>
          simp only [ksOk,Bool.and_eq_true] at hk
          have hsz:=Nat.le_of_ble_eq_true hk.1
          simp only [decTy] at h1
          split at h1
          case h_2=>cases h1
          rename_i cs
          have hle:(enc t x0).length=sz t:=enc_length t x0
          have hlc:cs.length=sz t:=by rw [(dec_sub t h1).len,hle]
          obtain ⟨e1,e2⟩:=ih ats vs y (k+1) (fun j=>u (j+1)) hk.2 h3 (fun q t' a b=>by
            have hge:=entH_ge ks (k+1) _ q _ b
            refine hn q t' ?_ ?_
            · simp only [entH];rw [upd_other _ _ _ _ (by omega),thawH_or,thawH_none _ _ _ _ _ (by omega)];exact a
            · simp only [entH,encTy];rw [upd_other _ _ _ _ (by omega),thawH_or,thawH_none _ _ _ _ _ (by omega)];exact b) (fun j hj=>hv (j+1) (by simp [entS];omega))
          refine ⟨by simp [entS,e1],fun j hj=>?_⟩
          cases j with
          | zero=>exact hkeep _ _ (hv 0 (by simp [entS]))
          | succ j=>exact e2 j (by simpa [entS] using hj)
        | _=>simp [ksOk] at hk
      | mv ow=>
        cases t with
        | v t=>
          simp only [ksOk,Bool.and_eq_true] at hk
          obtain ⟨⟨hag,hsz⟩,hk⟩:=hk
          have hsz:=Nat.le_of_ble_eq_true hsz
          simp only [decTy] at h1
          split at h1
          case h_2=>simp [hag] at h1
          rename_i cs
          simp only [hag,cond_true] at h1
          have hsub:=dec_sub t h1
          have hle:(enc t x0).length=sz t:=enc_length t x0
          have hlc:cs.length=sz t:=by rw [hsub.len,hle]
          have hen:encTy (.v t) x0= .agg (enc t x0):=by simp only [encTy,encV,hag,cond_true]
          rw [hen] at hn ⊢
          obtain ⟨e1,e2⟩:=ih ats vs y (k+1) (fun j=>u (j+1)) hk h3 (fun q t' a b=>by
            have hge:=entH_ge ks (k+1) _ q _ b
            refine hn q t' ?_ ?_
            · simp only [entH];rw [thawH_or,thawH_none _ _ _ _ _ (by omega)];exact a
            · simp only [entH];rw [thawH_or,thawH_none _ _ _ _ _ (by omega)];exact b) (fun j hj=>hv (j+1) (by simp [entS];omega))
          refine ⟨by simp [entS,e1],fun j hj=>?_⟩
          cases j with
          | zero=>
            have hv0:=hv 0 (by simp [entS])
            simp only [entS,List.getElem_cons_zero] at hv0 ⊢
            generalize u 0=u0 at hv0
            cases hv0 with
            | agg _ vsA hs hvs=>
            rw [thawL_len] at hs
            refine .agg _ vsA (by rw [thawL_len,hs,hle,hlc]) ?_
            refine thaw_vals ow (128 *k) hkeep cs (enc t x0) 0 (fun j=>vsA.getD j undef) hsub (fun p t' _ h5 h6=>?_) hvs
            obtain ⟨_,_,_,e3,e4⟩:=thawH_arr _ _ _ _ _ _ h6
            refine hn _ t' ?_ ?_
            · simp only [entH]
              rw [thawH_or,h5]
              show entH ks (k+1) vs (128 *k+p)=none
              cases hr:entH ks (k+1) vs (128 *k+p) with
              | none=>rfl
              | some z=>have:=entH_ge ks (k+1) vs _ z hr;omega
            · simp only [entH]
              rw [thawH_or,h6]
          | succ j=>exact e2 j (by simpa [entS] using hj)
        | _=>simp [ksOk] at hk
theorem ent_rel:∀ (ks:List ArgK) (ats:List Ty) (as:List V) (x:TyTup ats) (k:Nat),ksOk ks ats=true→decTup ats as=some x→
    (∀ q row,entH ks k as q=some row→q<128 *(k+ks.length))∧
    ∀ q row',entH ks k (encTup ats x) q=some row'→q<128 *(k+ks.length)∧(entH ks k as q=some row'∨(entH ks k as q=none∧∃ t,row'=⟨.arr t [], .own⟩)∨
      ∃ ow B cs es,entH ks k as q=some ⟨.box (thawL ow B 0 cs), .own⟩∧row'=⟨.box (thawL ow B 0 es), .own⟩∧Subs cs es∧
        ∀ p t,thawH ow B (fun _=>none) 0 cs (B+p)=none→thawH ow B (fun _=>none) 0 es (B+p)=some ⟨.arr t [], .own⟩→entH ks k as (B+p)=none∧entH ks k (encTup ats x) (B+p)=some ⟨.arr t [], .own⟩):=by
  intro ks
  induction ks with
  | nil=>
    intro ats as x k hk hd
    refine ⟨fun q row h=>by cases as <;> simp [entH] at h,fun q row' h=>?_⟩
    cases ats with
    | nil=>simp [entH] at h
    | cons=>simp [ksOk] at hk
  | cons g ks ih=>
    intro ats as x k hk hd
    cases ats with
    | nil=>cases g <;> simp [ksOk] at hk
    | cons t ats=>
      obtain ⟨v,vs,y,rfl,x0,h1,h3,h4⟩:=tup_split0 hd
      rw [h4]
      cases g with
      | plain=>
        simp only [ksOk] at hk
        obtain ⟨i1,i2⟩:=ih ats vs y (k+1) hk h3
        refine ⟨fun q row h=>?_,fun q row' h=>?_⟩
        · simp only [entH] at h
          have:=i1 q row h
          simp only [List.length_cons];omega
        · simp only [entH] at h ⊢
          obtain ⟨j1,j2⟩:=i2 q row' h
          exact ⟨by simp only [List.length_cons];omega,j2⟩
      | ptr ow=>
        cases t with
        | cells t=>
          simp only [ksOk,Bool.and_eq_true] at hk
          obtain ⟨hsz,hk⟩:=hk
          have hsz:=Nat.le_of_ble_eq_true hsz
          simp only [decTy] at h1
          split at h1
          case h_2=>cases h1
          rename_i cs
          obtain ⟨i1,i2⟩:=ih ats vs y (k+1) hk h3
          have hsub:=dec_sub t h1
          have hle:(enc t x0).length=sz t:=enc_length t x0
          have hlc:cs.length=sz t:=by rw [hsub.len,hle]
          refine ⟨fun q row h=>?_,fun q row' h=>?_⟩
          · simp only [List.length_cons]
            simp only [entH] at h
            by_cases hq:q=128 *k+127
            · omega
            · rw [upd_other _ _ _ _ hq,thawH_or] at h
              split at h
              · rename_i z hz
                obtain ⟨_,_,_,e1,e2⟩:=thawH_arr _ _ _ _ _ _ hz
                omega
              · have:=i1 q row h;omega
          · simp only [List.length_cons]
            simp only [encTy,entH] at h
            by_cases hq:q=128 *k+127
            · subst hq
              rw [upd_same] at h;cases h
              refine ⟨by omega, .inr (.inr ⟨ow,128 *k,cs,enc t x0,by simp only [entH];exact upd_same _ _ _,rfl,hsub,fun p t' e1 e2=>?_⟩)⟩
              obtain ⟨_,_,_,e3,e4⟩:=thawH_arr _ _ _ _ _ _ e2
              have hne:128 *k+p≠128 *k+127:=by omega
              simp only [entH,encTy]
              rw [upd_other _ _ _ _ hne,upd_other _ _ _ _ hne,thawH_or,thawH_or ow (128 *k) (entH ks (k+1) (encTup ats y)),e1,e2]
              refine ⟨?_,rfl⟩
              cases hr:entH ks (k+1) vs (128 *k+p) with
              | none=>rfl
              | some z=>have:=entH_ge ks (k+1) vs _ z hr;omega
            · rw [upd_other _ _ _ _ hq,thawH_or] at h
              split at h
              · rename_i z hz
                cases h
                obtain ⟨_,_,_,e1,e2⟩:=thawH_arr _ _ _ _ _ _ hz
                refine ⟨by omega,?_⟩
                have hz':=hz
                rw [show q=128 *k+(q - 128 *k) by omega] at hz'
                rcases thaw_rel ow (128 *k) cs (enc t x0) 0 _ _ hsub hz' with h5 | ⟨h5,h6⟩ <;> rw [show 128 *k+(q - 128 *k)=q by omega] at h5
                · left
                  simp only [entH]
                  rw [upd_other _ _ _ _ hq,thawH_or,h5]
                · right;left
                  refine ⟨?_,h6⟩
                  simp only [entH]
                  rw [upd_other _ _ _ _ hq,thawH_or,h5]
                  show entH ks (k+1) vs q=none
                  cases hr:entH ks (k+1) vs q with
                  | none=>rfl
                  | some z=>have:=entH_ge ks (k+1) vs _ z hr;omega
              · rename_i hz
                obtain ⟨j1,j2⟩:=i2 q row' h
                have hge:=entH_ge ks (k+1) _ q row' h
                have lift:∀ q',128 *(k+1)≤q'→entH (.ptr ow :: ks) k (.agg cs :: vs) q'=entH ks (k+1) vs q'∧entH (.ptr ow :: ks) k (.agg (enc t x0) :: encTup ats y) q'=entH ks (k+1) (encTup ats y) q':=fun q' hq'=>by
                  simp only [entH]
                  rw [upd_other _ _ _ _ (by omega),upd_other _ _ _ _ (by omega),thawH_or,thawH_or ow (128 *k) (entH ks (k+1) (encTup ats y)),thawH_none _ _ _ _ _ (by omega),thawH_none _ _ _ _ _ (by omega)]
                  exact ⟨rfl,rfl⟩
                obtain ⟨l1,l2⟩:=lift q (by omega)
                refine ⟨by omega,?_⟩
                rw [l1]
                rcases j2 with j2 | j2 | ⟨ow',B,cs',es',j2,j3,j4,j5⟩
                · exact .inl j2
                · exact .inr (.inl j2)
                · refine .inr (.inr ⟨ow',B,cs',es',j2,j3,j4,fun p t' e1 e2=>?_⟩)
                  obtain ⟨j6,j7⟩:=j5 p t' e1 e2
                  have:=entH_ge ks (k+1) _ _ _ j7
                  obtain ⟨l3,l4⟩:=lift (B+p) (by omega)
                  show entH (.ptr ow :: ks) k (.agg cs :: vs) (B+p)=none∧entH (.ptr ow :: ks) k (.agg (enc t x0) :: encTup ats y) (B+p)=_
                  rw [l3,l4];exact ⟨j6,j7⟩
        | _=>simp [ksOk] at hk
      | mv ow=>
        cases t with
        | v t=>
          simp only [ksOk,Bool.and_eq_true] at hk
          obtain ⟨⟨hag,hsz⟩,hk⟩:=hk
          have hsz:=Nat.le_of_ble_eq_true hsz
          simp only [decTy] at h1
          split at h1
          case h_2=>simp [hag] at h1
          rename_i cs
          simp only [hag,cond_true] at h1
          obtain ⟨i1,i2⟩:=ih ats vs y (k+1) hk h3
          have hsub:=dec_sub t h1
          have hle:(enc t x0).length=sz t:=enc_length t x0
          have hlc:cs.length=sz t:=by rw [hsub.len,hle]
          have hen:encTy (.v t) x0= .agg (enc t x0):=by simp only [encTy,encV,hag,cond_true]
          rw [hen]
          refine ⟨fun q row h=>?_,fun q row' h=>?_⟩
          · simp only [List.length_cons]
            simp only [entH] at h
            rw [thawH_or] at h
            split at h
            · rename_i z hz
              obtain ⟨_,_,_,e1,e2⟩:=thawH_arr _ _ _ _ _ _ hz
              omega
            · have:=i1 q row h;omega
          · simp only [List.length_cons]
            simp only [entH] at h
            rw [thawH_or] at h
            split at h
            · rename_i z hz
              cases h
              obtain ⟨_,_,_,e1,e2⟩:=thawH_arr _ _ _ _ _ _ hz
              refine ⟨by omega,?_⟩
              have hz':=hz
              rw [show q=128 *k+(q - 128 *k) by omega] at hz'
              rcases thaw_rel ow (128 *k) cs (enc t x0) 0 _ _ hsub hz' with h5 | ⟨h5,h6⟩ <;> rw [show 128 *k+(q - 128 *k)=q by omega] at h5
              · left
                simp only [entH]
                rw [thawH_or,h5]
              · right;left
                refine ⟨?_,h6⟩
                simp only [entH]
                rw [thawH_or,h5]
                show entH ks (k+1) vs q=none
                cases hr:entH ks (k+1) vs q with
                | none=>rfl
                | some z=>have:=entH_ge ks (k+1) vs _ z hr;omega
            · rename_i hz
              obtain ⟨j1,j2⟩:=i2 q row' h
              have hge:=entH_ge ks (k+1) _ q row' h
              have lift:∀ q',128 *(k+1)≤q'→entH (.mv ow :: ks) k (.agg cs :: vs) q'=entH ks (k+1) vs q'∧entH (.mv ow :: ks) k (.agg (enc t x0) :: encTup ats y) q'=entH ks (k+1) (encTup ats y) q':=fun q' hq'=>by
                simp only [entH]
                rw [thawH_or,thawH_or ow (128 *k) (entH ks (k+1) (encTup ats y)),thawH_none _ _ _ _ _ (by omega),thawH_none _ _ _ _ _ (by omega)]
                exact ⟨rfl,rfl⟩
              obtain ⟨l1,l2⟩:=lift q (by omega)
              refine ⟨by omega,?_⟩
              rw [l1]
              rcases j2 with j2 | j2 | ⟨ow',B,cs',es',j2,j3,j4,j5⟩
              · exact .inl j2
              · exact .inr (.inl j2)
              · refine .inr (.inr ⟨ow',B,cs',es',j2,j3,j4,fun p t' e1 e2=>?_⟩)
                obtain ⟨j6,j7⟩:=j5 p t' e1 e2
                have:=entH_ge ks (k+1) _ _ _ j7
                obtain ⟨l3,l4⟩:=lift (B+p) (by omega)
                rw [l3,l4];exact ⟨j6,j7⟩
        | _=>simp [ksOk] at hk
theorem ent_heap {ks:List ArgK} {ats:List Ty} {as:List V} {x:TyTup ats} (hks:ksOk ks ats=true) (hd:decTup ats as=some x) (hh:HRel w0 outer own ρ (entH ks 0 as) w) (hfr:∀ q,entH ks 0 as q=none→ρ q=none):
    ∃ ρ2,HRel w0 outer own ρ2 (entH ks 0 (encTup ats x)) w∧(∀ u d,VR w ρ (Bad outer ρ (entH ks 0 as)) u d→VR w ρ2 (Bad outer ρ2 (entH ks 0 (encTup ats x))) u d)∧
      (∀ q ri,ρ q=some ri→ρ2 q=some ri)∧(∀ q,128 *ks.length≤q→ρ2 q=none)∧∀ q row,entH ks 0 as q=none→entH ks 0 (encTup ats x) q=some row→ρ2 q=some ⟨0,0,0,true⟩:=by
  have hEE:∀ q row,entH ks 0 as q=none→entH ks 0 (encTup ats x) q=some row→ρ q=none:=fun q _ h _=>hfr q h
  obtain ⟨r1,r2⟩:=ent_rel ks ats as x 0 hks hd
  generalize hE:entH ks 0 as=h at *
  generalize hE2:entH ks 0 (encTup ats x)=h2 at *
  let ρ2:Nat→Option RI:=fun q=>match ρ q with
    | some ri=>some ri
    | none=>if (h2 q).isSome=true then some ⟨0,0,0,true⟩ else none
  have e1:∀ q ri,ρ q=some ri→ρ2 q=some ri:=fun q ri hq=>by simp only [ρ2,hq]
  have e2:∀ q row,ρ q=none→h2 q=some row→ρ2 q=some ⟨0,0,0,true⟩:=fun q row hq hr=>by simp only [ρ2,hq,hr];rfl
  have e3:∀ q,ρ q=none→h2 q=none→ρ2 q=none:=fun q hq hr=>by simp only [ρ2,hq,hr];rfl
  have hbad:∀ b,Bad outer ρ2 h2 b→Bad outer ρ h b:=by
    rintro b (hb | ⟨q,row,ri,f1,f2,f3,f4,f5⟩)
    · exact .inl hb
    · rcases (r2 q row f1).2 with g | ⟨g,_⟩ | ⟨ow,B,cs,es,g,_⟩
      · obtain ⟨ri',k1,_⟩:=hh.rows q _ g
        rw [e1 _ _ k1] at f3;cases f3
        exact .inr ⟨q,row,_,g,f2,k1,f4,f5⟩
      · rw [e2 q row (hfr q g) f1] at f3;cases f3;cases f4
      · obtain ⟨ri',k1,_⟩:=hh.rows q _ g
        rw [e1 _ _ k1] at f3;cases f3
        exact .inr ⟨q,_,_,g,rfl,k1,f4,f5⟩
  have hk:∀ u d,VR w ρ (Bad outer ρ h) u d→VR w ρ2 (Bad outer ρ2 h2) u d:=fun u d hu=>hu.mono e1 (fun _ _ _=>rfl) fun b hb=> .inl (hbad b hb)
  have hold:∀ q row' ri,h2 q=some row'→ρ2 q=some ri→ri.nl=false→∃ row,h q=some row∧ρ q=some ri:=fun q row' ri f1 f3 f4=>by
    rcases (r2 q row' f1).2 with g | ⟨g,_⟩ | ⟨ow,B,cs,es,g,_⟩
    · obtain ⟨ri',k1,_⟩:=hh.rows q _ g
      rw [e1 _ _ k1] at f3;cases f3
      exact ⟨_,g,k1⟩
    · rw [e2 q row' (hfr q g) f1] at f3;cases f3;cases f4
    · obtain ⟨ri',k1,_⟩:=hh.rows q _ g
      rw [e1 _ _ k1] at f3;cases f3
      exact ⟨_,g,k1⟩
  refine ⟨ρ2,⟨hh.wx,hh.old,hh.outLt,fun r row' hr=>?_,fun q q' row row' qi qi' h1 h2 h3 h4 h5 h6 h7=>?_⟩,hk,e1,fun q hq=>?_,fun q row h1 h2=>e2 q row (hfr q h1) h2⟩
  · rcases (r2 r row' hr).2 with g | ⟨g,t,rfl⟩ | ⟨ow,B,cs,es,g,rfl,g2,g3⟩
    · obtain ⟨ri,k1,k2,k3⟩:=hh.rows r _ g
      exact ⟨ri,e1 _ _ k1,k2.keep (fun _=>rfl) hk,k3⟩
    · exact ⟨⟨0,0,0,true⟩,e2 r _ (hfr r g) hr,⟨rfl, .inl ⟨rfl,rfl⟩⟩,fun hn=>by cases hn⟩
    · obtain ⟨ri,k1,k2,k3⟩:=hh.rows r _ g
      refine ⟨ri,e1 _ _ k1,⟨k2.1,fun j hj=>?_⟩,k3⟩
      have hl:(thawL ow B 0 es).length=(thawL ow B 0 cs).length:=by rw [thawL_len,thawL_len,g2.len]
      obtain ⟨f1,u,f2,f3⟩:=k2.2 j (by rw [← hl];exact hj)
      refine ⟨f1,u,f2,?_⟩
      have:=thaw_vals (w:=w) (ρ:=ρ) ow B hk cs es 0 (fun j=>(w.cell? (at_ ri.b j)).getD undef) g2 (fun q t _ h5 h6=>by
        obtain ⟨g4,g5⟩:=g3 q t h5 h6
        exact e2 _ _ (hfr _ g4) g5) (fun j hj=>by
        obtain ⟨_,u,f2,f3⟩:=k2.2 j hj
        rw [f2];exact f3) j hj
      rw [f2] at this;exact this
  · obtain ⟨_,g1,g2⟩:=hold _ _ _ h1 h3 h5
    obtain ⟨_,g3,g4⟩:=hold _ _ _ h2 h4 h6
    exact hh.inj q q' _ _ qi qi' g1 g3 g2 g4 h5 h6 h7
  · refine e3 q (hfr q ?_) ?_
    · cases hq2:h q with
      | none=>rfl
      | some row=>have:=r1 q row hq2;omega
    · cases hq2:h2 q with
      | none=>rfl
      | some row=>have:=(r2 q row hq2).1;omega
end
end Go.D
namespace Go.D
section
variable {C:Cx} {w0:World} {outer own D:Nat→Prop} {R:Type} {st st1 st2:St} {ρ ρ1 ρ2:Nat→Option RI} {a a1 a2:Act} {w w1 w2:World} {j:JI}
theorem getD_app1 {α:Type} (l m:List α) (i:Nat) (d:α) (h:i<l.length):(l++m).getD i d=l.getD i d:=by
  rw [List.getD_eq_getElem?_getD,List.getD_eq_getElem?_getD,List.getElem?_append_left h]
theorem getD_app2 {α:Type} (l m:List α) (i:Nat) (d:α) (h:l.length≤i):(l++m).getD i d=m.getD (i - l.length) d:=by
  rw [List.getD_eq_getElem?_getD,List.getD_eq_getElem?_getD,List.getElem?_append_right h]
inductive ResOk:List (Bool × Nat)→List Value→List Value→Prop
  | nil:ResOk [] [] []
  | agg {n:Nat} {sh:List (Bool × Nat)} {rv cells:List Value} (vs:Array Value) (h:vs.size=n) (hr:ResOk sh rv cells):ResOk ((true,n) :: sh) (.agg vs :: rv) (vs.toList++cells)
  | one {sh:List (Bool × Nat)} {rv cells:List Value} (v:Value) (hr:ResOk sh rv cells):ResOk ((false,1) :: sh) (v :: rv) (v :: cells)
theorem ResOk.len {sh:List (Bool × Nat)} {rv cells:List Value} (h:ResOk sh rv cells):shapeLen sh=cells.length∧rv.length=sh.length:=by
  induction h with
  | nil=>exact ⟨rfl,rfl⟩
  | agg vs h hr ih=>simp only [shapeLen,List.map_cons,List.sum_cons,List.length_append,Array.length_toList,List.length_cons] at ih ⊢;omega
  | one v hr ih=>simp only [shapeLen,List.map_cons,List.sum_cons,List.length_cons] at ih ⊢;omega
theorem packs_ok {bad:Nat→Prop} {sh:List (Bool × Nat)} {rv cells:List Value} (h:ResOk sh rv cells):∀ X:List V,cells.length≤X.length→(∀ j (hj:j<X.length),j<cells.length→VR w ρ bad (cells.getD j undef) X[j])→
    (packs sh X).length=rv.length∧∀ i (hi:i<(packs sh X).length),VR w ρ bad (rv.getD i undef) (packs sh X)[i]:=by
  induction h with
  | nil=>intro X _ _;exact ⟨rfl,fun i hi=>by simp [packs] at hi⟩
  | agg vs hsz hr ih=>
    rename_i n sh rv cells
    intro X hX hv
    simp only [List.length_append,Array.length_toList] at hX
    obtain ⟨h1,h2⟩:=ih (X.drop n) (by simp;omega) (fun j hj hj2=>by
      have:=hv (n+j) (by simp at hj;omega) (by simp;omega)
      rw [List.getElem_drop]
      rw [getD_app2 _ _ _ _ (by simp;omega)] at this
      simpa [hsz] using this)
    refine ⟨by simp [packs,h1],fun i hi=>?_⟩
    cases i with
    | zero=>
      show VR w ρ bad (.agg vs) (.agg (X.take n))
      refine .agg _ _ (by simp;omega) fun j hj=>?_
      have hjn:j<n:=by simp at hj;omega
      have:=hv j (by simp at hj;omega) (by simp;omega)
      rw [getD_app1 _ _ _ _ (by simp;omega)] at this
      rw [List.getElem_take]
      rw [Array.getD_eq_getD_getElem?];rw [List.getD_eq_getElem?_getD] at this
      simpa using this
    | succ i=>exact h2 i (by simpa [packs] using hi)
  | one v hr ih=>
    rename_i sh rv cells
    intro X hX hv
    cases X with
    | nil=>simp at hX
    | cons x X=>
      simp only [List.length_cons] at hX
      obtain ⟨h1,h2⟩:=ih X (by omega) (fun j hj hj2=>hv (j+1) (by simp;omega) (by simp;omega))
      refine ⟨by simp [packs,h1],fun i hi=>?_⟩
      cases i with
      | zero=>exact hv 0 (by simp) (by simp)
      | succ i=>exact h2 i (by simpa [packs] using hi)
theorem pack_one {sh:List (Bool × Nat)} {X:List V} {v:V} (h:packs sh X=[v]):pack sh X=v:=by simp [pack,h]
theorem pack_many {sh:List (Bool × Nat)} {X:List V} (h:∀ v,packs sh X≠[v]):pack sh X= .tup (packs sh X):=by
  unfold pack
  split
  · rename_i v hv;exact absurd hv (h v)
  · rfl
theorem pack_ok {bad:Nat→Prop} {sh:List (Bool × Nat)} {rv cells:List Value} (h:ResOk sh rv cells) {X:List V} (hX:cells.length≤X.length) (hv:∀ j (hj:j<X.length),j<cells.length→VR w ρ bad (cells.getD j undef) X[j]):
    VR w ρ bad (if h:rv.toArray.size=1 then rv.toArray[0] else .tuple rv.toArray) (pack sh X):=by
  obtain ⟨h1,h2⟩:=packs_ok h X hX hv
  by_cases hY:∃ v,packs sh X=[v]
  · obtain ⟨v,hY⟩:=hY
    rw [pack_one hY]
    rw [hY] at h1
    have hl:rv.toArray.size=1:=by simpa using h1.symm
    rw [dif_pos hl]
    have h3:=h2 0 (by rw [hY];simp)
    simp only [hY,List.getElem_cons_zero] at h3
    rw [List.getD_eq_getElem?_getD,List.getElem?_eq_getElem (by simp at hl;omega)] at h3
    simpa using h3
  · have hl:¬ rv.toArray.size=1:=fun hl=>by
      have hl2:(packs sh X).length=1:=by rw [h1];simpa using hl
      exact hY (List.length_eq_one_iff.1 hl2)
    rw [dif_neg hl,pack_many fun v hv=>hY ⟨v,hv⟩]
    refine .tup _ _ (by simp [h1]) fun i hi=>?_
    have:=h2 i hi
    rw [Array.getD_eq_getD_getElem?];rw [List.getD_eq_getElem?_getD] at this
    simpa using this
theorem mapM_run {α β:Type} {P:Program} {w:World} (f:α→Sem β):∀ (l:List α) (r:List β),l.length=r.length→(∀ i (hi:i<l.length) (hr:i<r.length),(f l[i]).run P w= .ok r[i] w)→(l.mapM f).run P w= .ok r w
  | [],[],_,_=>by simp
  | [],_ :: _,h,_=>by simp at h
  | _ :: _,[],h,_=>by simp at h
  | x :: l,y :: r,h,hf=>by
    have h0:=hf 0 (by simp) (by simp)
    simp only [List.getElem_cons_zero] at h0
    have h1:=mapM_run f l r (by simpa using h) (fun i hi hr=>hf (i+1) (by simp;omega) (by simp;omega))
    simp [List.mapM_cons,h0,h1,Result.andThen]
def resSem (tmps:Array Value):ResultVar→Sem Value
  | .tmp t=>pure (tmps.getD t undef)
  | .cell x t=>do loadVar t (← asAddr (tmps.getD x undef))
theorem res_ok (hr:Rel C w0 outer own ρ st a w):∀ (rs:List ResultVar) (sh:List (Bool × Nat)) (vs:List V),resLeaves C.P st rs sh=some vs→
    ∃ rv cells,ResOk sh rv cells∧rs.length=rv.length∧cells.length=vs.length∧(∀ j (hj:j<vs.length),VR w ρ (Bad outer ρ st.h) (cells.getD j undef) vs[j])∧
      ∀ i (hi:i<rs.length) (h2:i<rv.length),(resSem a.tmps rs[i]).run C.P w= .ok rv[i] w
  | [],[],vs,h=>by
    simp only [resLeaves,Option.some.injEq] at h;subst h
    exact ⟨[],[], .nil,rfl,rfl,fun j hj=>by simp at hj,fun i hi=>by simp at hi⟩
  | [],_ :: _,vs,h=>by simp [resLeaves] at h
  | .tmp t :: _,[],vs,h=>by simp [resLeaves] at h
  | .cell .. :: _,[],vs,h=>by simp [resLeaves] at h
  | .tmp t :: rs,(ag,n) :: sh,vs,h=>by
    simp only [resLeaves] at h
    have hv:=hr.slots t
    split at h
    · rename_i cs us hs hrs
      cases hb:(ag&&Nat.beq n cs.length)
      case false=>simp [hb] at h
      simp only [hb,cond_true,Option.some.injEq] at h
      subst h
      simp only [Bool.and_eq_true] at hb
      obtain ⟨rfl,hn⟩:=hb
      have hn:=Nat.eq_of_beq_eq_true hn
      obtain ⟨rv,cells,h1,h2,h3,h4,h5⟩:=res_ok hr rs sh us hrs
      rw [hs] at hv
      generalize hA:a.tmps.getD t undef=A at hv
      cases hv with
      | agg _ vs hsz hvs=>
      refine ⟨.agg vs :: rv,vs.toList++cells, .agg vs (by omega) h1,by simp [h2],by simp [h3,hsz],fun j hj=>?_,fun i hi hi2=>?_⟩
      · by_cases hj1:j<cs.length
        · rw [List.getElem_append_left hj1,getD_app1 _ _ _ _ (by simp;omega)]
          have:=hvs j hj1
          rw [Array.getD_eq_getD_getElem?] at this;rw [List.getD_eq_getElem?_getD]
          simpa using this
        · have hj2:j - cs.length<us.length:=by simp at hj;omega
          rw [List.getElem_append_right (by omega),getD_app2 _ _ _ _ (by simp;omega)]
          have:=h4 _ hj2
          simpa [hsz] using this
      · cases i with
        | zero=>simp only [List.getElem_cons_zero,resSem,hA];rfl
        | succ i=>exact h5 i (by simpa using hi) (by simpa using hi2)
    · rename_i us hrs hno
      cases hb:(!ag&&Nat.beq n 1&&(st.s t).leaf)
      case false=>simp [hb] at h
      simp only [hb,cond_true,Option.some.injEq] at h
      subst h
      simp only [Bool.and_eq_true,Bool.not_eq_true'] at hb
      obtain ⟨⟨rfl,hn⟩,hlf⟩:=hb
      have hn:=Nat.eq_of_beq_eq_true hn
      subst hn
      obtain ⟨rv,cells,h1,h2,h3,h4,h5⟩:=res_ok hr rs sh us hrs
      refine ⟨a.tmps.getD t undef :: rv,a.tmps.getD t undef :: cells, .one _ h1,by simp [h2],by simp [h3],fun j hj=>?_,fun i hi hi2=>?_⟩
      · cases j with
        | zero=>exact hv
        | succ j=>exact h4 j (by simpa using hj)
      · cases i with
        | zero=>rfl
        | succ i=>exact h5 i (by simpa using hi) (by simpa using hi2)
    · cases h
  | .cell x t :: rs,(ag,n) :: sh,vs,h=>by
    simp only [resLeaves] at h
    have hv:=hr.slots x
    split at h
    case h_2=>cases h
    rename_i b us ag' n' hs hrs hag hsz
    split at h
    case h_2=>cases h
    rename_i cs m hrow
    cases hb:((ag==ag')&&Nat.beq n n'&&Nat.beq n cs.length&&(ag||Nat.beq n 1))
    case false=>simp [hb] at h
    simp only [hb,cond_true,Option.some.injEq] at h
    subst h
    simp only [Bool.and_eq_true,beq_iff_eq] at hb
    obtain ⟨⟨⟨rfl,h1⟩,h2⟩,h3⟩:=hb
    have h1:=Nat.eq_of_beq_eq_true h1
    have h2:=Nat.eq_of_beq_eq_true h2
    subst h1
    obtain ⟨rv,cells,k1,k2,k3,k4,k5⟩:=res_ok hr rs sh us hrs
    rw [hs] at hv
    obtain ⟨ri,hρ,hro,_⟩:=hr.heap.rows _ _ hrow
    obtain ⟨e1,e2⟩:=bp_cells hρ hro hv
    have hlt:loadCells ag n cs 0 some=some (if ag then .agg cs else cs.getD 0 .undef):=by
      unfold loadCells
      cases ag with
      | true=>
        have:Nat.ble (0+n) cs.length=true:=Nat.ble_eq_true_of_le (by omega)
        simp only [gd_true,this,if_true,List.drop_zero]
        rw [List.take_of_length_le (by omega)]
      | false=>
        simp only [Bool.false_or] at h3
        have:=Nat.eq_of_beq_eq_true h3
        match cs,h2 with
        | [c],_=>rfl
        | [],h2=>simp at h2;omega
        | _ :: _ :: _,h2=>simp at h2;omega
    obtain ⟨d,v,g1,g2,g3⟩:=load_ok (K:=some) hag hsz e2 hlt
    have g1:d=if ag then V.agg cs else cs.getD 0 .undef:=Option.some.inj g1
    subst g1
    have hrun:(resSem a.tmps (.cell x t)).run C.P w= .ok v w:=by
      simp only [resSem,e1,asAddr,Sem.run_bind,Sem.run_pure,Result.andThen_ok]
      exact g3
    cases ag with
    | true=>
      simp only [if_true] at g2
      cases g2 with
      | agg _ vs hsz2 hvs=>
      refine ⟨.agg vs :: rv,vs.toList++cells, .agg vs (by omega) k1,by simp [k2],by simp [k3,hsz2],fun j hj=>?_,fun i hi hi2=>?_⟩
      · by_cases hj1:j<cs.length
        · rw [List.getElem_append_left hj1,getD_app1 _ _ _ _ (by simp;omega)]
          have:=hvs j hj1
          rw [Array.getD_eq_getD_getElem?] at this;rw [List.getD_eq_getElem?_getD]
          simpa using this
        · have hj2:j - cs.length<us.length:=by simp at hj;omega
          rw [List.getElem_append_right (by omega),getD_app2 _ _ _ _ (by simp;omega)]
          have:=k4 _ hj2
          simpa [hsz2] using this
      · cases i with
        | zero=>exact hrun
        | succ i=>exact k5 i (by simpa using hi) (by simpa using hi2)
    | false=>
      simp only [Bool.false_or] at h3
      have h3:=Nat.eq_of_beq_eq_true h3
      subst h3
      match cs,h2 with
      | [c],_=>
        simp only [Bool.false_eq_true,if_false] at g2
        refine ⟨v :: rv,v :: cells, .one v k1,by simp [k2],by simp [k3],fun j hj=>?_,fun i hi hi2=>?_⟩
        · cases j with
          | zero=>exact g2
          | succ j=>exact k4 j (by simpa using hj)
        · cases i with
          | zero=>exact hrun
          | succ i=>exact k5 i (by simpa using hi) (by simpa using hi2)
      | [],h2=>simp at h2
      | _ :: _ :: _,h2=>simp at h2
theorem results_ok (hr:Rel C w0 outer own ρ st a w) {fn:Func} {sh:List (Bool × Nat)} {vs:List V} (h:resLeaves C.P st fn.results.toList sh=some vs):
    ∃ rv cells,ResOk sh rv cells∧cells.length=vs.length∧(∀ j (hj:j<vs.length),VR w ρ (Bad outer ρ st.h) (cells.getD j undef) vs[j])∧
      (results fn a.tmps).run C.P w= .ok (if h:rv.toArray.size=1 then rv.toArray[0] else .tuple rv.toArray) w:=by
  obtain ⟨rv,cells,h1,h2,h3,h4,h5⟩:=res_ok hr _ _ _ h
  refine ⟨rv,cells,h1,h3,h4,?_⟩
  have:=mapM_run (P:=C.P) (w:=w) (resSem a.tmps) fn.results.toList rv h2 h5
  show ((do let vs ← fn.results.mapM (resSem a.tmps);pure (if h:vs.size=1 then vs[0] else .tuple vs)):Sem Value).run C.P w=_
  rw [Array.mapM_eq_mapM_toList]
  simp only [Sem.run_bind,Sem.run_map,this,Result.andThen_ok,Sem.run_pure]
end
end Go.D
namespace Go.D
inductive Bd:V→Prop where
  | undef:Bd .undef
  | bool (b:Bool):Bd (.bool b)
  | int (k:IntKind) (n:Int) (h:Fits k n):Bd (.int k n)
  | str (s:List UInt8) (h:s.length≤maxLen):Bd (.str s)
  | nil:Bd .nil
  | sl (t:TN) (l:List (El t)) (h:l.length≤maxLen) (hv:∀ i (h:i<l.length) j,j<sz t→Bd ((enc t l[i]).getD j .undef)):Bd (.sl t l)
  | ow (r:Nat):Bd (.ow r)
  | ov (r:Nat) (t:TN) (off len:Nat):Bd (.ov r t off len)
  | bp (r off:Nat):Bd (.bp r off)
  | ep (r:Nat) (t:TN) (i off:Nat):Bd (.ep r t i off)
  | fp (cs:List V) (off:Nat) (h:∀ j (h:j<cs.length),Bd cs[j]):Bd (.fp cs off)
  | fn (f:Nat) (cs:List V) (h:∀ j (h:j<cs.length),Bd cs[j]):Bd (.fn f cs)
  | agg (cs:List V) (h:∀ j (h:j<cs.length),Bd cs[j]):Bd (.agg cs)
  | tup (cs:List V) (h:∀ j (h:j<cs.length),Bd cs[j]):Bd (.tup cs)
  | nili:Bd .nili
  | ifc (b:Bool):Bd (.ifc b)
section
variable {w:World} {ρ:Nat→Option RI} {bad:Nat→Prop} {v:Value} {d:V}
theorem VR.bd (h:VR w ρ bad v d):Bd d:=by
  induction h with
  | undef=>exact .undef
  | bool=>exact .bool _
  | int _ _ h=>exact .int _ _ h
  | str _ h=>exact .str _ h
  | nil=>exact .nil
  | slE=>exact .sl _ _ (Nat.zero_le _) (fun i h=>by simp at h)
  | slC t l b off cap u hb hl hc hu hv ih=>exact .sl _ _ (Nat.le_trans hl hc) ih
  | ow=>exact .ow _
  | owN=>exact .ow _
  | ov=>exact .ov _ _ _ _
  | bp=>exact .bp _ _
  | ep=>exact .ep _ _ _ _
  | fp cs off b o u h0 hb hu hv ih=>exact .fp _ _ ih
  | fn f cs caps hs hv ih=>exact .fn _ _ ih
  | agg cs vs hs hv ih=>exact .agg _ ih
  | tup cs vs hs hv ih=>exact .tup _ ih
  | nili=>exact .nili
  | ifc=>exact .ifc _
  | ifn=>exact .ifc _
def bdx (t:TN) (x:El t):Prop:=∀ j,j<sz t→Bd ((enc t x).getD j .undef)
def bdl (t:TN) (l:List (El t)):Prop:=l.length≤maxLen∧∀ x ∈ l,bdx t x
theorem Bd.list {t:TN} {l:List (El t)} (h:Bd (.sl t l)):bdl t l:=by
  cases h with
  | sl _ _ h hv=>
    refine ⟨h,fun x hx j hj=>?_⟩
    obtain ⟨i,hi,rfl⟩:=List.mem_iff_getElem.1 hx
    exact hv i hi j hj
theorem Bd.len {s:List UInt8} (h:Bd (.str s)):s.length≤maxLen:=by cases h;assumption
theorem Bd.fits {k:IntKind} {n:Int} (h:Bd (.int k n)):Fits k n:=by cases h;assumption
theorem enc_one (t:TN) (h:t.isAgg=false) (x:El t):∃ c,enc t x=[c]:=by cases t <;> first | exact ⟨_,rfl⟩ | simp [TN.isAgg] at h
def bdTy:(t:Ty)→t.T→Prop
  | .v t,x=>bdx t x
  | .sl t,l=>bdl t l
  | .raw,v=>Bd v
  | .cells t,x=>bdx t x
  | .pt t,x=>bdx t x
  | .c1 _ t,x=>bdx t x
  | .p1 _ t,x=>bdx t x
  | .c2 _ _ t,x=>bdx t x.1∧bdx t x.2
theorem bd_fp {t:TN} {x:El t} (h:Bd (.fp (enc t x) 0)):bdx t x:=fun j hj=>by
  have hj2:j<(enc t x).length:=by rw [enc_length];exact hj
  rw [List.getD_eq_getElem?_getD,List.getElem?_eq_getElem hj2]
  cases h with
  | fp _ _ h=>exact h j hj2
theorem bd_fn1 {g:Nat} {c:V} {r:List V} (h:Bd (.fn g (c :: r))):Bd c:=by
  cases h with
  | fn _ _ h=>exact h 0 (by simp)
theorem bd_fn2 {g:Nat} {c d:V} (h:Bd (.fn g [c,d])):Bd d:=by
  cases h with
  | fn _ _ h=>exact h 1 (by simp)
theorem bd_fp1 {c:V} (h:Bd (.fp [c] 0)):Bd c:=by
  cases h with
  | fp _ _ h=>exact h 0 (by simp)
def bdTup:(ts:List Ty)→TyTup ts→Prop
  | [],_=>True
  | [t],x=>bdTy t x
  | t :: d :: r,x=>bdTy t x.1∧bdTup (d :: r) x.2
theorem bdTy_of {t:Ty} {x:t.T} (h:Bd (encTy t x)):bdTy t x:=by
  cases t with
  | v t=>
    intro j hj
    simp only [encTy,encV] at h
    have hj2:j<(enc t x).length:=by rw [enc_length];exact hj
    cases hag:t.isAgg
    · simp only [hag,cond_false] at h
      have hsz:sz t=1:=by cases t <;> first | rfl | simp [TN.isAgg] at hag
      obtain ⟨c,hc⟩:=enc_one t hag x
      simp only [hc] at h ⊢
      have:j=0:=by omega
      subst this
      exact h
    · simp only [hag,cond_true] at h
      rw [List.getD_eq_getElem?_getD,List.getElem?_eq_getElem hj2]
      cases h with
      | agg _ h=>exact h j hj2
  | sl t=>exact Bd.list h
  | raw=>exact h
  | cells t=>
    intro j hj
    have hj2:j<(enc t x).length:=by rw [enc_length];exact hj
    rw [List.getD_eq_getElem?_getD,List.getElem?_eq_getElem hj2]
    cases h with
    | agg _ h=>exact h j hj2
  | pt t=>exact bd_fp h
  | c1 g t=>exact bd_fp (bd_fn1 h)
  | p1 g t=>exact bd_fp (bd_fn1 (bd_fp1 h))
  | c2 g h' t=>exact ⟨bd_fp (bd_fn1 (bd_fp1 (bd_fn1 h))),bd_fp (bd_fn2 h)⟩
theorem bdTup_of:∀ (ts:List Ty) (x:TyTup ts),(∀ v ∈ encTup ts x,Bd v)→bdTup ts x
  | [],x,h=>trivial
  | [t],x,h=>bdTy_of (h _ (by simp [encTup]))
  | t :: d :: r,x,h=>⟨bdTy_of (h _ (by simp [encTup])),bdTup_of (d :: r) x.2 fun v hv=>h v (by simp [encTup,hv])⟩
theorem enc_split {t:Ty} {ats:List Ty} (x:TyTup (t :: ats)):∃ (x0:t.T) (y:TyTup ats),encTup (t :: ats) x=encTy t x0 :: encTup ats y:=by
  cases ats with
  | nil=>exact ⟨x,(),rfl⟩
  | cons d r=>exact ⟨x.1,x.2,rfl⟩
theorem bd_row {outer own:Nat→Prop} {w0:World} {h:Nat→Option Row} (hh:HRel w0 outer own ρ h w) {r:Nat} {t:TN} {l:List (El t)} {m:Mode} (hr:h r=some ⟨.arr t l,m⟩):Bd (.sl t l):=by
  obtain ⟨ri,_,⟨hn,ho⟩,_⟩:=hh.rows r _ hr
  rcases ho with ⟨_,rfl⟩ | ⟨_,h1,h2,_,h3⟩
  · exact .sl _ _ (Nat.zero_le _) fun i h=>by simp at h
  · refine .sl _ _ (by omega) fun i hi j hj=>?_
    obtain ⟨u,_,h4⟩:=h3 i hi j hj
    exact h4.bd
theorem thaw_bd (ow:List Nat) (B:Nat):∀ (es:List V) (p:Nat),(∀ j (hj:j<(thawL ow B p es).length),Bd (thawL ow B p es)[j])→(∀ q t l,thawH ow B (fun _=>none) p es q=some ⟨.arr t l, .own⟩→Bd (.sl t l))→∀ j (hj:j<es.length),Bd es[j]
  | [],p,hv,hr,j,hj=>by simp at hj
  | e :: es,p,hv,hr,j,hj=>by
    have hd:∃ e',thawL ow B p (e :: es)=e' :: thawL ow B (p+1) es:=by cases e <;> exact ⟨_,rfl⟩
    obtain ⟨e',he'⟩:=hd
    have hv':∀ j (hj:j<(e' :: thawL ow B (p+1) es).length),Bd (e' :: thawL ow B (p+1) es)[j]:=fun j hj=>by
      have:=hv j (by rw [he'];exact hj)
      simpa only [he'] using this
    cases j with
    | succ j=>
      refine thaw_bd ow B es (p+1) (fun j hj=>by have:=hv' (j+1) (by simp;omega);simpa using this) (fun q t l hq=>?_) j (by simpa using hj)
      obtain ⟨_,_,_,h1,_⟩:=thawH_arr _ _ _ _ _ _ hq
      refine hr q t l ?_
      have:=thawH_tail ow B e es p (q - B) (by omega)
      rw [show B+(q - B)=q by omega] at this
      rw [this];exact hq
    | zero=>
      have h0:=hv' 0 (by simp)
      simp only [List.getElem_cons_zero] at h0 ⊢
      have h1:=congrArg List.head? he'
      cases e <;> simp only [thawL,List.head?_cons,Option.some.injEq] at h1 <;> try (subst h1;exact h0)
      rename_i t l
      cases hb:ow.any (Nat.beq p)
      · simp only [hb,cond_false] at h1;subst h1;exact h0
      · exact hr (B+p) t l (by simp only [thawH,hb,cond_true,upd_same])
theorem ent_bd {outer own:Nat→Prop} {w0:World} {h:Nat→Option Row} (hh:HRel w0 outer own ρ h w):∀ (ks:List ArgK) (ats:List Ty) (x:TyTup ats) (k:Nat) (u:Nat→Value),ksOk ks ats=true→
    (∀ q row,entH ks k (encTup ats x) q=some row→h q=some row)→
    (∀ j (hj:j<(entS ks k (encTup ats x)).length),VR w ρ (Bad outer ρ h) (u j) (entS ks k (encTup ats x))[j])→∀ v ∈ encTup ats x,Bd v:=by
  intro ks
  induction ks with
  | nil=>
    intro ats x k u hk hE hS v hv
    cases ats with
    | nil=>simp [encTup] at hv
    | cons=>simp [ksOk] at hk
  | cons g ks ih=>
    intro ats x k u hk hE hS v hv
    cases ats with
    | nil=>cases g <;> simp [ksOk] at hk
    | cons t ats=>
      obtain ⟨x0,y,he⟩:=enc_split x
      rw [he] at hE hS hv
      cases g with
      | plain=>
        simp only [ksOk] at hk
        rcases List.mem_cons.1 hv with rfl | hv
        · exact (hS 0 (by simp [entS])).bd
        · exact ih ats y (k+1) (fun j=>u (j+1)) hk (fun q row hq=>hE q row (by simpa only [entH] using hq)) (fun j hj=>hS (j+1) (by simp [entS];omega)) v hv
      | mv ow=>
        cases t with
        | v t=>
          simp only [ksOk,Bool.and_eq_true] at hk
          obtain ⟨⟨hag,hsz⟩,hk⟩:=hk
          have hsz:=Nat.le_of_ble_eq_true hsz
          have hen:encTy (.v t) x0= .agg (enc t x0):=by simp only [encTy,encV,hag,cond_true]
          rw [hen] at hE hS hv
          have hle:(enc t x0).length=sz t:=enc_length t x0
          rcases List.mem_cons.1 hv with rfl | hv
          · have h0:=hS 0 (by simp [entS])
            simp only [entS,List.getElem_cons_zero] at h0
            generalize u 0=u0 at h0
            cases h0 with
            | agg _ vsA hs hvs=>
            refine .agg _ (thaw_bd ow (128 *k) _ 0 (fun j hj=>(hvs j hj).bd) fun q t' l hq=>?_)
            obtain ⟨_,_,_,e1,e2⟩:=thawH_arr _ _ _ _ _ _ hq
            refine bd_row hh (hE q ⟨.arr t' l, .own⟩ ?_)
            simp only [entH]
            rw [thawH_or,hq]
          · refine ih ats y (k+1) (fun j=>u (j+1)) hk (fun q row hq=>hE q row ?_) (fun j hj=>hS (j+1) (by simp [entS];omega)) v hv
            have hge:=entH_ge ks (k+1) _ q row hq
            simp only [entH]
            rw [thawH_or,thawH_none _ _ _ _ _ (by omega)];exact hq
        | _=>simp [ksOk] at hk
      | ptr ow=>
        cases t with
        | cells t=>
          simp only [ksOk,Bool.and_eq_true] at hk
          obtain ⟨hsz,hk⟩:=hk
          have hsz:=Nat.le_of_ble_eq_true hsz
          simp only [encTy] at hE hS hv
          have hle:(enc t x0).length=sz t:=enc_length t x0
          have hrow:=hE (128 *k+127) _ (by simp only [entH];exact upd_same _ _ _)
          rcases List.mem_cons.1 hv with rfl | hv
          · obtain ⟨ri,_,hro,_⟩:=hh.rows _ _ hrow
            refine .agg _ (thaw_bd ow (128 *k) _ 0 (fun j hj=>?_) fun q t' l hq=>?_)
            · obtain ⟨_,x,_,h2⟩:=hro.2 j hj
              exact h2.bd
            · obtain ⟨_,_,_,e1,e2⟩:=thawH_arr _ _ _ _ _ _ hq
              refine bd_row hh (hE q ⟨.arr t' l, .own⟩ ?_)
              simp only [entH]
              rw [upd_other _ _ _ _ (by omega),thawH_or,hq]
          · refine ih ats y (k+1) (fun j=>u (j+1)) hk (fun q row hq=>hE q row ?_) (fun j hj=>hS (j+1) (by simp [entS];omega)) v hv
            have hge:=entH_ge ks (k+1) _ q row hq
            simp only [entH]
            rw [upd_other _ _ _ _ (by omega),thawH_or,thawH_none _ _ _ _ _ (by omega)];exact hq
        | _=>simp [ksOk] at hk
end
end Go.D
namespace Go.D
section
variable {C:Cx} {w0:World} {outer own D:Nat→Prop} {R:Type} {st st1 st2:St} {ρ ρ1 ρ2:Nat→Option RI} {a a1 a2:Act} {w w1 w2:World} {j:JI}
theorem tup_split {t:Ty} {ats:List Ty} {as:List V} {x:TyTup (t :: ats)} (hd:decTup (t :: ats) as=some x):
    ∃ v vs y,as=v :: vs∧∃ (x0:t.T),decTy t v=some x0∧decTup ats vs=some y∧encTup (t :: ats) x=encTy t x0 :: encTup ats y:=by
  cases ats with
  | nil=>
    cases as with
    | nil=>simp [decTup] at hd
    | cons v vs=>
      cases vs with
      | nil=>exact ⟨v,[],(),rfl,x,by simpa [decTup] using hd,rfl,rfl⟩
      | cons=>simp [decTup] at hd
  | cons d r=>
    cases as with
    | nil=>simp [decTup] at hd
    | cons v vs=>
      simp only [decTup] at hd
      obtain ⟨x0,h1,h2⟩:=Option.bind_eq_some_iff.1 hd
      obtain ⟨y,h3,h4⟩:=Option.bind_eq_some_iff.1 h2
      cases h4
      exact ⟨v,vs,y,rfl,x0,h1,h3,rfl⟩
theorem putBoxes_enc:∀ (ks:List ArgK) (ats:List Ty) (as:List V) (x:TyTup ats) (k:Nat),ksOk ks ats=true→decTup ats as=some x→
    (∀ bs vs h,putBoxes ks (encTup ats x) bs vs h=putBoxes ks as bs vs h)∧∀ bs q b,boxOf ks k bs q=some b→∃ row,entH ks k as q=some row:=by
  intro ks
  induction ks with
  | nil=>
    intro ats as x k hk hd
    cases ats with
    | nil=>cases as with
      | nil=>exact ⟨fun _ _ _=>rfl,fun bs q b h=>by simp [boxOf] at h⟩
      | cons=>simp [decTup] at hd
    | cons=>simp [ksOk] at hk
  | cons g ks ih=>
    intro ats as x k hk hd
    cases ats with
    | nil=>cases g <;> simp [ksOk] at hk
    | cons t ats=>
      obtain ⟨v,vs,y,rfl,x0,h1,h3,h4⟩:=tup_split hd
      rw [h4]
      cases g with
      | plain=>
        simp only [ksOk] at hk
        obtain ⟨e1,e2⟩:=ih ats vs y (k+1) hk h3
        exact ⟨fun bs ws h=>e1 bs ws h,fun bs q b h=>by simp only [boxOf] at h;exact e2 bs q b h⟩
      | mv ow=>
        cases t with
        | v t=>
          simp only [ksOk,Bool.and_eq_true] at hk
          obtain ⟨⟨hag,hsz⟩,hk⟩:=hk
          have hsz:=Nat.le_of_ble_eq_true hsz
          obtain ⟨e1,e2⟩:=ih ats vs y (k+1) hk h3
          simp only [decTy] at h1
          split at h1
          case h_2=>simp [hag] at h1
          rename_i cs
          simp only [hag,cond_true] at h1
          have hle:(enc t x0).length=sz t:=enc_length t x0
          have hlc:cs.length=sz t:=by rw [(dec_sub t h1).len,hle]
          refine ⟨fun bs ws h=>e1 bs ws h,fun bs q b h=>?_⟩
          simp only [boxOf] at h
          have hge:=(boxOf_ge _ _ _ _ _ h).1
          simp only [entH]
          rw [thawH_or,thawH_none _ _ _ _ _ (by omega)];exact e2 bs q b h
        | _=>simp [ksOk] at hk
      | ptr ow=>
        cases t with
        | cells t=>
          simp only [ksOk,Bool.and_eq_true] at hk
          obtain ⟨hsz,hk⟩:=hk
          have hsz:=Nat.le_of_ble_eq_true hsz
          obtain ⟨e1,e2⟩:=ih ats vs y (k+1) hk h3
          simp only [decTy] at h1
          split at h1
          · rename_i cs
            have hl:=(dec_sub t h1).len
            refine ⟨fun bs ws h=>?_,fun bs q b h=>?_⟩
            · cases bs with
              | nil=>rfl
              | cons b bs=>simp only [encTy,putBoxes, ← hl,e1]
            · cases bs with
              | nil=>simp [boxOf] at h
              | cons c bs=>
                simp only [boxOf] at h
                simp only [entH]
                by_cases hq:q=128 *k+127
                · subst hq;exact ⟨_,upd_same _ _ _⟩
                · rw [if_neg hq] at h
                  have hge:=(boxOf_ge _ _ _ _ _ h).1
                  have hle:(enc t x0).length=sz t:=enc_length t x0
                  rw [upd_other _ _ _ _ hq,thawH_or,thawH_none _ _ _ _ _ (by omega)];exact e2 bs q b h
          · cases h1
        | _=>simp [ksOk] at hk
theorem box_vals (hh:HRel w0 outer own ρ st.h w):∀ (ks:List ArgK) (as:List V) (k:Nat) (us:List V),boxLeaves st ks as k=some us→
    ∃ uc:Nat→Value,(∀ j (hj:j<us.length),VR w ρ (Bad outer ρ st.h) (uc j) us[j])∧
      ∀ (bs:List Nat) (vs:List V) (h0:Nat→Option Row) (r:Nat) (row:Row),putBoxes ks as bs vs h0 r=some row→h0 r=some row∨
        ∃ q off n cs ri,boxOf ks k bs q=some r∧row=⟨.box ((vs.drop off).take n), .own⟩∧off+n≤us.length∧st.h q=some ⟨.box cs, .own⟩∧ρ q=some ri∧ri.nl=false∧
          ∀ i,i<n→w.frozen? (at_ ri.b i)=false∧w.cell? (at_ ri.b i)=some (uc (off+i)):=by
  intro ks
  induction ks with
  | nil=>
    intro as k us h
    cases as with
    | nil=>
      simp only [boxLeaves,Option.some.injEq] at h;subst h
      exact ⟨fun _=>undef,fun j hj=>by simp at hj,fun bs vs h0 r row hr=> .inl (by simpa [putBoxes] using hr)⟩
    | cons=>simp [boxLeaves] at h
  | cons g ks ih=>
    intro as k us h
    cases g with
    | plain=>
      cases as with
      | nil=>simp [boxLeaves] at h
      | cons v as=>
        simp only [boxLeaves] at h
        obtain ⟨uc,h1,h2⟩:=ih as (k+1) us h
        exact ⟨uc,h1,fun bs vs h0 r row hr=>by simp only [putBoxes] at hr;simp only [boxOf];exact h2 bs vs h0 r row hr⟩
    | mv ow=>
      cases as with
      | nil=>simp [boxLeaves] at h
      | cons v as=>
        simp only [boxLeaves] at h
        obtain ⟨uc,h1,h2⟩:=ih as (k+1) us h
        exact ⟨uc,h1,fun bs vs h0 r row hr=>by simp only [putBoxes] at hr;simp only [boxOf];exact h2 bs vs h0 r row hr⟩
    | ptr ow=>
      cases as with
      | nil=>simp [boxLeaves] at h
      | cons v as=>
        cases v with
        | agg cs0=>
          simp only [boxLeaves] at h
          split at h
          case h_2=>cases h
          rename_i cs us' hrow hbl
          cases hb:Nat.beq cs.length cs0.length
          case false=>simp [hb] at h
          simp only [hb,cond_true,Option.some.injEq] at h
          subst h
          have hl:=Nat.eq_of_beq_eq_true hb
          obtain ⟨uc,h1,h2⟩:=ih as (k+1) us' hbl
          obtain ⟨ri,hρ,hro,_⟩:=hh.rows _ _ hrow
          refine ⟨fun j=>if j<cs.length then (w.cell? (at_ ri.b j)).getD undef else uc (j - cs.length),fun j hj=>?_,fun bs vs h0 r row hr=>?_⟩
          · dsimp only
            by_cases hj1:j<cs.length
            · rw [if_pos hj1,List.getElem_append_left hj1]
              obtain ⟨_,u,f1,f2⟩:=hro.2 j hj1
              rw [f1];exact f2
            · rw [if_neg hj1,List.getElem_append_right (by omega)]
              exact h1 _ _
          · cases bs with
            | nil=>exact .inl (by simpa [putBoxes] using hr)
            | cons b bs=>
              simp only [putBoxes] at hr
              by_cases hrb:r=b
              · subst hrb
                rw [upd_same] at hr;cases hr
                refine .inr ⟨128 *k+127,0,cs0.length,cs,ri,by simp [boxOf],by simp,by simp;omega,hrow,hρ,hro.1,fun i hi=>?_⟩
                obtain ⟨f0,u,f1,f2⟩:=hro.2 i (by omega)
                refine ⟨f0,?_⟩
                dsimp only
                rw [if_pos (by omega)]
                simp [f1]
              · rw [upd_other _ _ _ _ hrb] at hr
                rcases h2 bs _ h0 r row hr with h3 | ⟨q,off,n,cs',ri',e1,e2,e3,e4,e5,e6,e7⟩
                · exact .inl h3
                · refine .inr ⟨q,cs0.length+off,n,cs',ri',?_,by rw [e2,List.drop_drop],by simp;omega,e4,e5,e6,fun i hi=>?_⟩
                  · have:=(boxOf_ge _ _ _ _ _ e1).1
                    simp only [boxOf];rw [if_neg (by omega)];exact e1
                  · obtain ⟨g1,g2⟩:=e7 i hi
                    refine ⟨g1,?_⟩
                    dsimp only
                    rw [g2,if_neg (by omega)]
                    congr 2;omega
        | _=>simp [boxLeaves] at h
theorem frzLeaf_arr {h:Nat→Option Row} {v:V} {x:V × List Nat} (hf:frzLeaf h v=some x):∀ r ∈ x.2,∃ t l m,h r=some ⟨.arr t l,m⟩:=by
  unfold frzLeaf at hf
  split at hf
  · rename_i r
    split at hf
    · rename_i t l m hr
      cases hm:m.isLock <;> simp [hm] at hf
      subst hf;intro q hq;simp at hq;subst hq;exact ⟨_,_,_,hr⟩
    · cases hf
  · rename_i r t off len
    split at hf
    · rename_i t' l m hr
      cases hm:m.isLock
      · simp only [hm,cond_false] at hf
        split at hf
        · simp at hf;subst hf;intro q hq;simp at hq;subst hq;exact ⟨_,_,_,hr⟩
        · cases hf
      · simp [hm] at hf
    · cases hf
  · cases hb:noRefN 8 v <;> simp [hb] at hf
    subst hf;simp
theorem takeLeaves_box (ow:List Nat):∀ (cs:List V) (p:Nat) (h:Nat→Option Row) (x:List V × (Nat→Option Row)) (q:Nat) (c:List V),takeLeaves ow p cs h=some x→h q=some ⟨.box c, .own⟩→x.2 q=some ⟨.box c, .own⟩
  | [],p,h,x,q,c,ht,hq=>by simp [takeLeaves] at ht;subst ht;exact hq
  | v :: cs,p,h,x,q,c,ht,hq=>by
    simp only [takeLeaves] at ht
    cases hb:ow.any (Nat.beq p)
    · simp only [hb,cond_false] at ht
      split at ht
      case h_2=>cases ht
      rename_i c' ids hfz
      split at ht
      case h_2=>cases ht
      rename_i hr
      cases ht
      have hx:=takeLeaves_box ow cs _ _ _ q c hr
      refine hx ?_
      rw [markRo_get,if_neg]
      · exact hq
      · intro hm
        obtain ⟨t,l,m,h3⟩:=frzLeaf_arr hfz q hm
        rw [hq] at h3;cases h3
    · simp only [hb,cond_true] at ht
      split at ht
      · split at ht
        case h_2=>cases ht
        rename_i hrow
        split at ht
        case h_2=>cases ht
        rename_i hr
        cases ht
        have hx:=takeLeaves_box ow cs _ _ _ q c hr
        refine hx ?_
        rw [upd_other _ _ _ _ (by rintro rfl;rw [hrow] at hq;cases hq)];exact hq
      · split at ht
        case h_2=>cases ht
        rename_i hr
        cases ht
        have hx:=takeLeaves_box ow cs _ _ _ q c hr
        exact hx hq
      · cases ht
open Classical in
theorem fin_ok {fn:Func} {ks:List ArgK} {as:List V} {bs ow:List Nat} {base:Nat} {shape:List (Bool × Nat)} {rts:List Ty} {vs us rs:List V} {h2:Nat→Option Row} {r:TyTup rts}
    (hr:Rel C w0 outer own ρ st a w) (hf:∀ q,st.nx≤q→ρ q=none) (hres:resLeaves C.P st fn.results.toList shape=some vs) (hbl:boxLeaves st ks as 0=some us)
    (htk:takeLeaves ow 0 (vs++us) st.h=some (rs,h2)) (hun:unflat rts rs=some r) (hlen:(flatTup rts r).length≤128) (hnd:bs.Nodup) (hbo:∀ b ∈ bs,Out base 128 b):
    ∃ v,(results fn a.tmps).run C.P w= .ok v w∧∃ ρf,HRel w0 outer own ρf (exH ks as bs ow base shape (flatTup rts r)) w∧
      VR w ρf (Bad outer ρf (exH ks as bs ow base shape (flatTup rts r))) v (pack shape (thawL ow base 0 (flatTup rts r)))∧
      (∀ q b,boxOf ks 0 bs q=some b→ρf b=ρ q)∧(∀ r,ρf r≠none→(base≤r∧r<base+128)∨r ∈ bs):=by
  obtain ⟨rv,cells,k1,k2,k3,k4⟩:=results_ok hr hres
  obtain ⟨uc,u1,u2⟩:=box_vals hr.heap ks as 0 us hbl
  have hsub:=unflat_sub rts rs r hun
  have hrsl:=takeLeaves_len ow _ _ _ _ htk
  simp only at hrsl
  generalize hR0:flatTup rts r=R0 at *
  have hRl:R0.length=vs.length+us.length:=by rw [← hsub.len,hrsl,List.length_append]
  have hsh:shapeLen shape=vs.length:=by rw [k1.len.1,k2]
  let M:=st.nx
  let u:Nat→Value:=fun j=>if j<vs.length then cells.getD j undef else uc (j - vs.length)
  have hhn:∀ q,st.nx≤q→st.h q=none:=fun q hq=>by
    cases hg:st.h q with
    | none=>rfl
    | some row=>obtain ⟨ri,h3,_⟩:=hr.heap.rows _ _ hg;rw [hf q hq] at h3;cases h3
  obtain ⟨ρ2,g2,T,hTl⟩:=take_thaw ow M 128 (vs++us) 0 st.h h2 rs R0 ρ st.h u htk hsub (by rw [List.length_append];omega) hr.heap (fun j hj=>by
      simp only [u]
      by_cases hj1:j<vs.length
      · rw [if_pos hj1,List.getElem_append_left hj1];exact k3 j hj1
      · rw [if_neg hj1,List.getElem_append_right (by omega)];exact u1 _ (by simp at hj;omega)) (fun _ _ h=>h) (fun q _=>hhn _ (by simp only [M];omega)) (fun q _ _=>hf _ (by simp only [M];omega))
  let ρf:Nat→Option RI:=fun r=>if base≤r∧r<base+128 then ρ2 (M+(r - base)) else if h:∃ q,boxOf ks 0 bs q=some r then ρ (Classical.choose h) else none
  let φ:Nat→Nat:=fun r=>if base≤r∧r<base+128 then M+(r - base) else if h:∃ q,boxOf ks 0 bs q=some r then Classical.choose h else 0
  have hfn:∀ q,q<128→ρf (base+q)=ρ2 (M+q)∧φ (base+q)=M+q:=fun q hq=>by
    have h1:base≤base+q∧base+q<base+128:=by omega
    simp only [ρf,φ,if_pos h1]
    have:base+q - base=q:=by omega
    simp [this]
  have hfb:∀ q b,boxOf ks 0 bs q=some b→ρf b=ρ q∧φ b=q:=fun q b hq=>by
    have h1:¬ (base≤b∧b<base+128):=hbo b (boxOf_ge _ _ _ _ _ hq).2.2
    have h2:∃ q,boxOf ks 0 bs q=some b:=⟨q,hq⟩
    have h3:Classical.choose h2=q:=boxOf_inj ks 0 bs _ _ b hnd (Classical.choose_spec h2) hq
    simp only [ρf,φ,if_neg h1,dif_pos h2,h3]
    exact ⟨trivial,trivial⟩
  -- the rows
  have hrow:∀ q row,exH ks as bs ow base shape R0 q=some row→
      (∃ p t l,p<128∧q=base+p∧row=⟨.arr t l, .own⟩∧g2 (M+p)=some row)∨
      ∃ p off n cs ri,boxOf ks 0 bs p=some q∧row=⟨.box ((((thawL ow base 0 R0).drop (shapeLen shape)).drop off).take n), .own⟩∧off+n≤us.length∧g2 p=some ⟨.box cs, .own⟩∧ρ p=some ri∧ri.nl=false∧p<M∧
        ∀ i,i<n→w.frozen? (at_ ri.b i)=false∧w.cell? (at_ ri.b i)=some (uc (off+i)):=fun q row hq=>by
    rcases u2 bs _ _ q row hq with h1 | ⟨p,off,n,cs,ri,e1,e2,e3,e4,e5,e6,e7⟩
    · obtain ⟨t,l,h3,h4,h5⟩:=thawH_arr _ _ _ _ _ _ h1
      refine .inl ⟨q - base,t,l,by omega,by omega,h3,?_⟩
      rw [T.new (q - base) (by omega) (by omega), ← thawH_shift ow base M R0 0 (q - base),show base+(q - base)=q by omega]
      exact h1
    · refine .inr ⟨p,off,n,cs,ri,e1,e2,e3,T.lies _ _ (takeLeaves_box ow _ _ _ _ p cs htk e4),e5,e6,?_,e7⟩
      rcases Nat.lt_or_ge p st.nx with h | h
      · exact h
      · rw [hf p h] at e5;cases e5
  have hbad:∀ b,Bad outer ρf (exH ks as bs ow base shape R0) b→Bad outer ρ2 g2 b:=by
    rintro b (hb | ⟨q,row,ri,f1,f2,f3,f4,f5⟩)
    · exact .inl hb
    · rcases hrow q row f1 with ⟨p,t,l,h1,rfl,h3,h4⟩ | ⟨p,off,n,cs,ri',e1,e2,e3,e4,e5,e6,e7,e8⟩
      · rw [(hfn p h1).1] at f3
        exact .inr ⟨_,row,ri,h4,f2,f3,f4,f5⟩
      · rw [(hfb p q e1).1] at f3
        exact .inr ⟨p,_,ri,e4,rfl,T.ext _ _ f3,f4,f5⟩
  have hX:∀ j (hj:j<(thawL ow base 0 R0).length),VR w ρf (Bad outer ρf (exH ks as bs ow base shape R0)) (u j) (thawL ow base 0 R0)[j]:=
    thawL_shift (w:=w) (ρ:=ρ2) (ρ2:=ρf) (bad:=Bad outer ρ2 g2) (bad2:=Bad outer ρf (exH ks as bs ow base shape R0)) ow M base R0 0 u (fun q _ hq _ _=>(hfn q (by omega)).1) (fun j hj=>(T.closed j hj).1) hbad T.vals
  refine ⟨_,k4,ρf,?_,?_,fun q b hq=>(hfb q b hq).1,fun q hq=>?_⟩
  · refine T.heap.sub φ T.heap.wx T.heap.old T.heap.outLt (fun q row hq=>?_) (fun q q' row row' h1 h2 h3=>?_)
    · rcases hrow q row hq with ⟨p,t,l,h1,rfl,rfl,h4⟩ | ⟨p,off,n,cs,ri,e1,e2,e3,e4,e5,e6,e7,e8⟩
      · obtain ⟨ri,f1,f2,f3⟩:=T.heap.rows _ _ h4
        exact ⟨_,ri,by rw [(hfn p h1).2];exact h4,by rw [(hfn p h1).1];exact f1,by rw [(hfn p h1).2];exact f1,rowOk_closed f2 hbad ρf,fun hn=>(f3 hn).1⟩
      · obtain ⟨ri',f1,f2,f3⟩:=T.heap.rows _ _ e4
        rw [T.ext _ _ e5] at f1;cases f1
        refine ⟨_,ri,by rw [(hfb p q e1).2];exact e4,by rw [(hfb p q e1).1];exact e5,by rw [(hfb p q e1).2];exact T.ext _ _ e5,?_,fun hn=>⟨(f3 hn).1.1,fun _=>(f3 hn).1.2 rfl⟩⟩
        rw [e2]
        refine ⟨e6,fun i hi=>?_⟩
        have hin:i<n∧vs.length+off+i<(thawL ow base 0 R0).length:=by
          simp only [List.length_take,List.length_drop] at hi
          omega
        obtain ⟨g3,g4⟩:=e8 i hin.1
        refine ⟨g3,_,g4,?_⟩
        have h5:=hX (vs.length+(off+i)) (by omega)
        simp only [u] at h5
        rw [if_neg (by omega),show vs.length+(off+i) - vs.length=off+i by omega] at h5
        simp only [List.getElem_take,List.getElem_drop,hsh]
        exact h5
    · rcases hrow q row h1 with ⟨p,t,l,f1,rfl,f3,f4⟩ | ⟨p,off,n,cs,ri,e1,e2,e3,e4,e5,e6,e7,e8⟩ <;>
      rcases hrow q' row' h2 with ⟨p',t',l',f1',rfl,f3',f4'⟩ | ⟨p',off',n',cs',ri',e1',e2',e3',e4',e5',e6',e7',e8'⟩
      · rw [(hfn p f1).2,(hfn p' f1').2] at h3;omega
      · rw [(hfn p f1).2,(hfb p' q' e1').2] at h3;omega
      · rw [(hfb p q e1).2,(hfn p' f1').2] at h3;omega
      · rw [(hfb p q e1).2,(hfb p' q' e1').2] at h3;subst h3
        rw [e1] at e1';exact Option.some.inj e1'
  · refine pack_ok k1 (by rw [thawL_len];omega) fun j hj hj2=>?_
    have h5:=hX j hj
    simp only [u] at h5
    rw [if_pos (by omega)] at h5;exact h5
  · by_cases h1:base≤q∧q<base+128
    · exact .inl h1
    · by_cases h2:∃ p,boxOf ks 0 bs p=some q
      · obtain ⟨p,h2⟩:=h2
        exact .inr (boxOf_ge _ _ _ _ _ h2).2.2
      · simp only [ρf,if_neg h1,dif_neg h2] at hq;exact absurd rfl hq
theorem evalF_ok (hC : TnOk C) (hΦ : PhiOk C) {f : Nat} {fn : Func} {body : Code} (hf : C.P.funcs[f]? = some fn) (hb : fn.body = some body) (hname : (fn.name == "runtime.NumGoroutine") = false)
    (hnt:C.nt=fn.ntmps) (an:An) (ks:List ArgK) (ow:List Nat) (shape:List (Bool × Nat)) (ats rts:List Ty) (F:TyTup ats→Option (TyTup rts))
    (hks:ksOk ks ats=true) (hkl:Nat.ble ks.length fn.ntmps=true)
    (hev:∀ x r,bdTup ats x→F x=some r→evalF C fn body an ks ow shape rts (encTup ats x)=some r):
    Contract C.P f ⟨ks,TyTup ats,TyTup rts,decTup ats,F,flatTup rts,shape,ow,false⟩ C.g:=by
  intro w args as outer ownw ρ x r base bs hsz hel hh hvals hfr hnd hbo hdA hF hrl hgl
  simp only at hsz hel hh hvals hfr hdA hF hrl
  have hkl:=Nat.le_of_ble_eq_true hkl
  refine .inl ⟨?_,calls_of_wp hf hb ?_⟩
  · have hname' : ¬ fn.name = "runtime.NumGoroutine" := by simpa using hname
    simp [callFunc,program,hf,hb,hname',Sem.run]
  obtain ⟨pb1,pb2⟩:=putBoxes_enc ks ats as x 0 hks hdA
  obtain ⟨ρ2,H1,H2,H3,H4,H5⟩:=ent_heap hks hdA hh hfr
  obtain ⟨e1,e2⟩:=entS_enc (w:=w) (ρ:=ρ) H2 ks ats as x 0 (fun j=>args.getD j undef) hks hdA (fun q t h1 h2=>H5 q _ h1 h2) hvals
  have hex:∀ base rs,exH ks (encTup ats x) bs ow base shape rs=exH ks as bs ow base shape rs:=fun base rs=>by simp only [exH,pb1]
  have hrel:Rel C w outer ownw ρ2 { s:=fun i=>match (entS ks 0 (encTup ats x)).drop i with | v :: _=>v | []=> .undef,h:=entH ks 0 (encTup ats x),nx:=128 *ks.length }
      { tmps:=args++Array.replicate (fn.ntmps - args.size) undef,defers:=[] } w:=by
    refine ⟨H1,fun i=>?_,by simp;omega,rfl,hgl⟩
    show VR w ρ2 _ _ (match (entS ks 0 (encTup ats x)).drop i with | v :: _=>v | []=> .undef)
    by_cases hi:i<(entS ks 0 (encTup ats x)).length
    · rw [List.drop_eq_getElem_cons hi]
      have h3:=e2 i hi
      have hia:i<args.size:=by omega
      rw [Array.getD_eq_getD_getElem?] at h3 ⊢
      rw [Array.getElem?_append_left hia];exact h3
    · rw [List.drop_eq_nil_of_le (by omega)];exact .undef _
  refine runC_ok hC hΦ an body (fun _=>True) (touch_all an body) _ _ w ρ2 _ r _ hrel (fun q hq=>H4 q hq) (hev x r (bdTup_of ats x (ent_bd H1 ks ats x 0 (fun j=>args.getD j undef) hks (fun _ _ h=>h) fun j hj=>e2 j hj)) hF) fun e st' a' w' ρ' hg hk=>?_
  have key:(match resLeaves C.P st' fn.results.toList shape,boxLeaves st' ks (encTup ats x) 0 with
      | some vs,some us=>match takeLeaves ow 0 (vs++us) st'.h with
        | some (rs,_)=>unflat rts rs
        | none=>none
      | _,_=>none)=some r→a'.defers=[]∧∃ v,(results fn a'.tmps).run C.P w'= .ok v w'∧∃ v',Ending.returned v= .returned v'∧∃ ρf,HRel w outer ownw ρf (exH ks as bs ow base shape (flatTup rts r)) w'∧
      VR w' ρf (Bad outer ρf (exH ks as bs ow base shape (flatTup rts r))) v' (pack shape (thawL ow base 0 (flatTup rts r)))∧
      (∀ q b,boxOf ks 0 bs q=some b→ρf b=ρ q)∧(∀ r,ρf r≠none→(base≤r∧r<base+128)∨r ∈ bs):=by
    intro hk
    split at hk
    case h_2=>cases hk
    rename_i vs us hres hbl
    split at hk
    case h_2=>cases hk
    rename_i rs h2 htk
    obtain ⟨v,h3,ρf,h4,h5,h6,h7⟩:=fin_ok (bs:=bs) (base:=base) hg.rel hg.fresh hres hbl htk hk hrl hnd hbo
    rw [hex] at h4 h5
    refine ⟨hg.rel.defers,v,h3,v,rfl,ρf,h4,h5,fun q b hq=>?_,h7⟩
    rw [h6 q b hq]
    obtain ⟨row,hrow⟩:=pb2 bs q b hq
    obtain ⟨ri,h8,_⟩:=hh.rows _ _ hrow
    rw [hg.ext _ _ (H3 _ _ h8),h8]
  cases e with
  | exit id=>cases hk
  | normal=>exact key hk
  | ret=>exact key hk
noncomputable def evalP (C:Cx) (fn:Func) (body:Code) (an:An) (ks:List ArgK) (ts:List Ty) (as:List V):Option (TyTup ts):=
  runC C an body { s:=fun i=>match (entS ks 0 as).drop i with | v :: _=>v | []=> .undef,h:=entH ks 0 as,nx:=128 *ks.length } fun e st=>
    match e with
    | .exit _=>none
    | _=>match fn.results.toList with
      | [.tmp t]=>match st.s t with
        | .bp b 0=>match st.h b with
          | some ⟨.box cs, .own⟩=>bif cs.all (noRefN 8) then unflat ts cs else none
          | _=>none
        | _=>none
      | _=>none
theorem fin_okP {fn:Func} {ks:List ArgK} {as:List V} {bs:List Nat} {base t b:Nat} {rts:List Ty} {cs:List V} {r:TyTup rts}
    (hr:Rel C w0 outer own ρ st a w) (hres:fn.results.toList=[.tmp t]) (hs:st.s t= .bp b 0) (hrow:st.h b=some ⟨.box cs, .own⟩) (hno:cs.all (noRefN 8)=true) (hun:unflat rts cs=some r):
    ∃ v,(results fn a.tmps).run C.P w= .ok v w∧∃ ρf,HRel w0 outer own ρf (upd (fun _=>none) base (some ⟨.box (flatTup rts r), .own⟩)) w∧
      VR w ρf (Bad outer ρf (upd (fun _=>none) base (some ⟨.box (flatTup rts r), .own⟩))) v (.bp base 0)∧(∀ q,ρf q≠none→q=base):=by
  have hv:=hr.slots t
  rw [hs] at hv
  obtain ⟨ri,hρ,hro,hri⟩:=hr.heap.rows _ _ hrow
  have hsub:=unflat_sub rts cs r hun
  generalize flatTup rts r=es at hsub
  generalize hA:a.tmps.getD t undef=A at hv
  cases hv with
  | bp _ _ ri' h1 h2=>
  rw [hρ] at h1;cases h1
  let ρf:Nat→Option RI:=fun q=>if q=base then some ri else none
  have hbad:∀ c,Bad outer ρf (upd (fun _=>none) base (some ⟨.box es, .own⟩)) c→Bad outer ρ st.h c:=by
    rintro c (hb | ⟨q,row,ri',f1,f2,f3,f4,f5⟩)
    · exact .inl hb
    · by_cases hq:q=base
      · subst hq
        simp only [ρf,if_true,Option.some.injEq] at f3
        subst f3
        exact .inr ⟨b,_,ri,hrow,rfl,hρ,f4,f5⟩
      · rw [upd_other _ _ _ _ hq] at f1;cases f1
  refine ⟨.pointer (some (at_ ri.b 0)),?_,ρf,?_, .bp _ _ ri (by simp [ρf]) h2,fun q hq=>?_⟩
  · have:=mapM_run (P:=C.P) (w:=w) (resSem a.tmps) fn.results.toList [.pointer (some (at_ ri.b 0))] (by rw [hres];rfl) (fun i hi hi2=>by
      simp only [hres] at hi ⊢
      have:i=0:=by simp at hi;omega
      subst this
      simp only [List.getElem_cons_zero,resSem,hA];rfl)
    show ((do let vs ← fn.results.mapM (resSem a.tmps);pure (if h:vs.size=1 then vs[0] else .tuple vs)):Sem Value).run C.P w=_
    rw [Array.mapM_eq_mapM_toList]
    simp only [Sem.run_bind,Sem.run_map,this,Result.andThen_ok,Sem.run_pure]
    rfl
  · refine hr.heap.sub (fun _=>b) hr.heap.wx hr.heap.old hr.heap.outLt (fun q row hq=>?_) (fun q q' row row' g1 g2 _=>?_)
    · by_cases hqb:q=base
      · subst hqb
        rw [upd_same] at hq;cases hq
        refine ⟨_,ri,hrow,by simp [ρf],hρ,⟨h2,fun j hj=>?_⟩,fun hn=>⟨(hri hn).1.1,fun _=>(hri hn).1.2 rfl⟩⟩
        have hj2:j<cs.length:=by rw [hsub.len];exact hj
        obtain ⟨e1,u,e2,e3⟩:=hro.2 j hj2
        refine ⟨e1,u,e2,VR.sub (hsub.get j hj2 hj) ?_⟩
        have hn:=(noRefN_ok 8 _ (List.all_eq_true.1 hno _ (List.getElem_mem hj2))).1
        exact (e3.noRef hn ρf).mono (fun _ _ h=>h) (fun _ _ _=>rfl) fun c hc=> .inl (hbad c hc)
      · rw [upd_other _ _ _ _ hqb] at hq;cases hq
    · have k1:q=base:=by
        rcases Nat.decEq q base with h | h
        · rw [upd_other _ _ _ _ h] at g1;cases g1
        · exact h
      have k2:q'=base:=by
        rcases Nat.decEq q' base with h | h
        · rw [upd_other _ _ _ _ h] at g2;cases g2
        · exact h
      rw [k1,k2]
  · by_cases h:q=base
    · exact h
    · simp only [ρf,if_neg h] at hq;exact absurd rfl hq
theorem boxOf_plain:∀ (n k:Nat) (bs:List Nat) (q:Nat),boxOf (List.replicate n .plain) k bs q=none
  | 0,k,bs,q=>by simp [boxOf]
  | n+1,k,bs,q=>by simp only [List.replicate_succ,boxOf];exact boxOf_plain n (k+1) bs q
theorem evalP_ok (hC : TnOk C) (hΦ : PhiOk C) {f : Nat} {fn : Func} {body : Code} (hf : C.P.funcs[f]? = some fn) (hb : fn.body = some body) (hname : (fn.name == "runtime.NumGoroutine") = false)
    (hnt:C.nt=fn.ntmps) (an:An) (n:Nat) (shape:List (Bool × Nat)) (ats rts:List Ty) (F:TyTup ats→Option (TyTup rts))
    (hks:ksOk (List.replicate n .plain) ats=true) (hkl:Nat.ble n fn.ntmps=true)
    (hev:∀ x r,bdTup ats x→F x=some r→evalP C fn body an (List.replicate n ArgK.plain) rts (encTup ats x)=some r):
    Contract C.P f ⟨List.replicate n .plain,TyTup ats,TyTup rts,decTup ats,F,flatTup rts,shape,[],true⟩ C.g:=by
  generalize hksd:List.replicate n ArgK.plain=ks at hks hev ⊢
  have hkn:ks.length=n:=by rw [← hksd];simp
  intro w args as outer ownw ρ x r base bs hsz hel hh hvals hfr hnd hbo hdA hF hrl hgl
  simp only at hsz hel hh hvals hfr hdA hF hrl
  have hkl:=Nat.le_of_ble_eq_true hkl
  refine .inl ⟨?_,calls_of_wp hf hb ?_⟩
  · have hname' : ¬ fn.name = "runtime.NumGoroutine" := by simpa using hname
    simp [callFunc,program,hf,hb,hname',Sem.run]
  obtain ⟨ρ2,H1,H2,H3,H4,H5⟩:=ent_heap hks hdA hh hfr
  obtain ⟨e1,e2⟩:=entS_enc (w:=w) (ρ:=ρ) H2 ks ats as x 0 (fun j=>args.getD j undef) hks hdA (fun q t h1 h2=>H5 q _ h1 h2) hvals
  have hrel:Rel C w outer ownw ρ2 { s:=fun i=>match (entS ks 0 (encTup ats x)).drop i with | v :: _=>v | []=> .undef,h:=entH ks 0 (encTup ats x),nx:=128 *ks.length }
      { tmps:=args++Array.replicate (fn.ntmps - args.size) undef,defers:=[] } w:=by
    refine ⟨H1,fun i=>?_,by simp;omega,rfl,hgl⟩
    show VR w ρ2 _ _ (match (entS ks 0 (encTup ats x)).drop i with | v :: _=>v | []=> .undef)
    by_cases hi:i<(entS ks 0 (encTup ats x)).length
    · rw [List.drop_eq_getElem_cons hi]
      have h3:=e2 i hi
      have hia:i<args.size:=by omega
      rw [Array.getD_eq_getD_getElem?] at h3 ⊢
      rw [Array.getElem?_append_left hia];exact h3
    · rw [List.drop_eq_nil_of_le (by omega)];exact .undef _
  refine runC_ok hC hΦ an body (fun _=>True) (touch_all an body) _ _ w ρ2 _ r _ hrel (fun q hq=>H4 q hq) (hev x r (bdTup_of ats x (ent_bd H1 ks ats x 0 (fun j=>args.getD j undef) hks (fun _ _ h=>h) fun j hj=>e2 j hj)) hF) fun e st' a' w' ρ' hg hk=>?_
  have key:(match fn.results.toList with
      | [.tmp t]=>match st'.s t with
        | .bp b 0=>match st'.h b with
          | some ⟨.box cs, .own⟩=>bif cs.all (noRefN 8) then unflat rts cs else none
          | _=>none
        | _=>none
      | _=>none)=some r→a'.defers=[]∧∃ v,(results fn a'.tmps).run C.P w'= .ok v w'∧∃ v',Ending.returned v= .returned v'∧∃ ρf,HRel w outer ownw ρf (upd (fun _=>none) base (some ⟨.box (flatTup rts r), .own⟩)) w'∧
      VR w' ρf (Bad outer ρf (upd (fun _=>none) base (some ⟨.box (flatTup rts r), .own⟩))) v' (.bp base 0)∧
      (∀ q b,boxOf ks 0 bs q=some b→ρf b=ρ q)∧(∀ r,ρf r≠none→(base≤r∧r<base+128)∨r ∈ bs):=by
    intro hk
    split at hk
    case h_2=>cases hk
    rename_i t hres
    split at hk
    case h_2=>cases hk
    rename_i b hs
    split at hk
    case h_2=>cases hk
    rename_i cs hrow
    cases hno:cs.all (noRefN 8)
    case false=>simp [hno] at hk
    simp only [hno,cond_true] at hk
    obtain ⟨v,h3,ρf,h4,h5,h6⟩:=fin_okP (ks:=ks) (as:=as) (bs:=bs) (base:=base) hg.rel hres hs hrow hno hk
    refine ⟨hg.rel.defers,v,h3,v,rfl,ρf,h4,h5,fun q b hq=>?_,fun q hq=>?_⟩
    · rw [← hksd,boxOf_plain] at hq;cases hq
    · rw [h6 q hq];exact .inl ⟨Nat.le_refl _,by omega⟩
  cases e with
  | exit id=>cases hk
  | normal=>exact key hk
  | ret=>exact key hk
end
end Go.D
namespace Go.D
inductive LK where
  | i | by | b | s
  | l (t:TN)
  deriving DecidableEq
def lk:TN→List LK
  | .byte=>[.by] | .int=>[.i] | .bool=>[.b] | .str=>[.s] | .bs=>[.l .byte]
  | .Addr=>[.i, .i]
  | .Op=>[.i, .i, .i, .l .byte]
  | .Event=>[.i, .i, .i, .i, .l .byte, .l .Op]
  | .Jar=>[.l .byte]
  | .Dice=>[.l .byte, .i]
  | .Win=>[.i, .l .int]
  | .Ep=>[.i, .l .byte, .i, .i, .l .int]
  | .Chan=>[.i, .l .byte, .i, .l .byte, .i, .i, .l .int, .i, .l .byte, .i, .i, .l .int, .b, .i, .l .byte]
  | .Cand=>[.i, .i, .l .byte, .i]
  | .Paths=>[.i, .i, .l .Cand]
  | .Sess=>[.i, .l .byte, .l .byte, .i, .l .byte, .i, .l .byte, .i, .i, .l .int, .i, .l .byte, .i, .i, .l .int, .b, .i, .l .byte, .i, .i, .l .Cand, .i, .i, .b]
  | .Tab=>[.i, .l .Sess]
  | .Credit=>[.i, .i, .i, .i]
  | .Server=>[.l .bs, .l .byte, .l .byte, .i, .i, .l .Sess, .l .Credit]
  | .Frame=>[.i, .i, .l .byte, .l .byte, .i, .l .byte, .l .byte, .i, .i, .l .byte, .l .byte]
  | .Timer=>[.b, .i, .i, .i]
  | .Client=>[.i, .l .byte, .i, .i, .i, .l .byte, .i, .i, .l .byte, .l .byte, .i, .l .byte, .l .byte, .i, .i, .l .byte, .l .byte, .i, .l .byte, .i, .l .byte, .i, .i, .l .int, .i, .l .byte, .i, .i, .l .int, .b, .i, .l .byte, .b, .i, .i, .i, .b, .i, .i, .i, .i]
  | .Wire=>[.i, .i, .i, .i, .l .byte]
  | .Note=>[.i, .i, .i, .l .byte, .l .byte, .i, .i, .l .byte, .l .byte, .i, .i, .i]
  | .World=>[.i, .l .Client, .l .bs, .l .byte, .l .byte, .i, .i, .l .Sess, .l .Credit, .l .byte, .i, .l .Wire, .l .bs, .l .Note]
  | .Cur=>[.l .byte, .i, .i]
  | .Out=>[.i, .i, .i, .i, .l .byte, .l .byte, .i, .l .byte, .l .byte, .i, .i, .l .byte, .l .byte]
  | .Form=>[.i, .s]
  | .Hash=>[.l .int, .l .byte, .i]
def Mat:LK→V→Prop
  | .i,v=>∃ n,asI v=some n
  | .by,v=>∃ n,asBy v=some n
  | .b,v=>∃ n,asB v=some n
  | .s,v=>∃ n,asS v=some n
  | .l t,v=>∃ n,asL t v=some n
inductive Mats:List LK→List V→Prop
  | nil:Mats [] []
  | cons {k:LK} {v:V} {ks:List LK} {vs:List V} (h:Mat k v) (r:Mats ks vs):Mats (k :: ks) (v :: vs)
theorem Mats.app {a b:List LK} {x y:List V} (h:Mats a x) (k:Mats b y):Mats (a++b) (x++y):=by
  induction h with
  | nil=>exact k
  | cons h _ ih=>exact .cons h ih
theorem Mats.len {a:List LK} {x:List V} (h:Mats a x):a.length=x.length:=by
  induction h with
  | nil=>rfl
  | cons h _ ih=>simp [ih]
theorem Mats.take {k:LK} {ks:List LK} {x:List V} (h:Mats (k :: ks) x):∃ v r,x=v :: r∧Mat k v∧Mats ks r:=by
  cases h with | cons h r=>exact ⟨_,_,rfl,h,r⟩
theorem tk_val {α β:Type} {p:V→Option α} {v:V} {a:α} (h:p v=some a) (cs:List V) (k:α→List V→Option β):tk p (v :: cs) k=k a cs:=by simp [tk,h]
theorem tot_nil {β:Type} (r:β) {x:List V} (h:Mats [] x):∃ y,fin x r=some y:=by cases h;exact ⟨r,rfl⟩
theorem tot_i {β:Type} {ks:List LK} {K:Int→List V→Option β} {x:List V} (h:Mats (.i :: ks) x) (hk:∀ a r,Mats ks r→∃ y,K a r=some y):∃ y,tk asI x K=some y:=by
  cases h with | cons h r=>obtain ⟨a,h⟩:=h;rw [tk_val h];exact hk _ _ r
theorem tot_b {β:Type} {ks:List LK} {K:Bool→List V→Option β} {x:List V} (h:Mats (.b :: ks) x) (hk:∀ a r,Mats ks r→∃ y,K a r=some y):∃ y,tk asB x K=some y:=by
  cases h with | cons h r=>obtain ⟨a,h⟩:=h;rw [tk_val h];exact hk _ _ r
theorem tot_s {β:Type} {ks:List LK} {K:List UInt8→List V→Option β} {x:List V} (h:Mats (.s :: ks) x) (hk:∀ a r,Mats ks r→∃ y,K a r=some y):∃ y,tk asS x K=some y:=by
  cases h with | cons h r=>obtain ⟨a,h⟩:=h;rw [tk_val h];exact hk _ _ r
theorem tot_l {β:Type} {t:TN} {ks:List LK} {K:List (El t)→List V→Option β} {x:List V} (h:Mats (.l t :: ks) x) (hk:∀ a r,Mats ks r→∃ y,K a r=some y):∃ y,tk (asL t) x K=some y:=by
  cases h with | cons h r=>obtain ⟨a,h⟩:=h;rw [tk_val h];exact hk _ _ r
theorem tot_Addr {x:List V} (h:Mats (lk .Addr) x):∃ y,decAddr x=some y:=tot_i h fun _ _ h=>tot_i h fun _ _ h=>tot_nil _ h
theorem tot_Op {x:List V} (h:Mats (lk .Op) x):∃ y,decOp x=some y:=tot_i h fun _ _ h=>tot_i h fun _ _ h=>tot_i h fun _ _ h=>tot_l h fun _ _ h=>tot_nil _ h
theorem tot_Event {x:List V} (h:Mats (lk .Event) x):∃ y,decEvent x=some y:=tot_i h fun _ _ h=>tot_i h fun _ _ h=>tot_i h fun _ _ h=>tot_i h fun _ _ h=>tot_l h fun _ _ h=>tot_l h fun _ _ h=>tot_nil _ h
theorem tot_Jar {x:List V} (h:Mats (lk .Jar) x):∃ y,decJar x=some y:=tot_l h fun _ _ h=>tot_nil _ h
theorem tot_Dice {x:List V} (h:Mats (lk .Dice) x):∃ y,decDice x=some y:=tot_l h fun _ _ h=>tot_i h fun _ _ h=>tot_nil _ h
theorem tot_Win {x:List V} (h:Mats (lk .Win) x):∃ y,decWin x=some y:=tot_i h fun _ _ h=>tot_l h fun _ _ h=>tot_nil _ h
theorem tot_Ep {x:List V} (h:Mats (lk .Ep) x):∃ y,decEp x=some y:=tot_i h fun _ _ h=>tot_l h fun _ _ h=>tot_i h fun _ _ h=>tot_i h fun _ _ h=>tot_l h fun _ _ h=>tot_nil _ h
theorem tot_Chan {x:List V} (h:Mats (lk .Chan) x):∃ y,decChan x=some y:=tot_i h fun _ _ h=>tot_l h fun _ _ h=>tot_i h fun _ _ h=>tot_l h fun _ _ h=>tot_i h fun _ _ h=>tot_i h fun _ _ h=>tot_l h fun _ _ h=>tot_i h fun _ _ h=>tot_l h fun _ _ h=>tot_i h fun _ _ h=>tot_i h fun _ _ h=>tot_l h fun _ _ h=>tot_b h fun _ _ h=>tot_i h fun _ _ h=>tot_l h fun _ _ h=>tot_nil _ h
theorem tot_Cand {x:List V} (h:Mats (lk .Cand) x):∃ y,decCand x=some y:=tot_i h fun _ _ h=>tot_i h fun _ _ h=>tot_l h fun _ _ h=>tot_i h fun _ _ h=>tot_nil _ h
theorem tot_Paths {x:List V} (h:Mats (lk .Paths) x):∃ y,decPaths x=some y:=tot_i h fun _ _ h=>tot_i h fun _ _ h=>tot_l h fun _ _ h=>tot_nil _ h
theorem tot_Sess {x:List V} (h:Mats (lk .Sess) x):∃ y,decSess x=some y:=tot_i h fun _ _ h=>tot_l h fun _ _ h=>tot_l h fun _ _ h=>tot_i h fun _ _ h=>tot_l h fun _ _ h=>tot_i h fun _ _ h=>tot_l h fun _ _ h=>tot_i h fun _ _ h=>tot_i h fun _ _ h=>tot_l h fun _ _ h=>tot_i h fun _ _ h=>tot_l h fun _ _ h=>tot_i h fun _ _ h=>tot_i h fun _ _ h=>tot_l h fun _ _ h=>tot_b h fun _ _ h=>tot_i h fun _ _ h=>tot_l h fun _ _ h=>tot_i h fun _ _ h=>tot_i h fun _ _ h=>tot_l h fun _ _ h=>tot_i h fun _ _ h=>tot_i h fun _ _ h=>tot_b h fun _ _ h=>tot_nil _ h
theorem tot_Tab {x:List V} (h:Mats (lk .Tab) x):∃ y,decTab x=some y:=tot_i h fun _ _ h=>tot_l h fun _ _ h=>tot_nil _ h
theorem tot_Credit {x:List V} (h:Mats (lk .Credit) x):∃ y,decCredit x=some y:=tot_i h fun _ _ h=>tot_i h fun _ _ h=>tot_i h fun _ _ h=>tot_i h fun _ _ h=>tot_nil _ h
theorem tot_Server {x:List V} (h:Mats (lk .Server) x):∃ y,decServer x=some y:=tot_l h fun _ _ h=>tot_l h fun _ _ h=>tot_l h fun _ _ h=>tot_i h fun _ _ h=>tot_i h fun _ _ h=>tot_l h fun _ _ h=>tot_l h fun _ _ h=>tot_nil _ h
theorem tot_Frame {x:List V} (h:Mats (lk .Frame) x):∃ y,decFrame x=some y:=tot_i h fun _ _ h=>tot_i h fun _ _ h=>tot_l h fun _ _ h=>tot_l h fun _ _ h=>tot_i h fun _ _ h=>tot_l h fun _ _ h=>tot_l h fun _ _ h=>tot_i h fun _ _ h=>tot_i h fun _ _ h=>tot_l h fun _ _ h=>tot_l h fun _ _ h=>tot_nil _ h
theorem tot_Timer {x:List V} (h:Mats (lk .Timer) x):∃ y,decTimer x=some y:=tot_b h fun _ _ h=>tot_i h fun _ _ h=>tot_i h fun _ _ h=>tot_i h fun _ _ h=>tot_nil _ h
theorem tot_Client {x:List V} (h:Mats (lk .Client) x):∃ y,decClient x=some y:=tot_i h fun _ _ h=>tot_l h fun _ _ h=>tot_i h fun _ _ h=>tot_i h fun _ _ h=>tot_i h fun _ _ h=>tot_l h fun _ _ h=>tot_i h fun _ _ h=>tot_i h fun _ _ h=>tot_l h fun _ _ h=>tot_l h fun _ _ h=>tot_i h fun _ _ h=>tot_l h fun _ _ h=>tot_l h fun _ _ h=>tot_i h fun _ _ h=>tot_i h fun _ _ h=>tot_l h fun _ _ h=>tot_l h fun _ _ h=>tot_i h fun _ _ h=>tot_l h fun _ _ h=>tot_i h fun _ _ h=>tot_l h fun _ _ h=>tot_i h fun _ _ h=>tot_i h fun _ _ h=>tot_l h fun _ _ h=>tot_i h fun _ _ h=>tot_l h fun _ _ h=>tot_i h fun _ _ h=>tot_i h fun _ _ h=>tot_l h fun _ _ h=>tot_b h fun _ _ h=>tot_i h fun _ _ h=>tot_l h fun _ _ h=>tot_b h fun _ _ h=>tot_i h fun _ _ h=>tot_i h fun _ _ h=>tot_i h fun _ _ h=>tot_b h fun _ _ h=>tot_i h fun _ _ h=>tot_i h fun _ _ h=>tot_i h fun _ _ h=>tot_i h fun _ _ h=>tot_nil _ h
theorem tot_Wire {x:List V} (h:Mats (lk .Wire) x):∃ y,decWire x=some y:=tot_i h fun _ _ h=>tot_i h fun _ _ h=>tot_i h fun _ _ h=>tot_i h fun _ _ h=>tot_l h fun _ _ h=>tot_nil _ h
theorem tot_Note {x:List V} (h:Mats (lk .Note) x):∃ y,decNote x=some y:=tot_i h fun _ _ h=>tot_i h fun _ _ h=>tot_i h fun _ _ h=>tot_l h fun _ _ h=>tot_l h fun _ _ h=>tot_i h fun _ _ h=>tot_i h fun _ _ h=>tot_l h fun _ _ h=>tot_l h fun _ _ h=>tot_i h fun _ _ h=>tot_i h fun _ _ h=>tot_i h fun _ _ h=>tot_nil _ h
theorem tot_World {x:List V} (h:Mats (lk .World) x):∃ y,decWorld x=some y:=tot_i h fun _ _ h=>tot_l h fun _ _ h=>tot_l h fun _ _ h=>tot_l h fun _ _ h=>tot_l h fun _ _ h=>tot_i h fun _ _ h=>tot_i h fun _ _ h=>tot_l h fun _ _ h=>tot_l h fun _ _ h=>tot_l h fun _ _ h=>tot_i h fun _ _ h=>tot_l h fun _ _ h=>tot_l h fun _ _ h=>tot_l h fun _ _ h=>tot_nil _ h
theorem tot_Cur {x:List V} (h:Mats (lk .Cur) x):∃ y,decCur x=some y:=tot_l h fun _ _ h=>tot_i h fun _ _ h=>tot_i h fun _ _ h=>tot_nil _ h
theorem tot_Out {x:List V} (h:Mats (lk .Out) x):∃ y,decOut x=some y:=tot_i h fun _ _ h=>tot_i h fun _ _ h=>tot_i h fun _ _ h=>tot_i h fun _ _ h=>tot_l h fun _ _ h=>tot_l h fun _ _ h=>tot_i h fun _ _ h=>tot_l h fun _ _ h=>tot_l h fun _ _ h=>tot_i h fun _ _ h=>tot_i h fun _ _ h=>tot_l h fun _ _ h=>tot_l h fun _ _ h=>tot_nil _ h
theorem tot_Form {x:List V} (h:Mats (lk .Form) x):∃ y,decForm x=some y:=tot_i h fun _ _ h=>tot_s h fun _ _ h=>tot_nil _ h
theorem tot_Hash {x:List V} (h:Mats (lk .Hash) x):∃ y,decHash x=some y:=tot_l h fun _ _ h=>tot_l h fun _ _ h=>tot_i h fun _ _ h=>tot_nil _ h
theorem dec_total (t:TN) (x:List V) (h:Mats (lk t) x):∃ y,dec t x=some y:=by
  cases t with
  | byte=>
    cases h with
    | cons h r=>
      obtain ⟨a,h⟩:=h
      cases r
      refine ⟨a,?_⟩
      simp only [dec]
      rw [tk_val h];rfl
  | int=>exact tot_i h fun _ _ h=>tot_nil _ h
  | bool=>exact tot_b h fun _ _ h=>tot_nil _ h
  | str=>exact tot_s h fun _ _ h=>tot_nil _ h
  | bs=>exact tot_l h fun _ _ h=>tot_nil _ h
  | Addr=>exact tot_Addr h
  | Op=>exact tot_Op h
  | Event=>exact tot_Event h
  | Jar=>exact tot_Jar h
  | Dice=>exact tot_Dice h
  | Win=>exact tot_Win h
  | Ep=>exact tot_Ep h
  | Chan=>exact tot_Chan h
  | Cand=>exact tot_Cand h
  | Paths=>exact tot_Paths h
  | Sess=>exact tot_Sess h
  | Tab=>exact tot_Tab h
  | Credit=>exact tot_Credit h
  | Server=>exact tot_Server h
  | Frame=>exact tot_Frame h
  | Timer=>exact tot_Timer h
  | Client=>exact tot_Client h
  | Wire=>exact tot_Wire h
  | Note=>exact tot_Note h
  | World=>exact tot_World h
  | Cur=>exact tot_Cur h
  | Out=>exact tot_Out h
  | Form=>exact tot_Form h
  | Hash=>exact tot_Hash h
end Go.D
namespace Go.D
open Go.RowKit Go.ChangeShapes
section
variable {H:Type} {encH:TypeId × Value→H} {P:Program} {W:World}
def noRho:Nat→Option RI:=fun _=>none
def noBad:Nat→Prop:=fun _=>False
def kindsT (P:Program) (tn:TypeId→Option TN):Nat→TypeId→Option (List LK)
  | 0,_=>none
  | d+1,t=>match P.underlying t with
    | some (.int .i64)=>some [.i]
    | some (.int .u8)=>some [.by]
    | some .bool=>some [.b]
    | some .string=>some [.s]
    | some (.slice e)=>(tn e).map fun t=>[.l t]
    | some (.struct fs)=>(kindsF (kindsT P tn d) P 0 fs.toList).bind fun ks=>bif Nat.beq (P.cellsOf t) ks.length then some ks else none
    | _=>none
where
  kindsF (f:TypeId→Option (List LK)) (P:Program):Nat→List Field→Option (List LK)
    | _,[]=>some []
    | k,x :: xs=>bif Nat.beq x.offset k then
        match f x.type with
        | some ks=>bif Nat.beq (P.cellsOf x.type) ks.length then (kindsF f P (k+ks.length) xs).map fun r=>ks++r else none
        | none=>none
      else none
structure KindsOk (P:Program) (tn:TypeId→Option TN) (D:Nat):Prop where
  ok:∀ e t,tn e=some t→kindsT P tn D e=some (lk t)∧P.cellsOf e=sz t
def VRs (W:World) (cs:List Value) (vs:List V):Prop:=cs.length=vs.length∧∀ j (hj:j<vs.length),VR W noRho noBad (cs.getD j undef) vs[j]
theorem VRs.one {c:Value} {v:V} (h:VR W noRho noBad c v):VRs W [c] [v]:=⟨rfl,fun j hj=>by
  have:j=0:=by simp at hj;omega
  subst this;exact h⟩
theorem VRs.app {a b:List Value} {x y:List V} (h:VRs W a x) (k:VRs W b y):VRs W (a++b) (x++y):=by
  refine ⟨by simp [h.1,k.1],fun j hj=>?_⟩
  by_cases hj1:j<x.length
  · rw [List.getElem_append_left hj1,getD_app1 _ _ _ _ (by rw [h.1];exact hj1)];exact h.2 j hj1
  · rw [List.getElem_append_right (by omega),getD_app2 _ _ _ _ (by rw [h.1];omega),h.1]
    exact k.2 _ (by simp at hj;omega)
theorem fits_wf {k:IntKind} {n:Int} (h:(Lit.int k n).wf=true):Fits k n:=by
  simp only [Lit.wf,Bool.and_eq_true,decide_eq_true_eq] at h
  exact h
theorem mapM_some {α β:Type} {f:α→Option β}:∀ {l:List α} {r:List β},l.mapM f=some r→r.length=l.length∧∀ i (hi:i<l.length) (hr:i<r.length),f l[i]=some r[i]
  | [],r,h=>by simp at h;subst h;exact ⟨rfl,fun i hi=>by simp at hi⟩
  | x :: l,r,h=>by
    rw [List.mapM_cons] at h
    cases hx:f x with
    | none=>rw [hx] at h;simp at h
    | some y=>
      rw [hx] at h
      cases hl:l.mapM f with
      | none=>rw [hl] at h;simp at h
      | some ys=>
        rw [hl] at h;simp at h;subst h
        obtain ⟨h1,h2⟩:=mapM_some hl
        refine ⟨by simp [h1],fun i hi hr=>?_⟩
        cases i with
        | zero=>exact hx
        | succ i=>exact h2 i (by simpa using hi) (by simpa using hr)
theorem choose_list {α:Type} {p:Nat→α→Prop}:∀ (n:Nat),(∀ i,i<n→∃ x,p i x)→∃ l:List α,l.length=n∧∀ i (hi:i<l.length),p i l[i]
  | 0,_=>⟨[],rfl,fun i hi=>by simp at hi⟩
  | n+1,h=>by
    obtain ⟨l,h1,h2⟩:=choose_list n (fun i hi=>h i (by omega))
    obtain ⟨x,hx⟩:=h n (by omega)
    refine ⟨l++[x],by simp [h1],fun i hi=>?_⟩
    by_cases hi1:i<l.length
    · rw [List.getElem_append_left hi1];exact h2 i hi1
    · have:i=n:=by simp at hi;omega
      subst this
      rw [List.getElem_append_right (by omega)]
      simpa [h1] using hx
theorem cells_some {a:Addr} {n:Nat} {cs:List Value} (h:W.cells? 0 a n=some cs):cs.length=n∧∀ i (_:i<n),W.cell? (a.add i)=some (cs.getD i undef):=by
  simp only [World.cells?,Nat.zero_le,if_true] at h
  obtain ⟨h1,h2⟩:=mapM_some h
  simp at h1
  refine ⟨h1,fun i hi=>?_⟩
  have:=h2 i (by simpa using hi) (by omega)
  simp only [List.getElem_range] at this
  rw [this,List.getD_eq_getElem?_getD,List.getElem?_eq_getElem (by omega)];rfl
theorem trod_vr {tn:TypeId→Option TN} {D:Nat} (hK:KindsOk P tn D) {sp:Nat→Bool} {held:Bool}:∀ (fuel:Nat) (T:TypeId) (cs:List Value) (x:DataW H × List MemPlace) (d:Nat) (ks:List LK),
    DataW.trod encH P W 0 sp held fuel T cs=some x→kindsT P tn d T=some ks→∃ vs,VRs W cs vs∧Mats ks vs
  | 0,T,cs,x,d,ks,h,hk=>by simp [DataW.trod] at h
  | fuel+1,T,cs,x,0,ks,h,hk=>by simp [kindsT] at hk
  | fuel+1,T,cs,x,d+1,ks,h,hk=>by
    have slice:∀ e,P.underlying T=some (.slice e)→(tn e).map (fun t=>[LK.l t])=some ks→∃ vs,VRs W cs vs∧Mats ks vs:=fun e hu hk=>by
      obtain ⟨t,ht,hk⟩:=Option.map_eq_some_iff.1 hk
      subst hk
      obtain ⟨kk,hsz⟩:=hK.ok e t ht
      cases cs with
      | nil=>simp [DataW.trod,hu] at h
      | cons v r=>
      cases r with
      | cons v2 r2=>cases v <;> simp [DataW.trod,hu] at h
      | nil=>
      have hv:∃ ao len cap,v= .slice ao len cap:=by cases v <;> first | exact ⟨_,_,_,rfl⟩ | simp [DataW.trod,hu] at h
      obtain ⟨ao,len,cap,rfl⟩:=hv
      cases ao with
      | none=>
        have hz:len=0∧cap=0:=by
          cases len <;> cases cap <;> simp [DataW.trod,hu] at h
          exact ⟨rfl,rfl⟩
        obtain ⟨rfl,rfl⟩:=hz
        exact ⟨[.nil],VRs.one .nil, .cons ⟨[],rfl⟩ .nil⟩
      | some a=>
        simp only [DataW.trod,hu] at h
        split at h
        case isFalse=>cases h
        rename_i hcnd
        obtain ⟨_,hlen,hcap⟩:=hcnd
        obtain ⟨elems,hel,_⟩:=Option.bind_eq_some_iff.1 h
        rw [hsz] at hel
        obtain ⟨m1,m2⟩:=mapM_some hel
        simp at m1
        have one:∀ i,i<len→∃ y:El t,∃ u:List Value,W.cells? 0 (a.add (i *sz t)) (sz t)=some u∧∀ j (_:j<sz t),VR W noRho noBad (u.getD j undef) ((enc t y).getD j .undef):=fun i hi=>by
          have h1:=m2 i (by simpa using hi) (by omega)
          simp only [List.getElem_range] at h1
          obtain ⟨u,h2,h3⟩:=Option.bind_eq_some_iff.1 h1
          obtain ⟨vs,h4,h5⟩:=trod_vr hK fuel e u _ D (lk t) h3 kk
          obtain ⟨y,h6⟩:=dec_total t vs h5
          have h7:=dec_sub t h6
          refine ⟨y,u,h2,fun j hj=>?_⟩
          have hj2:j<(enc t y).length:=by rw [enc_length];exact hj
          have hj1:j<vs.length:=by rw [h7.len];exact hj2
          rw [List.getD_eq_getElem?_getD (l:=enc t y),List.getElem?_eq_getElem hj2]
          exact VR.sub (h7.get j hj1 hj2) (h4.2 j hj1)
        obtain ⟨l,hl1,hl2⟩:=choose_list (p:=fun i y=>∃ u:List Value,W.cells? 0 (a.add (i *sz t)) (sz t)=some u∧∀ j (_:j<sz t),VR W noRho noBad (u.getD j undef) ((enc t y).getD j .undef)) len one
        refine ⟨[.sl t l],VRs.one ?_, .cons ⟨l,by simp [asL,TN.cast]⟩ .nil⟩
        cases l with
        | nil=>
          simp at hl1;subst hl1
          exact .slE t _ cap hcap
        | cons y0 l0=>
        -- there is a cell:the address is a plain one
        obtain ⟨u0,hu0,_⟩:=hl2 0 (by simp)
        have hc0:=(cells_some hu0).2 0 (sz_pos t)
        have hspot:a.spot=none:=by
          simp only [World.cell?] at hc0
          split at hc0
          · simp only [Addr.add,Nat.zero_mul,if_true] at hc0
            cases hs:a.spot with
            | none=>rfl
            | some _=>rw [hs] at hc0;simp at hc0
          · cases hc0
        obtain ⟨b,off,spot⟩:=a
        simp only at hspot;subst hspot
        subst hl1
        refine .slC t _ b off cap (fun i j=>(W.cell? (at_ b (off+i *sz t+j))).getD undef) (fun h=>h) hlen hcap (fun i hi j hj=>?_) (fun i hi j hj=>?_)
        · obtain ⟨u,h1,_⟩:=hl2 i hi
          have:=(cells_some h1).2 j hj
          have e:((⟨b,off,none⟩:Addr).add (i *sz t)).add j=at_ b (off+i *sz t+j):=by
            show ((at_ b off).add (i *sz t)).add j=_
            rw [add_at,add_at]
          rw [e] at this
          rw [this];rfl
        · obtain ⟨u,h1,h2⟩:=hl2 i hi
          have:=(cells_some h1).2 j hj
          have e:((⟨b,off,none⟩:Addr).add (i *sz t)).add j=at_ b (off+i *sz t+j):=by
            show ((at_ b off).add (i *sz t)).add j=_
            rw [add_at,add_at]
          rw [e] at this
          rw [this];exact h2 j hj
    simp only [kindsT] at hk
    cases hu:P.underlying T with
    | none=>rw [hu] at hk;cases hk
    | some td=>
      rw [hu] at hk
      cases td with
      | int k=>
        cases cs with
        | nil=>simp [DataW.trod,hu] at h
        | cons v r=>
        cases r with
        | cons v2 r2=>cases v <;> simp [DataW.trod,hu] at h
        | nil=>
        cases v with
        | int k' n=>
          simp only [DataW.trod,hu] at h
          split at h
          case isFalse=>cases h
          rename_i hcnd
          obtain ⟨rfl,hw⟩:=hcnd
          have hf:=fits_wf hw
          refine ⟨[.int k' n],VRs.one (.int _ _ hf),?_⟩
          cases k' <;> simp at hk <;> subst hk
          · exact .cons ⟨n,rfl⟩ .nil
          · exact .cons ⟨_,rfl⟩ .nil
        | _=>simp [DataW.trod,hu] at h
      | bool=>
        cases cs with
        | nil=>simp [DataW.trod,hu] at h
        | cons v r=>
        cases r with
        | cons v2 r2=>cases v <;> simp [DataW.trod,hu] at h
        | nil=>
        cases v with
        | bool b=>
          simp at hk;subst hk
          exact ⟨[.bool b],VRs.one (.bool _), .cons ⟨b,rfl⟩ .nil⟩
        | _=>simp [DataW.trod,hu] at h
      | string=>
        cases cs with
        | nil=>simp [DataW.trod,hu] at h
        | cons v r=>
        cases r with
        | cons v2 r2=>cases v <;> simp [DataW.trod,hu] at h
        | nil=>
        cases v with
        | string s=>
          simp only [DataW.trod,hu] at h
          split at h
          case isFalse=>cases h
          rename_i hs
          simp at hk;subst hk
          refine ⟨[.str s.data.toList],VRs.one ?_, .cons ⟨_,rfl⟩ .nil⟩
          have hs2:s.data.toList.length≤maxLen:=by
            rw [Array.length_toList];exact hs
          exact VR.str (w:=W) (ρ:=noRho) (bad:=noBad) s.data.toList hs2
        | _=>simp [DataW.trod,hu] at h
      | slice e=>exact slice e hu hk
      | struct fs=>
        unfold DataW.trod at h
        rw [hu] at h
        simp only at h
        split at h
        case isFalse=>cases h
        rename_i hlen
        obtain ⟨xs,hxs,_⟩:=Option.map_eq_some_iff.1 h
        clear h slice
        -- the fields
        have go:∀ (l:List Field) (k:Nat) (ks:List LK) (xs:List (DataW H × List MemPlace)),kindsT.kindsF (kindsT P tn d) P k l=some ks→
            l.mapM (fun f=>DataW.trod encH P W 0 sp held fuel f.type ((cs.drop f.offset).take (P.cellsOf f.type)))=some xs→
            ∃ vs,Mats ks vs∧k+vs.length≤max k cs.length∧VRs W ((cs.drop k).take vs.length) vs:=by
          intro l
          induction l with
          | nil=>
            intro k ks xs hk _
            simp [kindsT.kindsF] at hk;subst hk
            exact ⟨[], .nil,by simp;omega,by simp,fun j hj=>by simp at hj⟩
          | cons f l ih=>
            intro k ks xs hk hx
            simp only [kindsT.kindsF] at hk
            cases hb:Nat.beq f.offset k
            case false=>simp [hb] at hk
            have hoff:=Nat.eq_of_beq_eq_true hb
            simp only [hb,cond_true] at hk
            split at hk
            case h_2=>cases hk
            rename_i k0 hk0
            cases hb2:Nat.beq (P.cellsOf f.type) k0.length
            case false=>simp [hb2] at hk
            have hcl:=Nat.eq_of_beq_eq_true hb2
            simp only [hb2,cond_true] at hk
            obtain ⟨r,hr,rfl⟩:=Option.map_eq_some_iff.1 hk
            rw [List.mapM_cons] at hx
            cases h0:DataW.trod encH P W 0 sp held fuel f.type ((cs.drop f.offset).take (P.cellsOf f.type)) with
            | none=>rw [h0] at hx;simp at hx
            | some y=>
              rw [h0] at hx
              cases h1:l.mapM (fun f=>DataW.trod encH P W 0 sp held fuel f.type ((cs.drop f.offset).take (P.cellsOf f.type))) with
              | none=>rw [h1] at hx;simp at hx
              | some ys=>
                obtain ⟨v0,g1,g2⟩:=trod_vr hK fuel f.type _ y d k0 h0 hk0
                have hv0:v0.length=k0.length:=g2.len.symm
                rw [← hoff] at hr ⊢
                obtain ⟨vs,e1,e2,e3⟩:=ih (f.offset+k0.length) r ys hr h1
                have hl0:=g1.1
                rw [hcl] at hl0 g1
                simp only [List.length_take,List.length_drop] at hl0
                refine ⟨v0++vs,g2.app e1,by simp;omega,?_⟩
                have es:(cs.drop f.offset).take (v0++vs).length=(cs.drop f.offset).take k0.length++(cs.drop (f.offset+k0.length)).take vs.length:=by
                  rw [List.length_append,hv0,List.take_add,List.drop_drop]
                rw [es]
                exact g1.app e3
        obtain ⟨ks',hk1,hk2⟩:=Option.bind_eq_some_iff.1 hk
        cases hb:Nat.beq (P.cellsOf T) ks'.length
        case false=>simp [hb] at hk2
        have hcl:=Nat.eq_of_beq_eq_true hb
        simp only [hb,cond_true,Option.some.injEq] at hk2
        subst hk2
        obtain ⟨vs,e1,e2,e3⟩:=go fs.toList 0 ks' xs hk1 hxs
        have hvl:vs.length=cs.length:=by rw [← e1.len,hlen,hcl]
        refine ⟨vs,?_,e1⟩
        rw [List.drop_zero,List.take_of_length_le (by omega)] at e3
        exact e3
      | _=>simp at hk
def tyOk (P:Program) (tn:TypeId→Option TN) (D:Nat) (T:TypeId):Ty→Bool
  | .v t=>(match P.underlying T with
      | some (.struct _)=>t.isAgg
      | some (.int _) | some .bool | some .string=>!t.isAgg
      | _=>false)&&decide (kindsT P tn D T=some (lk t))
  | .sl t=>(match P.underlying T with
      | some (.slice _)=>true
      | _=>false)&&decide (kindsT P tn D T=some [.l t])
  | _=>false
theorem arg_vr {tn:TypeId→Option TN} {D:Nat} (hK:KindsOk P tn D) {sp:Nat→Bool} {held:Bool} {T:TypeId} {ty:Ty} (hty:tyOk P tn D T ty=true) {v:Value} {d:DataW H} {ps:List MemPlace}
    (h:DataW.Trod encH P W 0 sp held T v d ps) {r:Reach} {b:Nat} (hw:Value.okWide P W r b T v):∃ x:ty.T,VR W noRho noBad v (encTy ty x)∧decTy ty (encTy ty x)=some x:=by
  obtain ⟨fuel,h⟩:=h
  -- a value of one cell
  have hone:(∀ fs,P.underlying T≠some (.struct fs))→(∀ n e,P.underlying T≠some (.array n e))→v.cells.toList=[v]:=fun h1 h2=>by
    unfold Value.okWide at hw
    split at hw
    · rename_i fs hu;exact absurd hu (h1 _)
    · rename_i hu;exact absurd hu (h2 _ _)
    · cases v with
      | agg cs=>
        exfalso
        unfold Cell.okWide at hw
        split at hw <;> simp_all [Cell.ok]
      | _=>rfl
  cases ty with
  | v t=>
    simp only [tyOk,Bool.and_eq_true,decide_eq_true_eq] at hty
    obtain ⟨vs,h1,h2⟩:=trod_vr hK fuel T _ _ D _ h hty.2
    obtain ⟨x,hx⟩:=dec_total t vs h2
    have hs:=dec_sub t hx
    have hd:dec t (enc t x)=some x:=by
      cases t <;> first | rfl | (simp [dec,enc,tk,asBy,fin];done)
    refine ⟨x,?_⟩
    have hcell:∀ j (hj:j<(enc t x).length),VR W noRho noBad (v.cells.toList.getD j undef) (enc t x)[j]:=fun j hj=>VR.sub (hs.get j (by rw [hs.len];exact hj) hj) (h1.2 j (by rw [hs.len];exact hj))
    cases hag:t.isAgg
    · obtain ⟨c,hc⟩:=enc_one t hag x
      have hv:v.cells.toList=[v]:=by
        refine hone (fun fs hu=>?_) (fun n e hu=>?_)
        · rw [hu] at hty;simp [hag] at hty
        · rw [hu] at hty;simp at hty
      have he:encTy (.v t) x=c:=by simp [encTy,encV,hag,hc]
      rw [he]
      have h0:=hcell 0 (by rw [hc];simp)
      simp only [hv,hc,List.getElem_cons_zero] at h0
      refine ⟨h0,?_⟩
      rw [hc] at hd
      cases c <;> first | (simp only [decTy,hag,cond_false];exact hd) | skip
      exfalso
      have:=enc_leaf t x
      rw [hc] at this;simp [V.leaf] at this
    · have hu:∃ fs,P.underlying T=some (.struct fs):=by
        revert hty
        cases P.underlying T with
        | none=>simp
        | some td=>cases td <;> simp [hag]
      obtain ⟨fs,hu⟩:=hu
      unfold Value.okWide at hw
      rw [hu] at hw
      obtain ⟨cs,rfl,hsz,_⟩:=hw
      have he:encTy (.v t) x= .agg (enc t x):=by simp [encTy,encV,hag]
      rw [he]
      refine ⟨.agg _ _ ?_ fun j hj=>?_,by simp only [decTy,hag,cond_true];exact hd⟩
      · have:=h1.1
        simp only [Value.cells,Array.length_toList] at this
        rw [this,hs.len]
      · have:=hcell j hj
        simp only [Value.cells] at this
        rw [Array.getD_eq_getD_getElem?];rw [List.getD_eq_getElem?_getD] at this
        simpa using this
  | sl t=>
    simp only [tyOk,Bool.and_eq_true,decide_eq_true_eq] at hty
    obtain ⟨vs,h1,h2⟩:=trod_vr hK fuel T _ _ D _ h hty.2
    obtain ⟨c,r,rfl,⟨l,hl⟩,hr⟩:=h2.take
    cases hr
    have hv:v.cells.toList=[v]:=by
      refine hone (fun fs hu=>?_) (fun n e hu=>?_)
      · rw [hu] at hty;simp at hty
      · rw [hu] at hty;simp at hty
    refine ⟨l,?_,by simp [decTy,encTy,asL,TN.cast]⟩
    have h0:=h1.2 0 (by simp)
    simp only [hv] at h0
    exact VR.sub (asL_sub hl) h0
  | _=>simp [tyOk] at hty
def tysOk (P:Program) (tn:TypeId→Option TN) (D:Nat):List TypeId→List Ty→Bool
  | [],[]=>true
  | T :: Ts,t :: ts=>tyOk P tn D T t&&tysOk P tn D Ts ts
  | _,_=>false
theorem args_vr {tn:TypeId→Option TN} {D:Nat} (hK:KindsOk P tn D) {sp:Nat→Bool} {held:Bool} {r:Reach} {b:Nat}:∀ (Ts:List TypeId) (ats:List Ty) (vs:List Value) (ds:List (DataW H)) (ps:List MemPlace),
    tysOk P tn D Ts ats=true→DataW.TrodAll encH P W 0 sp held Ts vs ds ps→(∀ (j:Nat) t v,Ts[j]?=some t→vs[j]?=some v→Value.okWide P W r b t v)→
    vs.length=ats.length∧∃ x:TyTup ats,decTup ats (encTup ats x)=some x∧(encTup ats x).length=ats.length∧∀ j (hj:j<(encTup ats x).length),VR W noRho noBad (vs.getD j undef) (encTup ats x)[j]
  | [],[],vs,ds,ps,_,h,_=>by
    cases vs <;> cases ds <;> simp [DataW.TrodAll] at h
    exact ⟨rfl,(),rfl,rfl,fun j hj=>by simp [encTup] at hj⟩
  | [],_ :: _,vs,ds,ps,ht,_,_=>by simp [tysOk] at ht
  | _ :: _,[],vs,ds,ps,ht,_,_=>by simp [tysOk] at ht
  | T :: Ts,t :: ts,vs,ds,ps,ht,h,hw=>by
    simp only [tysOk,Bool.and_eq_true] at ht
    obtain ⟨v,vs',d,ds',p,q,rfl,rfl,rfl,h0,h1⟩:=ChangeShapes.trodAll_cons h
    obtain ⟨x0,k1,k2⟩:=arg_vr hK ht.1 h0 (hw 0 T v rfl rfl)
    obtain ⟨e1,y,e2,e3,e4⟩:=args_vr hK Ts ts vs' ds' q ht.2 h1 (fun j t v h1 h2=>hw (j+1) t v h1 h2)
    refine ⟨by simp [e1],?_⟩
    cases ts with
    | nil=>
      refine ⟨x0,by simpa [decTup,encTup] using k2,rfl,fun j hj=>?_⟩
      have:j=0:=by simp [encTup] at hj;omega
      subst this;exact k1
    | cons d r=>
      refine ⟨(x0,y),?_,by simp [encTup] at e3 ⊢;exact e3,fun j hj=>?_⟩
      · simp only [decTup,encTup]
        rw [k2];simp only [Option.bind_some];rw [e2];rfl
      · cases j with
        | zero=>exact k1
        | succ j=>exact e4 j (by simpa [encTup] using hj)
def plains (n:Nat):List ArgK:=List.replicate n .plain
theorem entS_plain:∀ (n k:Nat) (as:List V),as.length=n→entS (plains n) k as=as∧entH (plains n) k as=fun _=>none
  | 0,k,[],_=>⟨rfl,rfl⟩
  | 0,k,_ :: _,h=>by simp at h
  | n+1,k,[],h=>by simp at h
  | n+1,k,a :: as,h=>by
    obtain ⟨h1,h2⟩:=entS_plain n (k+1) as (by simpa using h)
    refine ⟨?_,?_⟩
    · show a :: entS (plains n) (k+1) as=_;rw [h1]
    · show entH (plains n) (k+1) as=_;exact h2
theorem law_calls {tn:TypeId→Option TN} {D:Nat} (hK:KindsOk P tn D) {f:Nat} {ats:List Ty} {F:TyTup ats→Option Bool} {n:Nat}
    {g:Gl} (hg:g.p W) (hc:Contract P f ⟨plains n,TyTup ats,TyTup [.v .bool],decTup ats,F,flatTup [.v .bool],[(false,1)],[],false⟩ g) (hn:ats.length=n) (hF:∀ x,F x=some true) {Ts:List TypeId} (ht:tysOk P tn D Ts ats=true)
    {sp:Nat→Bool} {held:Bool} {r:Reach} {b:Nat} {args:Array Value} {ds:List (DataW H)} {ps:List MemPlace} (h:DataW.TrodAll encH P W 0 sp held Ts args.toList ds ps)
    (hw:∀ (j:Nat) t v,Ts[j]?=some t→args[j]?=some v→Value.okWide P W r b t v) (hent:(callFunc f args).run P W= .ok (.enter f args) W):
    Calls P f args W fun e W'=>e= .returned (.bool true)∧Below W.heap.size W W':=by
  obtain ⟨h1,x,h2,h3,h4⟩:=args_vr hK Ts ats args.toList ds ps ht h (fun j t v h5 h6=>hw j t v h5 (by simpa using h6))
  have hlen:(encTup ats x).length=n:=by rw [h3,hn]
  obtain ⟨e1,e2⟩:=entS_plain n 0 (encTup ats x) hlen
  have hp:(plains n).length=n:=by simp [plains]
  have hbad:∀ b,Bad noBad noRho (entH (plains n) 0 (encTup ats x)) b→noBad b:=by
    rintro b (h | ⟨q,row,ri,h,_⟩)
    · exact h
    · rw [e2] at h;cases h
  have hemp:∀ h:Nat→Option Row,h=(fun _=>none)→HRel W noBad noBad noRho h W:=fun h he=>by
    subst he
    exact ⟨Wx.refl _,fun _ _ _=>rfl,fun b hb=>hb.elim,fun r row hr=>(by cases hr),fun q q' row row' qi qi' hq=>(by cases hq)⟩
  have G:=hc W args (encTup ats x) noBad noBad noRho x true 0 [] (by simp at h1;rw [hp];omega) (by rw [e1,hp,hlen])
    (hemp (entH (plains n) 0 (encTup ats x)) e2)
    (fun j hj=>by
      have hj2:j<(encTup ats x).length:=by rw [← e1];exact hj
      have h5:=h4 j hj2
      have h6:(entS (plains n) 0 (encTup ats x))[j]=(encTup ats x)[j]:=by simp only [e1]
      rw [h6]
      rw [Array.getD_eq_getD_getElem?];rw [List.getD_eq_getElem?_getD] at h5
      rw [Array.getElem?_toList] at h5
      exact h5.mono (fun _ _ h=>h) (fun _ _ _=>rfl) fun b hb=> .inl (hbad b hb))
    (fun _ _=>rfl) (by simp) (fun b hb=>by simp at hb) h2 (hF x) (by simp [flatTup,flatTy,enc]) ⟨hg,fun _ _ h=>h⟩
  rcases G with ⟨_,G⟩ | ⟨v,w',G,_⟩
  · refine Calls.mono' G fun e w' ⟨v,he,ρ',g1,g2,_⟩=>?_
    subst he
    refine ⟨?_,g1.wx.os,g1.wx.tape,g1.wx.output,g1.wx.size,fun k hk=>g1.old k hk fun h=>h⟩
    have g3:VR w' ρ' (Bad noBad ρ' (exX ⟨plains n,TyTup ats,TyTup [.v .bool],decTup ats,F,flatTup [.v .bool],[(false,1)],[],false⟩ (encTup ats x) [] 0 (flatTup [.v .bool] true))) v (.bool true):=g2
    cases g3;rfl
  · rw [hent] at G;cases G
theorem below_frozen {W W':World} (hb:Below W.heap.size W W') {b off:Nat} (h:b<W.heap.size):W'.frozen? ⟨b,off,none⟩=W.frozen? ⟨b,off,none⟩:=by
  simp only [World.frozen?,hb.block b h]
theorem trodAll_below (hl:laidOutB P=true) {W':World} (hb:Below W.heap.size W W') {sp':Nat→Bool}:∀ (ts:List TypeId) (vs:List Value) (ds:List (DataW H)) (ps:List MemPlace),
    (∀ t ∈ ts,P.readableRec t=true∧t<P.types.size)→DataW.TrodAll encH P W 0 (fun _=>true) true ts vs ds ps→(∀ x ∈ ps,x.block<W.heap.size)→(∀ x ∈ ps,sp' x.block=true)→DataW.TrodAll encH P W' 0 sp' true ts vs ds ps
  | [],vs,ds,ps,hr,h,hlt,hs=>by
    cases vs <;> cases ds <;> simp [DataW.TrodAll] at h ⊢
    exact h
  | t :: ts,vs,ds,ps,hr,h,hlt,hs=>by
    obtain ⟨v,vs',d,ds',p,q,rfl,rfl,rfl,h0,h1⟩:=ChangeShapes.trodAll_cons h
    refine ⟨p,q,WideElems.Trod_stays hl (hr t (by simp)).1 (hr t (by simp)).2 h0 (fun x hx=>hb.same (hlt x (by simp [hx]))) (fun x hx=>hs x (by simp [hx])),
      trodAll_below hl hb ts vs' ds' q (fun t ht=>hr t (List.mem_cons_of_mem _ ht)) h1 (fun x hx=>hlt x (by simp [hx])) (fun x hx=>hs x (by simp [hx])),rfl⟩
theorem law_post (hl:laidOutB P=true) {f:Func} {s:ChangeSpec} {apart fresh handsOn again:Bool} {W':World} {args:Array Value} {ds gs:List (DataW H)} {before:List MemPlace}
    (hts:∀ t ∈ f.params.toList,P.readableRec t=true∧t<P.types.size) (hvars:s.vars=[]) (hW:DataW.Whole encH P f.params.toList s.vars apart W args.toList ds gs before) (hb:Below W.heap.size W W')
    {T:TypeId} (hT:f.resultTypes= #[T]) (hbool:P.underlying T=some .bool) (hfn:s.fn H (ds++gs)= { results:=[.lit (.bool true)],args:=ds }):
    s.post encH P f apart fresh handsOn again W args (.bool true) W':=by
  obtain ⟨p,q,h1,h2,rfl,h3,h4⟩:=id hW
  rw [hvars] at h2
  have hq:gs=[]∧q=[]:=by cases gs <;> simp [DataW.TrodVars] at h2;exact ⟨rfl,h2⟩
  obtain ⟨rfl,rfl⟩:=hq
  have hlt:∀ x ∈ p,x.block<W.heap.size:=fun x hx=>hW.lt x (by simp [hx])
  have hargs:∀ sp:Nat→Bool,(∀ x ∈ p,sp x.block=true)→DataW.TrodAll encH P W' 0 sp true f.params.toList args.toList (s.fn H (ds++[])).args p:=fun sp hs=>by
    rw [hfn];exact trodAll_below hl hb _ _ _ _ hts h1 hlt hs
  have hres:∀ (b:Nat) (sp:Nat→Bool) (hd:Bool),DataW.TrodAll encH P W' b sp hd f.resultTypes.toList ((Value.bool true).resultList f.resultTypes.size) (s.fn H (ds++[])).results []:=fun b sp hd=>by
    rw [hfn,hT]
    refine ⟨[],[],RowKit.shut_bool hbool _,rfl,rfl⟩
  have hvs:∀ sp:Nat→Bool,DataW.TrodVars encH P W' sp s.vars (s.fn H (ds++[])).vars []:=fun sp=>by
    rw [hfn,hvars];rfl
  have hold:∀ x ∈ p,(fun b=>decide (b<W.heap.size)) x.block=true:=fun x hx=>by simpa using hlt x hx
  refine ⟨ds,[],p++[],[],p,[],hW,hres _ _ _,hargs _ hold,hvs _,?_,fun _=>⟨?_,_,_,([]++p)++[],⟨[]++p,[],trodAll_append (hargs _ (fun _ _=>rfl)) (hres _ _ _),hvs _,rfl,?_,?_⟩,?_⟩⟩
  · refine ⟨hb.os,hb.output,fun i hi=>?_⟩
    rw [hb.block i hi]
    exact (World.keptBut_refl W (fun x=>x ∈ p++[]∧(x ∈ []∨x ∈ p∨x ∈ []))).2.2 i hi
  · exact ok_one hT rfl (okWide_bool_mk hbool _)
  · intro c off hp
    have hp':MemPlace.cell c off ∈ p++[]:=by simpa using hp
    have:=hlt (.cell c off) (by simpa using hp')
    rw [below_frozen (b:=c) (off:=off) hb this]
    exact h3 c off hp'
  · intro ha
    have:=h4 ha
    simpa using this
  · intro x hx _
    simpa using hx
theorem enter_ok {f : Nat} {fn : Func} {body : Code} (hf : P.funcs[f]? = some fn) (hb : fn.body = some body) (hname : (fn.name == "runtime.NumGoroutine") = false) (args : Array Value) :
    (callFunc f args).run P W= .ok (.enter f args) W:=by
  have hname' : ¬ fn.name = "runtime.NumGoroutine" := by simpa using hname
  simp [callFunc,program,hf,hb,hname',Sem.run]
theorem law_rowG {g:Gl} (hg:g.p W) {tn:TypeId→Option TN} {D:Nat} (hK:KindsOk P tn D) {f:Nat} {fn:Func} {body:Code} {ats:List Ty} {F:TyTup ats→Option Bool} {n:Nat}
    (hc:Contract P f ⟨plains n,TyTup ats,TyTup [.v .bool],decTup ats,F,flatTup [.v .bool],[(false,1)],[],false⟩ g) (hn:ats.length=n) (hF:∀ x,F x=some true)
    (hf : P.funcs[f]? = some fn) (hb : fn.body = some body) (hname : (fn.name == "runtime.NumGoroutine") = false) (ht : tysOk P tn D fn.params.toList ats = true)
    (hl:laidOutB P=true) (hts:(fn.params.toList.all fun t=>P.readableRec t&&Nat.blt t P.types.size)=true) {T:TypeId} (hT:fn.resultTypes= #[T]) (hbool:P.underlying T=some .bool)
    {s:ChangeSpec} (hvars:s.vars=[]) {apart fresh handsOn again:Bool} {args:Array Value} {ds gs:List (DataW H)} {before:List MemPlace} {r:Reach} {b:Nat}
    (hW:DataW.Whole encH P fn.params.toList s.vars apart W args.toList ds gs before) (hfn:gs=[]→s.fn H (ds++gs)= { results:=[.lit (.bool true)],args:=ds })
    (hval:∀ (j:Nat) t v,fn.params[j]?=some t→args[j]?=some v→Value.okWide P W r b t v):
    Calls P f args W fun e W'=>∃ v,e= .returned v∧s.post encH P fn apart fresh handsOn again W args v W':=by
  obtain ⟨p,q,h1,h2,h3⟩:=id hW
  have hgs:gs=[]:=by
    rw [hvars] at h2
    cases gs
    · rfl
    · simp [DataW.TrodVars] at h2
  refine Calls.mono' (law_calls hK hg hc hn hF ht h1 (fun j t v h5 h6=>hval j t v (by simpa using h5) h6) (enter_ok hf hb hname args)) fun e W' ⟨he,hb⟩=>⟨_,he,law_post hl (fun t ht=>?_) hvars hW hb hT hbool (hfn hgs)⟩
  have:=List.all_eq_true.1 hts t ht
  simpa using this
theorem law_row {tn:TypeId→Option TN} {D:Nat} (hK:KindsOk P tn D) {f:Nat} {fn:Func} {body:Code} {ats:List Ty} {F:TyTup ats→Option Bool} {n:Nat}
    (hc:Contract P f ⟨plains n,TyTup ats,TyTup [.v .bool],decTup ats,F,flatTup [.v .bool],[(false,1)],[],false⟩) (hn:ats.length=n) (hF:∀ x,F x=some true)
    (hf : P.funcs[f]? = some fn) (hb : fn.body = some body) (hname : (fn.name == "runtime.NumGoroutine") = false) (ht : tysOk P tn D fn.params.toList ats = true)
    (hl:laidOutB P=true) (hts:(fn.params.toList.all fun t=>P.readableRec t&&Nat.blt t P.types.size)=true) {T:TypeId} (hT:fn.resultTypes= #[T]) (hbool:P.underlying T=some .bool)
    {s:ChangeSpec} (hvars:s.vars=[]) {apart fresh handsOn again:Bool} {args:Array Value} {ds gs:List (DataW H)} {before:List MemPlace} {r:Reach} {b:Nat}
    (hW:DataW.Whole encH P fn.params.toList s.vars apart W args.toList ds gs before) (hfn:gs=[]→s.fn H (ds++gs)= { results:=[.lit (.bool true)],args:=ds })
    (hval:∀ (j:Nat) t v,fn.params[j]?=some t→args[j]?=some v→Value.okWide P W r b t v):
    Calls P f args W fun e W'=>∃ v,e= .returned v∧s.post encH P fn apart fresh handsOn again W args v W':=
  law_rowG (g:=noGl) trivial hK hc hn hF hf hb hname ht hl hts hT hbool hvars hW hfn hval
end
end Go.D

/-
  One operation, continued: numbers, texts, parts of slices.
-/
import Derived.Test.YtinolgjddfjojaaGreatL2
import Derived.Deep.Upon
namespace Go.D
theorem fdiv_fits (k:IntKind) (n:Int) (m:Nat) (h:Fits k n):Fits k (n.fdiv (2^m)):=by
  have hp:(0:Int)<2^m:=Int.pow_pos (by decide)
  rw [Int.fdiv_eq_ediv_of_nonneg _ (Int.le_of_lt hp)]
  obtain ⟨h1,h2⟩:=h
  have hmin:k.min≤0:=by cases k <;> decide
  have hmax:0≤k.max:=by cases k <;> decide
  by_cases hn:0≤n
  · have a1:=Int.ediv_nonneg hn (Int.le_of_lt hp)
    have a2:=Int.ediv_le_self (2^m) hn
    exact ⟨by omega,by omega⟩
  · have a1:n / 2^m<0:=Int.ediv_neg_of_neg_of_pos (by omega) hp
    have a2:n≤n / 2^m:=by
      rw [Int.le_ediv_iff_mul_le hp]
      have:1≤(2:Int)^m:=by omega
      have h3:=Int.mul_le_mul_of_nonpos_left (a:=n) (b:=2^m) (c:=1) (by omega) this
      simpa using h3
    exact ⟨by omega,by omega⟩
theorem tmod_fits (k:IntKind) (n m:Int) (h:Fits k n):Fits k (n.tmod m):=by
  obtain ⟨h1,h2⟩:=h
  have hmin:k.min≤0:=by cases k <;> decide
  have hmax:0≤k.max:=by cases k <;> decide
  have e1:=Int.natAbs_tmod n m
  have e2:=Nat.mod_le n.natAbs m.natAbs
  by_cases hn:0≤n
  · have a1:=Int.tmod_nonneg m hn
    exact ⟨by omega,by omega⟩
  · have e:n.tmod m= -((-n).tmod m):=by rw [Int.neg_tmod,Int.neg_neg]
    have a1:=Int.tmod_nonneg (a:= -n) m (by omega)
    exact ⟨by omega,by omega⟩
section
variable {C:Cx} {w0:World} {outer own:Nat→Prop} {ρ:Nat→Option RI} {st st':St} {a:Act} {w:World} {h:Nat→Option Row}
variable {o:Oper} {i:Nat} (hr:Rel C w0 outer own ρ st a w)
theorem binV_ok {bad:Nat→Prop} {op:BinOp} {t:TypeId} {vx vy:Value} {dx dy d:V} (hx:VR w ρ bad vx dx) (hy:VR w ρ bad vy dy)
    (hd:binV op dx dy=some d) (x y:Operand):∃ v,VR w ρ bad v d∧((do eqGuard op t x y vx vy;binOp op t vx vy):Sem Value).run C.P w= .ok v w:=by
  unfold binV at hd
  split at hd
  · rename_i k p k' q
    have hsame:∀ {α:Type} {y z:α},(bif decide (k=k') then some y else none)=some z→k=k'∧y=z:=fun h=>by
      by_cases hkk:k=k'
      · simp [hkk] at h;exact ⟨hkk,h⟩
      · simp [hkk] at h
    have hx':Fits k p:=by cases hx;assumption
    have hxv:vx= .int k p:=by cases hx;rfl
    have hyv:vy= .int k' q:=by cases hy;rfl
    subst hxv hyv
    cases op <;> simp only at hd <;> first
      | (obtain ⟨rfl,rfl⟩:=hsame hd;refine ⟨_, .int _ _ (wrap_fits _ _),?_⟩;simp [eqGuard,binOp,Op.intArith,Op.intBits];done)
      | (obtain ⟨rfl,rfl⟩:=hsame hd;refine ⟨_, .bool _,?_⟩;simp [eqGuard,binOp,Op.intCmp];done)
      | (split at hd
         · cases hd
         · cases hd;rename_i hq;refine ⟨_, .int _ _ (by first | exact wrap_fits _ _ | exact fdiv_fits _ _ _ hx'),?_⟩;simp [eqGuard,binOp,Op.shift,hq];done)
      | (cases hd;done)
  · rename_i p q
    have hxv:vx= .string ⟨p.toArray⟩:=by cases hx;rfl
    have hyv:vy= .string ⟨q.toArray⟩:=by cases hy;rfl
    subst hxv hyv
    cases op <;> first
      | (cases hd;done)
      | (cases hd;refine ⟨_, .bool _,?_⟩;simp [eqGuard,binOp,Op.stringOp];done)
  · cases hd
theorem binK_ok {bad:Nat→Prop} {op:BinOp} {t:TypeId} {vx vy:Value} {dx dy:V} {R:Type} {K:V→Option R} {r:R} (hx:VR w ρ bad vx dx) (hy:VR w ρ bad vy dy)
    (hk:binK op dx dy K=some r) (x y:Operand):
    ∃ d v,K d=some r∧VR w ρ bad v d∧((do eqGuard op t x y vx vy;binOp op t vx vy):Sem Value).run C.P w= .ok v w:=by
  unfold binK at hk
  split at hk
  · -- quo
    rename_i k p k' q
    by_cases hkk:k=k'
    case neg=>simp [hkk] at hk
    subst hkk
    cases hq:(q==0)
    case true=>simp [hq] at hk
    simp only [decide_true,cond_true,hq,cond_false] at hk
    cases hx;cases hy
    refine ⟨_, .int k (k.wrap (p.tdiv q)),hk, .int _ _ (wrap_fits _ _),?_⟩
    have:q≠0:=by simpa using hq
    simp [eqGuard,binOp,Op.intDiv,this]
  · rename_i k p k' q
    by_cases hkk:k=k'
    case neg=>simp [hkk] at hk
    subst hkk
    cases hq:(q==0)
    case true=>simp [hq] at hk
    simp only [decide_true,cond_true,hq,cond_false] at hk
    cases hx;cases hy
    refine ⟨_, .int k (p.tmod q),hk, .int _ _ (tmod_fits _ _ _ (by assumption)),?_⟩
    have:q≠0:=by simpa using hq
    simp [eqGuard,binOp,Op.intDiv,this]
  · rename_i k p k' q
    by_cases hq:q<0
    case pos=>simp [hq] at hk
    simp only [hq,decide_false,cond_false] at hk
    cases hx;cases hy
    refine ⟨_,_,hk, .int _ _ (wrap_fits _ _),?_⟩
    simp [eqGuard,binOp,Op.shift,hq]
  · rename_i k p k' q
    by_cases hq:q<0
    case pos=>simp [hq] at hk
    simp only [hq,decide_false,cond_false] at hk
    cases hx;cases hy
    refine ⟨_,_,hk, .int _ _ (fdiv_fits _ _ _ (by assumption)),?_⟩
    simp [eqGuard,binOp,Op.shift,hq]
  · rename_i p q
    by_cases hq:p.length+q.length≤LIM
    case neg=>simp [hq] at hk
    simp only [hq,decide_true,cond_true] at hk
    cases hx;cases hy
    have hl:LIM≤1000000000000:=by unfold LIM;decide
    refine ⟨_, .string ⟨(p++q).toArray⟩,hk, .str _ (by simp [maxLen];omega),?_⟩
    have h1:¬ (IntKind.i64.max<((p.length+q.length:Nat):Int)):=by
      simp only [IntKind.max,IntKind.signed,IntKind.bits];simp;omega
    have h2:(p.length:Int)+q.length≤IntKind.i64.max:=by
      simp only [IntKind.max,IntKind.signed,IntKind.bits];simp;omega
    have hs1:(⟨p.toArray⟩:ByteArray).size=p.length:=by simp [ByteArray.size]
    have hs2:(⟨q.toArray⟩:ByteArray).size=q.length:=by simp [ByteArray.size]
    simp [eqGuard,binOp,Op.stringOp,ByteArray.mk_append_mk,hs1,hs2]
    simp only [IntKind.max,IntKind.signed,IntKind.bits] at h2
    simp at h2
    omega
  · split at hk
    case h_2=>cases hk
    rename_i d hd
    obtain ⟨v,h1,h2⟩:=binV_ok (w:=w) hx hy hd (t:=t) x y
    exact ⟨d,v,hk,h1,h2⟩
end
end Go.D
namespace Go.D
section
variable {C:Cx} {w0:World} {outer own:Nat→Prop} {ρ:Nat→Option RI} {st st':St} {a:Act} {w:World} {h:Nat→Option Row}
theorem eqIn_int (n:Nat) {P:Program} {t:TypeId} {k:IntKind} (hu:P.underlying t=some (.int k)) (j:IntKind) (x y:Int):(Op.equalIn (n+1) t (.int j x) (.int j y)).run P w= .ok (x==y) w:=by
  rw [Op.equalIn];simp [run_underlyingC hu]
theorem eqIn_bool (n:Nat) {P:Program} {t:TypeId} (hu:P.underlying t=some .bool) (x y:Bool):(Op.equalIn (n+1) t (.bool x) (.bool y)).run P w= .ok (x==y) w:=by
  rw [Op.equalIn];simp [run_underlyingC hu]
theorem part_one {P:Program} {t:TypeId} (h1:isAggT P t=some false) {vs:Array Value} {k:Nat} (hk:k<vs.size):(part t vs k).run P w= .ok (vs.getD k undef) w:=by
  rw [Array.getD_eq_getD_getElem?,Array.getElem?_eq_getElem hk]
  simp [part,isAgg_run h1,Array.getElem?_eq_getElem hk]
def eqBody (n:Nat) (xs ys:Array Value) (f:Field) (_:Option Bool × Unit):Sem (ForInStep (Option Bool × Unit)):=
  if f.name ≠ "_" then do
    let __do_lift ← part f.type xs f.offset
    let __do_lift_1 ← part f.type ys f.offset
    let __do_lift ← Op.equalIn n f.type __do_lift __do_lift_1
    if (!__do_lift)=true then pure (ForInStep.done (some false,()))
      else pure (ForInStep.yield (none,()))
  else pure (ForInStep.yield (none,()))
theorem eq_loop (n:Nat) {P:Program} {bad:Nat→Prop} (xs ys:Array Value):∀ (fl:List Field) (ks:List Bool) (k:Nat) (dxs dys:List V) (b:Bool),flatFields P k fl=some ks→eqCells ks dxs dys=some b→
    k+fl.length≤xs.size→k+fl.length≤ys.size→(∀ j (hj:j<dxs.length),VR w ρ bad (xs.getD (k+j) undef) dxs[j])→(∀ j (hj:j<dys.length),VR w ρ bad (ys.getD (k+j) undef) dys[j])→
    (forIn fl ((none,()):Option Bool × Unit) (eqBody (n+1) xs ys)).run P w= .ok (bif b then (none,()) else (some false,())) w
  | [],ks,k,dxs,dys,b,hf,he,_,_,_,_=>by
    simp only [flatFields,Option.some.injEq] at hf
    subst hf
    cases dxs <;> cases dys <;> simp [eqCells] at he
    subst he;simp
  | f :: fl,ks,k,dxs,dys,b,hf,he,hx,hy,hvx,hvy=>by
    simp only [flatFields] at hf
    cases hb : (f.name != "_" && Nat.beq f.offset k)
    case false=>simp [hb] at hf
    simp only [hb,cond_true] at hf
    simp only [Bool.and_eq_true,bne_iff_ne,ne_eq] at hb
    obtain ⟨hname,hoff⟩:=hb
    have hoff:=Nat.eq_of_beq_eq_true hoff
    simp only [List.length_cons] at hx hy
    have main:∀ (dx dy:V) (dxs' dys':List V) (ks':List Bool) (q b':Bool),dxs=dx :: dxs'→dys=dy :: dys'→flatFields P (k+1) fl=some ks'→isAggT P f.type=some false→
        (Op.equalIn (n+1) f.type (xs.getD k undef) (ys.getD k undef)).run P w= .ok q w→eqCells ks' dxs' dys'=some b'→b=(bif q then b' else false)→
        (forIn (f :: fl) ((none,()):Option Bool × Unit) (eqBody (n+1) xs ys)).run P w= .ok (bif b then (none,()) else (some false,())) w:=fun dx dy dxs' dys' ks' q b' hdx hdy hrest hag h1 h2 h3=>by
      subst hdx hdy
      have hpx:=part_one (P:=P) (w:=w) hag (show k<xs.size by omega)
      have hpy:=part_one (P:=P) (w:=w) hag (show k<ys.size by omega)
      have ih:=eq_loop n xs ys fl ks' (k+1) dxs' dys' b' hrest h2 (by omega) (by omega)
        (fun j hj=>by have:=hvx (j+1) (by simp;omega);rwa [show k+(j+1)=k+1+j by omega] at this)
        (fun j hj=>by have:=hvy (j+1) (by simp;omega);rwa [show k+(j+1)=k+1+j by omega] at this)
      rw [List.forIn_cons,Sem.run_bind]
      have hb:(eqBody (n+1) xs ys f (none,())).run P w= .ok (bif q then ForInStep.yield (none,()) else ForInStep.done (some false,())) w:=by
        unfold eqBody
        rw [if_pos hname,hoff]
        simp only [Sem.run_bind,hpx,hpy,Result.andThen_ok,h1]
        cases q <;> simp
      rw [hb,Result.andThen_ok]
      subst h3
      cases q with
      | false=>simp
      | true=>simpa using ih
    split at hf
    · rename_i ks' hu hrest
      cases hf
      unfold eqCells at he
      split at he
      · simp_all
      · simp_all
      · rename_i ks'' p xs' q ys' h1
        cases h1
        obtain ⟨b',h3,h4⟩:=Option.map_eq_some_iff.1 he
        have hx0:=hvx 0 (by simp)
        have hy0:=hvy 0 (by simp)
        simp only [Nat.add_zero,List.getElem_cons_zero] at hx0 hy0
        have e1:xs.getD k undef= .bool p:=by generalize xs.getD k undef=v at hx0;cases hx0;rfl
        have e2:ys.getD k undef= .bool q:=by generalize ys.getD k undef=v at hy0;cases hy0;rfl
        exact main _ _ _ _ _ (p==q) b' rfl rfl hrest (by simp [isAggT,hu]) (by rw [e1,e2];exact eqIn_bool n hu p q) h3 h4.symm
      · cases he
    · rename_i ki ks' hu hrest
      cases hf
      unfold eqCells at he
      split at he
      · simp_all
      · rename_i ks'' j p xs' k' q ys' h1
        cases h1
        by_cases hjk:j=k'
        case neg=>simp [hjk] at he
        subst hjk
        simp only [decide_true,cond_true,Option.map_eq_some_iff] at he
        obtain ⟨b',h3,h4⟩:=he
        have hx0:=hvx 0 (by simp)
        have hy0:=hvy 0 (by simp)
        simp only [Nat.add_zero,List.getElem_cons_zero] at hx0 hy0
        have e1:xs.getD k undef= .int j p:=by generalize xs.getD k undef=v at hx0;cases hx0;rfl
        have e2:ys.getD k undef= .int j q:=by generalize ys.getD k undef=v at hy0;cases hy0;rfl
        exact main _ _ _ _ _ (p==q) b' rfl rfl hrest (by simp [isAggT,hu]) (by rw [e1,e2];exact eqIn_int n hu j p q) h3 h4.symm
      · rename_i h1;cases h1
      · cases he
    · cases hf
theorem flatFields_len {P:Program}:∀ (fl:List Field) (k:Nat) (ks:List Bool),flatFields P k fl=some ks→ks.length=fl.length
  | [],_,_,h=>by simp [flatFields] at h;subst h;rfl
  | f :: fl,k,ks,h=>by
    simp only [flatFields] at h
    cases hb : (f.name != "_" && Nat.beq f.offset k)
    case false=>simp [hb] at h
    simp only [hb,cond_true] at h
    split at h
    · rename_i ks' _ h1;cases h;simp [flatFields_len fl _ _ h1]
    · rename_i ks' _ h1;cases h;simp [flatFields_len fl _ _ h1]
    · cases h
theorem eqCells_len:∀ (ks:List Bool) (xs ys:List V) (b:Bool),eqCells ks xs ys=some b→xs.length=ks.length∧ys.length=ks.length
  | [],xs,ys,b,h=>by cases xs <;> cases ys <;> simp [eqCells] at h;exact ⟨rfl,rfl⟩
  | k :: ks,xs,ys,b,h=>by
    unfold eqCells at h
    split at h
    · rename_i h1;cases h1
    · rename_i ks' j p xs' k' q ys' h1
      cases h1
      cases hjk:decide (j=k')
      · simp [hjk] at h
      · simp only [hjk,cond_true,Option.map_eq_some_iff] at h
        obtain ⟨b',h2,_⟩:=h
        have:=eqCells_len _ _ _ _ h2
        simp [this]
    · rename_i ks' p xs' q ys' h1
      cases h1
      obtain ⟨b',h2,_⟩:=Option.map_eq_some_iff.1 h
      have:=eqCells_len _ _ _ _ h2
      simp [this]
    · cases h
theorem eqCells_split:∀ (k1 ks:List Bool) (xs ys:List V) (b:Bool),eqCells (k1++ks) xs ys=some b→
    ∃ b1 b2,eqCells k1 (xs.take k1.length) (ys.take k1.length)=some b1∧eqCells ks (xs.drop k1.length) (ys.drop k1.length)=some b2∧b=(bif b1 then b2 else false)
  | [],ks,xs,ys,b,h=>⟨true,b,by simp [eqCells],by simpa using h,rfl⟩
  | k :: k1,ks,xs,ys,b,h=>by
    rw [List.cons_append] at h
    unfold eqCells at h
    split at h
    · rename_i h1;cases h1
    · rename_i ks' j p xs' k' q ys' h1
      cases h1
      cases hjk:decide (j=k')
      · simp [hjk] at h
      · simp only [hjk,cond_true,Option.map_eq_some_iff] at h
        obtain ⟨b',h2,h3⟩:=h
        obtain ⟨b1,b2,e1,e2,e3⟩:=eqCells_split _ _ _ _ _ h2
        refine ⟨bif p==q then b1 else false,b2,?_,by simpa using e2,?_⟩
        · simp only [List.length_cons,List.take_succ_cons,eqCells,hjk,cond_true,e1,Option.map_some]
        · rw [← h3,e3];cases (p==q) <;> cases b1 <;> rfl
    · rename_i ks' p xs' q ys' h1
      cases h1
      obtain ⟨b',h2,h3⟩:=Option.map_eq_some_iff.1 h
      obtain ⟨b1,b2,e1,e2,e3⟩:=eqCells_split _ _ _ _ _ h2
      refine ⟨bif p==q then b1 else false,b2,?_,by simpa using e2,?_⟩
      · simp only [List.length_cons,List.take_succ_cons,eqCells,e1,Option.map_some]
      · rw [← h3,e3];cases (p==q) <;> cases b1 <;> rfl
    · cases h
theorem part_agg {P:Program} {t:TypeId} (h1:isAggT P t=some true) {n:Nat} (h2:sizeT P t=some n) {vs:Array Value} {k:Nat} (hk:k+n≤vs.size):
    (part t vs k).run P w= .ok (.agg (vs.extract k (k+n))) w:=by
  have:¬ vs.size<k+n:=by omega
  simp [part,isAgg_run h1,size_run h2]
theorem eq_struct (n:Nat) {P:Program} {bad:Nat→Prop} {t:TypeId} {gs:Array Field} (hu:P.underlying t=some (.struct gs)) (hst:P.stoodInHeld t=false) (xs ys:Array Value) (ks:List Bool) (dxs dys:List V) (b:Bool)
    (hf:flatFields P 0 gs.toList=some ks) (he:eqCells ks dxs dys=some b) (hx:dxs.length=xs.size) (hy:dys.length=ys.size)
    (hvx:∀ j (hj:j<dxs.length),VR w ρ bad (xs.getD j undef) dxs[j]) (hvy:∀ j (hj:j<dys.length),VR w ρ bad (ys.getD j undef) dys[j]):
    (Op.equalIn (n+2) t (.agg xs) (.agg ys)).run P w= .ok b w:=by
  have hlen:=flatFields_len _ _ _ hf
  obtain ⟨l1,l2⟩:=eqCells_len _ _ _ _ he
  have hloop:=eq_loop n (P:=P) (w:=w) xs ys gs.toList ks 0 dxs dys b hf he (by omega) (by omega) (by simpa using hvx) (by simpa using hvy)
  rw [Op.equalIn]
  simp only [Sem.run_bind,run_underlyingC hu,Result.andThen_ok,run_program,hst,Bool.false_eq_true,if_false]
  rw [← Array.forIn_toList]
  change ((forIn gs.toList ((none,()):Option Bool × Unit) (eqBody (n+1) xs ys)).run P w).andThen _=_
  rw [hloop,Result.andThen_ok]
  cases b <;> simp
theorem eq_loop2 (n:Nat) {P:Program} {bad:Nat→Prop} (xs ys:Array Value):∀ (fl:List Field) (ks:List Bool) (k:Nat) (dxs dys:List V) (b:Bool),flatFields2 P k fl=some ks→eqCells ks dxs dys=some b→
    k+dxs.length≤xs.size→k+dys.length≤ys.size→(∀ j (hj:j<dxs.length),VR w ρ bad (xs.getD (k+j) undef) dxs[j])→(∀ j (hj:j<dys.length),VR w ρ bad (ys.getD (k+j) undef) dys[j])→
    (forIn fl ((none,()):Option Bool × Unit) (eqBody (n+2) xs ys)).run P w= .ok (bif b then (none,()) else (some false,())) w
  | [],ks,k,dxs,dys,b,hf,he,_,_,_,_=>by
    simp only [flatFields2,Option.some.injEq] at hf
    subst hf
    cases dxs <;> cases dys <;> simp [eqCells] at he
    subst he;simp
  | f :: fl,ks,k,dxs,dys,b,hf,he,hx,hy,hvx,hvy=>by
    simp only [flatFields2] at hf
    cases hb : (f.name != "_" && Nat.beq f.offset k)
    case false=>simp [hb] at hf
    simp only [hb,cond_true] at hf
    simp only [Bool.and_eq_true,bne_iff_ne,ne_eq] at hb
    obtain ⟨hname,hoff⟩:=hb
    have hoff:=Nat.eq_of_beq_eq_true hoff
    have main:∀ (m:Nat) (ks':List Bool) (q b':Bool) (px py:Value),flatFields2 P (k+m) fl=some ks'→m≤dxs.length→m≤dys.length→
        (part f.type xs k).run P w= .ok px w→(part f.type ys k).run P w= .ok py w→
        (Op.equalIn (n+2) f.type px py).run P w= .ok q w→eqCells ks' (dxs.drop m) (dys.drop m)=some b'→b=(bif q then b' else false)→
        (forIn (f :: fl) ((none,()):Option Bool × Unit) (eqBody (n+2) xs ys)).run P w= .ok (bif b then (none,()) else (some false,())) w:=fun m ks' q b' px py hrest hm1 hm2 hpx hpy h1 h2 h3=>by
      have ih:=eq_loop2 n xs ys fl ks' (k+m) (dxs.drop m) (dys.drop m) b' hrest h2 (by simp;omega) (by simp;omega)
        (fun j hj=>by have:=hvx (m+j) (by simp at hj;omega);rw [List.getElem_drop];rwa [show k+(m+j)=k+m+j by omega] at this)
        (fun j hj=>by have:=hvy (m+j) (by simp at hj;omega);rw [List.getElem_drop];rwa [show k+(m+j)=k+m+j by omega] at this)
      rw [List.forIn_cons,Sem.run_bind]
      have hb:(eqBody (n+2) xs ys f (none,())).run P w= .ok (bif q then ForInStep.yield (none,()) else ForInStep.done (some false,())) w:=by
        unfold eqBody
        rw [if_pos hname,hoff]
        simp only [Sem.run_bind,hpx,hpy,Result.andThen_ok,h1]
        cases q <;> simp
      rw [hb,Result.andThen_ok]
      subst h3
      cases q with
      | false=>simp
      | true=>simpa using ih
    split at hf
    · rename_i hu
      split at hf
      case h_2=>cases hf
      rename_i ks' hrest
      cases hf
      unfold eqCells at he
      split at he
      · simp_all
      · simp_all
      · rename_i ks'' p xs' q ys' h1
        cases h1
        obtain ⟨b',h3,h4⟩:=Option.map_eq_some_iff.1 he
        have hx0:=hvx 0 (by simp)
        have hy0:=hvy 0 (by simp)
        simp only [Nat.add_zero,List.getElem_cons_zero] at hx0 hy0
        have e1:xs.getD k undef= .bool p:=by generalize xs.getD k undef=v at hx0;cases hx0;rfl
        have e2:ys.getD k undef= .bool q:=by generalize ys.getD k undef=v at hy0;cases hy0;rfl
        have hag:isAggT P f.type=some false:=by simp [isAggT,hu]
        simp only [List.length_cons] at hx hy
        exact main 1 ks' (p==q) b' _ _ hrest (by simp) (by simp) (part_one hag (show k<xs.size by omega)) (part_one hag (show k<ys.size by omega)) (by rw [e1,e2];exact eqIn_bool (n+1) hu p q) (by simpa using h3) h4.symm
      · cases he
    · rename_i ki hu
      split at hf
      case h_2=>cases hf
      rename_i ks' hrest
      cases hf
      unfold eqCells at he
      split at he
      · simp_all
      · rename_i ks'' j p xs' k' q ys' h1
        cases h1
        by_cases hjk:j=k'
        case neg=>simp [hjk] at he
        subst hjk
        simp only [decide_true,cond_true,Option.map_eq_some_iff] at he
        obtain ⟨b',h3,h4⟩:=he
        have hx0:=hvx 0 (by simp)
        have hy0:=hvy 0 (by simp)
        simp only [Nat.add_zero,List.getElem_cons_zero] at hx0 hy0
        have e1:xs.getD k undef= .int j p:=by generalize xs.getD k undef=v at hx0;cases hx0;rfl
        have e2:ys.getD k undef= .int j q:=by generalize ys.getD k undef=v at hy0;cases hy0;rfl
        have hag:isAggT P f.type=some false:=by simp [isAggT,hu]
        simp only [List.length_cons] at hx hy
        exact main 1 ks' (p==q) b' _ _ hrest (by simp) (by simp) (part_one hag (show k<xs.size by omega)) (part_one hag (show k<ys.size by omega)) (by rw [e1,e2];exact eqIn_int (n+1) hu j p q) (by simpa using h3) h4.symm
      · rename_i h1;cases h1
      · cases he
    · rename_i gs hu
      split at hf
      case h_2=>cases hf
      rename_i k1 hk1
      cases hg:(!(P.stoodInHeld f.type)&&decide (sizeT P f.type=some k1.length))
      case false=>simp [hg] at hf
      simp only [hg,cond_true] at hf
      simp only [Bool.and_eq_true,Bool.not_eq_true',decide_eq_true_eq] at hg
      split at hf
      case h_2=>cases hf
      rename_i ks' hrest
      cases hf
      obtain ⟨b1,b2,e1,e2,e3⟩:=eqCells_split _ _ _ _ _ he
      obtain ⟨l1,l2⟩:=eqCells_len _ _ _ _ he
      simp only [List.length_append] at l1 l2
      have hag:isAggT P f.type=some true:=by simp [isAggT,hu]
      refine main k1.length ks' b1 b2 _ _ hrest (by omega) (by omega) (part_agg hag hg.2 (by omega)) (part_agg hag hg.2 (by omega)) ?_ e2 e3
      refine eq_struct n (ρ:=ρ) (bad:=bad) hu hg.1 _ _ k1 _ _ b1 hk1 e1 (by simp;omega) (by simp;omega) (fun j hj=>?_) (fun j hj=>?_)
      · have:=hvx j (by simp at hj;omega)
        rw [List.getElem_take]
        rw [Array.getD_eq_getD_getElem?] at this ⊢
        have hq:k+j<xs.size:=by simp at hj;omega
        rw [Array.getElem?_extract_of_lt (by simp at hj;omega)]
        simpa [Array.getElem?_eq_getElem hq] using this
      · have:=hvy j (by simp at hj;omega)
        rw [List.getElem_take]
        rw [Array.getD_eq_getD_getElem?] at this ⊢
        have hq:k+j<ys.size:=by simp at hj;omega
        rw [Array.getElem?_extract_of_lt (by simp at hj;omega)]
        simpa [Array.getElem?_eq_getElem hq] using this
    · cases hf
variable {o:Oper} {i:Nat} (hr:Rel C w0 outer own ρ st a w)
include hr
theorem ok_binOp (op:BinOp) (t t':TypeId) (x y:Operand) (ho:o.op= .binOp op t x y t') (hk:stepK C i o st some=some st'):Does C.P o a w (After C w0 outer own i ρ st'):=by
  simp only [stepK,ho] at hk
  have hx:=hr.opd x
  have hy:=hr.opd y
  split at hk
  · rename_i dxs dys h1 h2
    rw [h1] at hx;rw [h2] at hy
    split at hk
    case h_2=>cases hk
    rename_i ks hks
    split at hk
    case h_2=>cases hk
    rename_i b hb
    unfold flatStruct at hks
    split at hks
    case h_2=>cases hks
    rename_i fs hu
    cases hg:(!(C.P.stoodInHeld t)&&!(C.P.eqGuardType C.P.depth t))
    case false=>simp [hg] at hks
    simp only [hg,cond_true] at hks
    simp only [Bool.and_eq_true,Bool.not_eq_true'] at hg
    cases hx':a.eval x <;> rw [hx'] at hx <;> cases hx
    cases hy':a.eval y <;> rw [hy'] at hy <;> cases hy
    rename_i xs hxs hxv ys hys hyv
    have hloop:=eq_loop2 9997 (P:=C.P) (w:=w) xs ys fs.toList ks 0 dxs dys b hks hb (by omega) (by omega) (by simpa using hxv) (by simpa using hyv)
    have heq:(Op.equal t (.agg xs) (.agg ys)).run C.P w= .ok b w:=by
      unfold Op.equal Op.maxDepth
      rw [Op.equalIn]
      simp only [Sem.run_bind,run_underlyingC hu,Result.andThen_ok,run_program,hg.1,Bool.false_eq_true,if_false]
      rw [← Array.forIn_toList]
      change ((forIn fs.toList ((none,()):Option Bool × Unit) (eqBody 9999 xs ys)).run C.P w).andThen _=_
      rw [hloop,Result.andThen_ok]
      cases b <;> simp
    have hguard:∀ op',(eqGuard op' t x y (.agg xs) (.agg ys)).run C.P w= .ok () w:=fun op'=>by
      unfold eqGuard
      split <;> simp [hg.2]
    cases op <;> first
      | (cases hk;done)
      | (refine does_value (w':=w) ?_ (hr.after (.bool _) hk)
         simp [execOp,ho,hx',hy',hguard,binOp,heq];done)
  · rename_i p q h1 h2
    rw [h1] at hx;rw [h2] at hy
    split at hk
    case h_2=>cases hk
    rename_i hu
    cases hx':a.eval x <;> rw [hx'] at hx <;> cases hx
    cases hy':a.eval y <;> rw [hy'] at hy <;> cases hy
    have heq:(Op.equal t (.bool p) (.bool q)).run C.P w= .ok (p==q) w:=by
      unfold Op.equal Op.maxDepth
      rw [Op.equalIn];simp [run_underlyingC hu]
    cases op <;> first
      | (cases hk;done)
      | (refine does_value (w':=w) ?_ (hr.after (.bool _) hk)
         simp [execOp,ho,hx',hy',eqGuard,binOp,heq];done)
  · rename_i b h1 h2
    rw [h1] at hx;rw [h2] at hy
    split at hk
    case h_2=>cases hk
    rename_i hu
    have heq:(Op.equal t (a.eval x) .nilIface).run C.P w= .ok b w:=by
      unfold Op.equal Op.maxDepth
      cases hx':a.eval x <;> rw [hx'] at hx <;> cases hx <;> rw [Op.equalIn] <;> simp [run_underlyingC hu]
    cases hy':a.eval (.const _) <;> rw [hy'] at hy <;> cases hy
    cases hx':a.eval x <;> rw [hx'] at hx heq <;> cases hx <;> cases op <;> first
      | (cases hk;done)
      | (refine does_value (w':=w) ?_ (hr.after (.bool _) hk)
         simp [execOp,ho,hx',hy',eqGuard,binOp,heq];done)
  · obtain ⟨d,v,h3,h4,h5⟩:=binK_ok (C:=C) hx hy hk (t:=t) x y
    refine does_value (v:=v) (w':=w) ?_ (hr.after h4 h3)
    have h5':((eqGuard op t x y (a.eval x) (a.eval y)).run C.P w).andThen (fun _ w'=>(binOp op t (a.eval x) (a.eval y)).run C.P w')= .ok v w:=by
      rw [← Sem.run_bind];exact h5
    simp only [execOp,ho,Sem.run_bind,Sem.run_pure]
    rw [h5'];rfl
end
end Go.D
namespace Go.D
section
variable {C:Cx} {w0:World} {outer own:Nat→Prop} {ρ:Nat→Option RI} {st st':St} {a:Act} {w:World} {h:Nat→Option Row}
theorem VR.ow_inv {bad:Nat→Prop} {v:Value} {r:Nat} {ri:RI} (h:VR w ρ bad v (.ow r)) (hρ:ρ r=some ri):
    (v= .slice (some (at_ ri.b 0)) ri.n ri.cap∧ri.nl=false∧ri.n≤ri.cap∧ri.cap≤maxLen)∨(∃ ao,v= .slice ao 0 0∧ri.nl=true∧ri.n=0):=by
  cases h with
  | ow _ ri' h1 h2 h3 h4=>rw [hρ] at h1;cases h1;exact .inl ⟨rfl,h4,h2,h3⟩
  | owN _ ri' ao h1 h2 h3=>rw [hρ] at h1;cases h1;exact .inr ⟨ao,rfl,h3,h2⟩
theorem VR.ov_inv {bad:Nat→Prop} {v:Value} {r off len:Nat} {t:TN} {ri:RI} (h:VR w ρ bad v (.ov r t off len)) (hρ:ρ r=some ri):
    ∃ ao cap,v= .slice ao len cap∧off+len≤ri.n∧(len=0∧cap=0∨ao=some (at_ ri.b (off *sz t))∧ri.nl=false∧off+cap≤ri.cap)∧len≤cap∧cap≤maxLen:=by
  cases h with
  | ov _ _ _ _ cap ao ri' h1 h2 h3 h4 h5=>rw [hρ] at h1;cases h1;exact ⟨ao,cap,rfl,h2,h3,h4,h5⟩
theorem VR.ov_row {bad:Nat→Prop} {v:Value} {r off len:Nat} {t:TN} (h:VR w ρ bad v (.ov r t off len)):∃ ri,ρ r=some ri:=by
  cases h with
  | ov _ _ _ _ cap ao ri' h1 h2 h3 h4 h5=>exact ⟨_,h1⟩
theorem VR.bp_inv {bad:Nat→Prop} {v:Value} {r off:Nat} (h:VR w ρ bad v (.bp r off)):∃ ri,ρ r=some ri∧v= .pointer (some (at_ ri.b off))∧ri.nl=false:=by
  cases h with
  | bp _ _ ri h1 h2=>exact ⟨ri,h1,rfl,h2⟩
theorem VR.sl_inv {bad:Nat→Prop} {v:Value} {t:TN} {l:List (El t)} (h:VR w ρ bad v (.sl t l)):
    ∃ ao cap,v= .slice ao l.length cap∧l.length≤cap∧cap≤maxLen∧(l=[]∨∃ b off,ao=some (at_ b off)∧¬ bad b∧
      ∀ i (hi:i<l.length) j,j<sz t→∃ u,w.cell? (at_ b (off+i *sz t+j))=some u∧VR w ρ bad u ((enc t l[i]).getD j .undef)):=by
  cases h with
  | slE _ ao cap h=>exact ⟨ao,cap,rfl,Nat.zero_le _,h, .inl rfl⟩
  | slC _ _ b off cap u hb hl hc hu hv=>exact ⟨_,cap,rfl,hl,hc, .inr ⟨b,off,rfl,hb,fun i hi j hj=>⟨_,hu i hi j hj,hv i hi j hj⟩⟩⟩
theorem VR.int_inv {bad:Nat→Prop} {v:Value} {k:IntKind} {n:Int} (h:VR w ρ bad v (.int k n)):v= .int k n∧Fits k n:=by
  cases h with
  | int _ _ h=>exact ⟨rfl,h⟩
theorem VR.str_inv {bad:Nat→Prop} {v:Value} {s:List UInt8} (h:VR w ρ bad v (.str s)):v= .string ⟨s.toArray⟩∧s.length≤maxLen:=by
  cases h with
  | str _ h=>exact ⟨rfl,h⟩
theorem tnIs_ok {e:TypeId} {t:TN} (hC:TnOk C) (h:tnIs C e t=true):sizeT C.P e=some (sz t):=by
  unfold tnIs at h
  split at h
  · rename_i t' h1
    have:t'=t:=by simpa using h
    subst this
    obtain ⟨i,z,h2,h3,_⟩:=hC.ok e t' h1
    simp [sizeT,h2,h3]
  · cases h
theorem idxI_some {α:Type} {l:List α} {n:Int} {x:α} (h:idxI l n=some x):0≤n∧∃ hk:n.toNat<l.length,l[n.toNat]=x:=by
  unfold idxI at h
  split at h
  · rename_i h0
    obtain ⟨h1,h2⟩:=List.getElem?_eq_some_iff.1 h
    exact ⟨h0,h1,h2⟩
  · cases h
theorem index_run {t e:TypeId} {s:Nat} {b off len cap:Nat} {k:IntKind} {n:Int} (hu:C.P.underlying t=some (.slice e)) (hs:sizeT C.P e=some s) (h0:0≤n) (h1:n<(len:Int)):
    (Instr.indexAt t (.slice (some (at_ b off)) len cap) (.int k n)).run C.P w= .ok (.pointer (some (at_ b (off+n.toNat *s)))) w:=by
  simp [Instr.indexAt,asIntOf,run_underlyingC hu,h0,h1,size_run hs,add_at]
theorem chain_ok {R:Type} {f:Nat→Option R} {i:Int} {r:R}:∀ (n k:Nat),chainK f i k n=some r→∃ j,i=((k+j:Nat):Int)∧j<n∧f (k+j)=some r
  | 0,k,h=>by simp [chainK] at h
  | n+1,k,h=>by
    simp only [chainK] at h
    cases hb:(i==(k:Int))
    · simp only [hb,cond_false] at h
      obtain ⟨j,h1,h2,h3⟩:=chain_ok n (k+1) h
      exact ⟨j+1,by rw [h1];congr 1;omega,by omega,by rw [show k+(j+1)=k+1+j by omega];exact h3⟩
    · simp only [hb,cond_true] at h
      exact ⟨0,by simpa using hb,by omega,by simpa using h⟩
variable {o:Oper} {i:Nat} (hr:Rel C w0 outer own ρ st a w)
include hr
theorem ok_indexAddr (hC:TnOk C) (t:TypeId) (x y:Operand) (ho:o.op= .indexAddr t x y) (hk:stepK C i o st some=some st'):Does C.P o a w (After C w0 outer own i ρ st'):=by
  simp only [stepK,ho] at hk
  have hx:=hr.opd x
  have hy:=hr.opd y
  split at hk
  case h_2=>cases hk
  rename_i kk n hny
  rw [hny] at hy
  have hyv:=hy.int_inv.1
  split at hk
  · rename_i e t' l hu hop
    rw [hop] at hx
    cases htn:tnIs C e t'
    case false=>simp [htn] at hk
    simp only [htn,gd_true,Option.bind_eq_some_iff] at hk
    obtain ⟨z,hz,hk⟩:=hk
    obtain ⟨h0,hlt,rfl⟩:=idxI_some hz
    have hsz:=tnIs_ok hC htn
    obtain ⟨ao,cap,hx',_,_,hl⟩:=hx.sl_inv
    rcases hl with rfl | ⟨b,off,rfl,hb,hcell⟩
    · simp at hlt
    · refine does_value (v:= .pointer (some (at_ b (off+n.toNat *sz t')))) (w':=w) ?_ (hr.after ?_ hk)
      · simp [execOp,ho,hx',hyv,index_run hu hsz h0 (show n<(l.length:Int) by omega)]
      · have:=VR.fp (w:=w) (ρ:=ρ) (bad:=Bad outer ρ st.h) (enc t' l[n.toNat]) 0 b (off+n.toNat *sz t') (fun j=>(w.cell? (at_ b (off+n.toNat *sz t'+j))).getD undef) (by rw [enc_length];exact sz_pos _) hb
          (fun j hj=>by
            rw [enc_length] at hj
            obtain ⟨u,h1,_⟩:=hcell _ hlt j hj
            rw [h1];rfl)
          (fun j hj=>by
            obtain ⟨u,h1,h2⟩:=hcell _ hlt j (by rw [← enc_length t' l[n.toNat]];exact hj)
            rw [h1,Option.getD_some]
            rwa [getD_lt _ _ _ hj] at h2)
        rwa [Nat.add_zero] at this
  · rename_i e r hu hop
    rw [hop] at hx
    split at hk
    case h_2=>cases hk
    rename_i t' l m hrow
    cases htn:tnIs C e t'
    case false=>simp [htn] at hk
    simp only [htn,gd_true] at hk
    cases hb:(decide (0≤n)&&decide (n<(l.length:Int)))
    case false=>simp [hb] at hk
    simp only [hb,cond_true] at hk
    simp only [Bool.and_eq_true,decide_eq_true_eq] at hb
    have hsz:=tnIs_ok hC htn
    obtain ⟨ri,hρ,hro⟩:=row_of hr hrow
    have hn1:ri.n=l.length:=hro.1
    rcases hx.ow_inv hρ with ⟨hx',hnl,_,_⟩ | ⟨ao,hx',hnl,hn0⟩
    · have hrun:=index_run (w:=w) (cap:=ri.cap) (b:=ri.b) (off:=0) (k:=kk) hu hsz hb.1 (show n<(ri.n:Int) by omega)
      refine does_value (v:= .pointer (some (at_ ri.b (0+n.toNat *sz t')))) (w':=w) ?_ (hr.after ?_ hk)
      · simp [execOp,ho,hx',hyv,hrun]
      · rw [Nat.zero_add];exact .ep _ _ _ 0 _ hρ hnl
    · omega
  · rename_i e r t' off len hu hop
    rw [hop] at hx
    cases htn:tnIs C e t'
    case false=>simp [htn] at hk
    simp only [htn,gd_true] at hk
    cases hb:(decide (0≤n)&&decide (n<(len:Int)))
    case false=>simp [hb] at hk
    simp only [hb,cond_true] at hk
    simp only [Bool.and_eq_true,decide_eq_true_eq] at hb
    have hsz:=tnIs_ok hC htn
    obtain ⟨ri,hρ⟩:=hx.ov_row
    obtain ⟨ao,cap,hx',_,hao,_,_⟩:=hx.ov_inv hρ
    rcases hao with ⟨h0,_⟩ | ⟨rfl,hnl,_⟩
    · omega
    · have hrun:=index_run (w:=w) (cap:=cap) (b:=ri.b) (off:=off *sz t') (k:=kk) hu hsz hb.1 hb.2
      refine does_value (v:= .pointer (some (at_ ri.b (off *sz t'+n.toNat *sz t')))) (w':=w) ?_ (hr.after ?_ hk)
      · simp [execOp,ho,hx',hyv,hrun]
      · rw [← Nat.add_mul];exact .ep _ _ _ 0 _ hρ hnl
  · rename_i m e r o1 hu hop
    rw [hop] at hx
    split at hk
    case h_2=>cases hk
    rename_i hsz
    obtain ⟨j,hj1,hj2,hk⟩:=chain_ok _ _ hk
    rw [Nat.zero_add] at hj1 hk
    obtain ⟨ri,hρ,hx',hnl⟩:=hx.bp_inv
    refine does_value (v:= .pointer (some (at_ ri.b (o1+j)))) (w':=w) ?_ (hr.after (.bp _ _ _ hρ hnl) hk)
    have h0:0≤n:=by omega
    have h1:n<(m:Int):=by omega
    have h2:n.toNat=j:=by omega
    simp [execOp,ho,hx',hyv,Instr.indexAt,asIntOf,run_underlyingC hu,Instr.sureAddr,h0,h1,size_run hsz,add_at,h2]
  · cases hk
theorem ok_index (t:TypeId) (x y:Operand) (ho:o.op= .index t x y) (hk:stepK C i o st some=some st'):Does C.P o a w (After C w0 outer own i ρ st'):=by
  simp only [stepK,ho] at hk
  have hx:=hr.opd x
  have hy:=hr.opd y
  split at hk
  · rename_i kk n s hny hu hop
    rw [hop] at hx;rw [hny] at hy
    have hyv:=hy.int_inv.1
    obtain ⟨hx',hsl⟩:=hx.str_inv
    obtain ⟨z,hz,hk⟩:=Option.bind_eq_some_iff.1 hk
    obtain ⟨h0,hlt,rfl⟩:=idxI_some hz
    refine does_value (v:= .int .u8 (s[n.toNat].toNat:Int)) (w':=w) ?_ (hr.after (.int _ _ ?_) hk)
    · have h1:n.toNat<(⟨s.toArray⟩:ByteArray).size:=by simpa [ByteArray.size] using hlt
      simp [execOp,ho,hx',hyv,Instr.index,asIntOf,run_underlyingC hu,h0,ByteArray.getElem?_lt' _ _ h1]
      rfl
    · have:=s[n.toNat].toNat_lt
      simp only [Fits,IntKind.min,IntKind.max,IntKind.signed,IntKind.bits];simp;omega
  · rename_i kk n m e cs hny hu hop
    rw [hop] at hx;rw [hny] at hy
    have hyv:=hy.int_inv.1
    split at hk
    case h_2=>cases hk
    rename_i hsz hag
    obtain ⟨j,hj1,hj2,hk⟩:=chain_ok _ _ hk
    rw [Nat.zero_add] at hj1 hk
    split at hk
    case h_2=>cases hk
    rename_i c r' hd
    have hlt:j<cs.length:=by
      rcases Nat.lt_or_ge j cs.length with h | h
      · exact h
      · rw [List.drop_eq_nil_of_le h] at hd;cases hd
    have hce:cs[j]=c:=by
      rw [List.drop_eq_getElem_cons hlt] at hd;exact (List.cons.inj hd).1
    cases hx':a.eval x <;> rw [hx'] at hx <;> cases hx
    rename_i vs hs hv
    have h3:=hv j hlt
    rw [hce] at h3
    have h0:0≤n:=by omega
    have h1:n<(m:Int):=by omega
    have h2:n.toNat=j:=by omega
    refine does_value (v:=vs.getD j undef) (w':=w) ?_ (hr.after h3 hk)
    simp [execOp,ho,hx',hyv,Instr.index,asIntOf,run_underlyingC hu,h0,h1,size_run hsz,h2,part_one (P:=C.P) (w:=w) hag (show j<vs.size by omega)]
  · cases hk
end
end Go.D
namespace Go.D
section
variable {C:Cx} {w0:World} {outer own:Nat→Prop} {ρ:Nat→Option RI} {st st':St} {a:Act} {w:World} {h:Nat→Option Row}
theorem args_list {α:Type} {xs:Array α} {l:List α} (h:xs.toList=l):xs=l.toArray:=by subst h;simp
theorem HRel.move (hh:HRel w0 outer own ρ h w) {r i:Nat} {c:RowC} {ri ri':RI} (hr:h r=some ⟨c, .own⟩) (hρ:ρ r=some ri) (hn:ri.nl=false) (hi:ρ i=none)
    (hb:ri'.b=ri.b) (hn':ri'.nl=false) (w':World)
    (hwx:Wx w w') (hsz:w'.heap.size=w.heap.size) (hw:∀ b,b≠ri.b→w'.heap[b]?=w.heap[b]?) (c':RowC)
    (hc:∀ bad,(∀ u d,VR w ρ (Bad outer ρ h) u d→VR w' (upd ρ i (some ri')) bad u d)→RowOk w' (upd ρ i (some ri')) bad ri' c'):
    HRel w0 outer own (upd ρ i (some ri')) (upd (upd h r none) i (some ⟨c', .own⟩)) w'∧
      ∀ u d,VR w ρ (Bad outer ρ h) u d→VR w' (upd ρ i (some ri')) (Bad outer (upd ρ i (some ri')) (upd (upd h r none) i (some ⟨c', .own⟩))) u d:=by
  have hir:i≠r:=by rintro rfl;simp [hρ] at hi
  have hρ':∀ q qi,ρ q=some qi→upd ρ i (some ri') q=some qi:=fun q qi hq=>by
    rw [upd_other];exact hq;rintro rfl;simp [hi] at hq
  have hbr:Bad outer ρ h ri.b:= .inr ⟨r,_,ri,hr,rfl,hρ,hn,rfl⟩
  have hrow:∀ q row,q≠i→upd (upd h r none) i (some ⟨c', .own⟩) q=some row→q≠r∧h q=some row:=fun q row hqi hq=>by
    rw [upd_other _ _ _ _ hqi] at hq
    by_cases hqr:q=r
    · subst hqr;rw [upd_same] at hq;cases hq
    · rw [upd_other _ _ _ _ hqr] at hq;exact ⟨hqr,hq⟩
  have hbad:∀ b,Bad outer (upd ρ i (some ri')) (upd (upd h r none) i (some ⟨c', .own⟩)) b→Bad outer ρ h b:=by
    rintro b (hb' | ⟨q,row,qi,h1,h2,h3,h4,h5⟩)
    · exact .inl hb'
    · by_cases hq:q=i
      · subst hq;rw [upd_same] at h3;cases h3
        rw [← h5,hb];exact hbr
      · rw [upd_other _ _ _ _ hq] at h3
        exact .inr ⟨q,row,qi,(hrow q row hq h1).2,h2,h3,h4,h5⟩
  have hv:∀ u d,VR w ρ (Bad outer ρ h) u d→VR w' (upd ρ i (some ri')) (Bad outer (upd ρ i (some ri')) (upd (upd h r none) i (some ⟨c', .own⟩))) u d:=fun u d hu=>
    hu.mono hρ' (fun b hb _=>hw b fun e=>hb (e ▸ hbr)) fun b hb=> .inl (hbad b hb)
  obtain ⟨ri2,h6,_,h7⟩:=hh.rows r _ hr
  rw [hρ] at h6;cases h6
  refine ⟨⟨hh.wx.trans hwx,fun b hb' ho=>?_,hh.outLt,?_,?_⟩,hv⟩
  · refine (hw b ?_).trans (hh.old b hb' ho)
    rintro rfl
    rcases (h7 hn).1.2 rfl with h8 | h8
    · omega
    · exact ho h8
  · intro q row hq
    by_cases hqi:q=i
    · subst hqi;rw [upd_same] at hq;cases hq
      exact ⟨ri',upd_same _ _ _,hc _ hv,fun _=>by rw [hb,hsz];exact h7 hn⟩
    · obtain ⟨hqr,hq⟩:=hrow q row hqi hq
      obtain ⟨qi,h1,h2,h3⟩:=hh.rows q row hq
      refine ⟨qi,hρ' q qi h1,h2.keep (fun hnq=>hw _ ?_) hv,fun hnq=>by rw [hsz];exact h3 hnq⟩
      intro e;exact hqr (hh.inj q r row _ qi ri hq hr h1 hρ hnq hn e)
  · intro q q' row row' qi qi' h1 h2 h3 h4 h5 h6 h7
    by_cases hq:q=i <;> by_cases hq':q'=i
    · rw [hq,hq']
    · subst hq;rw [upd_same] at h3;cases h3
      obtain ⟨hqr,h2⟩:=hrow q' row' hq' h2
      rw [upd_other _ _ _ _ hq'] at h4
      exact absurd (hh.inj q' r row' _ qi' ri h2 hr h4 hρ h6 hn (by rw [← h7,hb])) hqr
    · subst hq';rw [upd_same] at h4;cases h4
      obtain ⟨hqr,h1⟩:=hrow q row hq h1
      rw [upd_other _ _ _ _ hq] at h3
      exact absurd (hh.inj q r row _ qi ri h1 hr h3 hρ h5 hn (by rw [h7,hb])) hqr
    · obtain ⟨_,h1⟩:=hrow q row hq h1
      obtain ⟨_,h2⟩:=hrow q' row' hq' h2
      rw [upd_other _ _ _ _ hq] at h3;rw [upd_other _ _ _ _ hq'] at h4
      exact hh.inj q q' row row' qi qi' h1 h2 h3 h4 h5 h6 h7
variable {o:Oper} {i:Nat} (hr:Rel C w0 outer own ρ st a w)
theorem len_fits {n:Nat} (h:n≤maxLen):Fits .i64 (n:Int):=by
  unfold maxLen at h
  simp only [Fits,IntKind.min,IntKind.max,IntKind.signed,IntKind.bits];simp;omega
include hr
theorem lenOf_ok {d:V} {v:Value} {n:Nat} (hv:VR w ρ (Bad outer ρ st.h) v d) (hn:lenOfV st.h d=some n):
    n≤maxLen∧((∃ ao cap,v= .slice ao n cap∧n≤cap)∨∃ s,d= .str s∧v= .string ⟨s.toArray⟩∧n=s.length):=by
  unfold lenOfV at hn
  split at hn
  · cases hn
    obtain ⟨ao,cap,h1,h2,h3,_⟩:=hv.sl_inv
    exact ⟨Nat.le_trans h2 h3, .inl ⟨ao,cap,h1,h2⟩⟩
  · cases hn
    cases hv
    exact ⟨Nat.zero_le _, .inl ⟨none,0,rfl,Nat.le_refl _⟩⟩
  · cases hn
    obtain ⟨h1,h2⟩:=hv.str_inv
    exact ⟨h2, .inr ⟨_,rfl,h1,rfl⟩⟩
  · split at hn
    case h_2=>cases hn
    rename_i t l m hrow
    cases hn
    obtain ⟨ri,hρ,hro⟩:=row_of hr hrow
    have hn1:ri.n=l.length:=hro.1
    rcases hv.ow_inv hρ with ⟨h1,h2,h3,h4⟩ | ⟨ao,h1,h2,h3⟩
    · rw [← hn1];exact ⟨Nat.le_trans h3 h4, .inl ⟨_,_,h1,h3⟩⟩
    · rw [← hn1,h3];exact ⟨Nat.zero_le _, .inl ⟨_,_,h1,Nat.le_refl _⟩⟩
  · cases hn
    obtain ⟨ri,hρ⟩:=hv.ov_row
    obtain ⟨ao,cap,h1,_,_,h2,h3⟩:=hv.ov_inv hρ
    exact ⟨Nat.le_trans h2 h3, .inl ⟨ao,cap,h1,h2⟩⟩
  · cases hn
theorem ok_len (args:Array Operand) (argTypes:Array TypeId) (ho:o.op= .call { callee:= .builtin .len,args,argTypes }) (hk:stepK C i o st some=some st'):Does C.P o a w (After C w0 outer own i ρ st'):=by
  simp only [stepK,ho] at hk
  split at hk
  case h_2=>cases hk
  rename_i x t hargs htys
  split at hk
  case h_2=>cases hk
  rename_i d n hu hlen
  cases hkind:lenKind d (opd st.s x)
  case false=>simp [hkind] at hk
  simp only [hkind,gd_true] at hk
  obtain ⟨hmax,hl⟩:=lenOf_ok hr (hr.opd x) hlen
  have e1:=args_list hargs
  have e2:=args_list htys
  subst e1 e2
  refine does_value (v:= .int .i64 (n:Int)) (w':=w) ?_ (hr.after (.int _ _ (len_fits hmax)) hk)
  rcases hl with ⟨ao,cap,h1,_⟩ | ⟨s,h0,h1,h2⟩
  · have hd:∃ e,d= .slice e:=by
      unfold lenKind at hkind
      split at hkind <;> first | exact ⟨_,rfl⟩ | skip
      · rename_i s hop
        have:=hr.opd x
        rw [hop] at this
        rw [this.str_inv.1] at h1;cases h1
      · cases hkind
    obtain ⟨e,rfl⟩:=hd
    simp [execOp,ho,resolve,invoke,builtin,Builtin.len_,run_underlyingC hu,h1,goInt]
  · have hd:d= .string:=by
      rw [h0] at hkind
      unfold lenKind at hkind
      split at hkind <;> first | rfl | (rename_i hh;cases hh) | cases hkind
    subst hd
    have hs1:(⟨s.toArray⟩:ByteArray).size=s.length:=by simp [ByteArray.size]
    simp [execOp,ho,resolve,invoke,builtin,Builtin.len_,run_underlyingC hu,h1,h2,hs1,goInt]
theorem ok_min (args:Array Operand) (argTypes:Array TypeId) (ho:o.op= .call { callee:= .builtin .min,args,argTypes }) (hk:stepK C i o st some=some st'):Does C.P o a w (After C w0 outer own i ρ st'):=by
  simp only [stepK,ho] at hk
  split at hk
  case h_2=>cases hk
  rename_i k p k' q hargs
  by_cases hkk:k=k'
  case neg=>simp [hkk] at hk
  subst hkk
  simp only [decide_true,cond_true] at hk
  obtain ⟨x,xs,hxs,h1,h2⟩:=List.map_eq_cons_iff.1 hargs
  obtain ⟨y,ys,hys,h3,h4⟩:=List.map_eq_cons_iff.1 h2
  have h5:=List.map_eq_nil_iff.1 h4
  subst h5 hys
  have e1:=args_list hxs
  subst e1
  have hx:=hr.opd x;rw [h1] at hx
  have hy:=hr.opd y;rw [h3] at hy
  refine does_value (v:= .int k (if q<p then q else p)) (w':=w) ?_ (hr.after (.int _ _ (by split;exact hy.int_inv.2;exact hx.int_inv.2)) hk)
  simp [execOp,ho,resolve,invoke,builtin,Builtin.min_,hx.int_inv.1,hy.int_inv.1,Builtin.min2]
theorem ok_max (args:Array Operand) (argTypes:Array TypeId) (ho:o.op= .call { callee:= .builtin .max,args,argTypes }) (hk:stepK C i o st some=some st'):Does C.P o a w (After C w0 outer own i ρ st'):=by
  simp only [stepK,ho] at hk
  split at hk
  case h_2=>cases hk
  rename_i k p k' q hargs
  by_cases hkk:k=k'
  case neg=>simp [hkk] at hk
  subst hkk
  simp only [decide_true,cond_true] at hk
  obtain ⟨x,xs,hxs,h1,h2⟩:=List.map_eq_cons_iff.1 hargs
  obtain ⟨y,ys,hys,h3,h4⟩:=List.map_eq_cons_iff.1 h2
  have h5:=List.map_eq_nil_iff.1 h4
  subst h5 hys
  have e1:=args_list hxs
  subst e1
  have hx:=hr.opd x;rw [h1] at hx
  have hy:=hr.opd y;rw [h3] at hy
  refine does_value (v:= .int k (if q>p then q else p)) (w':=w) ?_ (hr.after (.int _ _ (by split;exact hy.int_inv.2;exact hx.int_inv.2)) hk)
  simp [execOp,ho,resolve,invoke,builtin,Builtin.max_,hx.int_inv.1,hy.int_inv.1,Builtin.max2]
end
end Go.D
namespace Go.D
section
variable {C:Cx} {w0:World} {outer own:Nat→Prop} {ρ:Nat→Option RI} {st st':St} {a:Act} {w:World} {h:Nat→Option Row}
def ElemsAt (w:World) (ρ:Nat→Option RI) (bad:Nat→Prop) (t:TN) (l:List (El t)) (cs:List Value):Prop:=
  cs.length=l.length *sz t∧∀ i (hi:i<l.length) j,j<sz t→∃ u,cs[i *sz t+j]?=some u∧VR w ρ bad u ((enc t l[i]).getD j .undef)
theorem div_mod_lt {n k m:Nat} (hm:0<m) (h:k<n *m):k / m<n∧k % m<m∧k / m *m+k % m=k:=
  ⟨(Nat.div_lt_iff_lt_mul hm).2 h,Nat.mod_lt _ hm,by rw [Nat.mul_comm];exact Nat.div_add_mod k m⟩
theorem ElemsAt.one {bad:Nat→Prop} {t:TN} {l:List (El t)} {cs:List Value} (h:ElemsAt w ρ bad t l cs):∀ u ∈ cs,u.oneCell'=true:=by
  intro u hu
  obtain ⟨k,hk,rfl⟩:=List.mem_iff_getElem.1 hu
  obtain ⟨h1,h2,h3⟩:=div_mod_lt (sz_pos t) (by rw [← h.1];exact hk)
  obtain ⟨u,h4,h5⟩:=h.2 _ h1 _ h2
  rw [h3,List.getElem?_eq_getElem hk] at h4
  cases h4
  exact h5.one (enc_getD_leaf _ _ _ h2)
def cellsFrom (w:World) (b off n:Nat):List Value:=(List.range n).map fun k=>(w.cell? (at_ b (off+k))).getD undef
theorem cellsFrom_len (w:World) (b off n:Nat):(cellsFrom w b off n).length=n:=by simp [cellsFrom]
theorem cellsFrom_get (w:World) (b off n k:Nat) (hk:k<n):(cellsFrom w b off n)[k]?=some ((w.cell? (at_ b (off+k))).getD undef):=by
  simp [cellsFrom,hk]
theorem elems_from {bad:Nat→Prop} {t:TN} {l:List (El t)} {b off:Nat}
    (hv:∀ i (hi:i<l.length) j,j<sz t→∃ u,w.cell? (at_ b (off+i *sz t+j))=some u∧VR w ρ bad u ((enc t l[i]).getD j .undef)):
    ElemsAt w ρ bad t l (cellsFrom w b off (l.length *sz t))∧∀ j u,(cellsFrom w b off (l.length *sz t))[j]?=some u→w.cell? ((at_ b off).add j)=some u:=by
  refine ⟨⟨cellsFrom_len _ _ _ _,fun i hi j hj=>?_⟩,fun k u hk=>?_⟩
  · obtain ⟨u,h1,h2⟩:=hv i hi j hj
    have hlt:i *sz t+j<l.length *sz t:=by
      have:(i+1) *sz t≤l.length *sz t:=Nat.mul_le_mul_right _ hi
      rw [Nat.add_mul,Nat.one_mul] at this;omega
    refine ⟨u,?_,h2⟩
    rw [cellsFrom_get _ _ _ _ _ hlt, ← Nat.add_assoc,h1];rfl
  · have hlt:k<l.length *sz t:=by
      rcases Nat.lt_or_ge k (l.length *sz t) with h | h
      · exact h
      · rw [List.getElem?_eq_none (by rw [cellsFrom_len];exact h)] at hk;cases hk
    obtain ⟨h1,h2,h3⟩:=div_mod_lt (sz_pos t) hlt
    obtain ⟨u',h4,_⟩:=hv _ h1 _ h2
    rw [Nat.add_assoc,h3] at h4
    rw [cellsFrom_get _ _ _ _ _ hlt,h4] at hk
    rw [add_at,h4];exact hk
theorem take_drop_get {α:Type} (l:List α) (off len i:Nat) (h:off+len≤l.length) (hi:i<((l.drop off).take len).length):((l.drop off).take len)[i]=l[off+i]'(by simp at hi;omega):=by simp
variable {o:Oper} {i:Nat} (hr:Rel C w0 outer own ρ st a w)
include hr
theorem elems_at {tn:TN} {v:Value} {d:V} {m:List (El tn)} (hv:VR w ρ (Bad outer ρ st.h) v d) (hm:elemsOf st.h tn d=some m):
    ∃ ao cap,v= .slice ao m.length cap∧(m=[]∨∃ b off,ao=some (at_ b off)∧
      ∀ i (hi:i<m.length) j,j<sz tn→∃ u,w.cell? (at_ b (off+i *sz tn+j))=some u∧VR w ρ (Bad outer ρ st.h) u ((enc tn m[i]).getD j .undef)):=by
  have mk:∀ (ao:Option Addr) (cap:Nat),v= .slice ao m.length cap→(m=[]∨∃ b off,ao=some (at_ b off)∧
      ∀ i (hi:i<m.length) j,j<sz tn→∃ u,w.cell? (at_ b (off+i *sz tn+j))=some u∧VR w ρ (Bad outer ρ st.h) u ((enc tn m[i]).getD j .undef))→
      ∃ ao cap,v= .slice ao m.length cap∧(m=[]∨∃ b off,ao=some (at_ b off)∧
      ∀ i (hi:i<m.length) j,j<sz tn→∃ u,w.cell? (at_ b (off+i *sz tn+j))=some u∧VR w ρ (Bad outer ρ st.h) u ((enc tn m[i]).getD j .undef)):=fun ao cap h1 h2=>⟨ao,cap,h1,h2⟩
  unfold elemsOf at hm
  split at hm
  · rename_i t' l
    split at hm
    case isFalse=>cases hm
    rename_i e1
    subst e1
    simp only [cast_rfl,Option.some.injEq] at hm
    subst hm
    obtain ⟨ao,cap,h1,_,_,h4⟩:=hv.sl_inv
    refine mk ao cap h1 ?_
    rcases h4 with h4 | ⟨b,off,h5,_,h6⟩
    · exact .inl h4
    · exact .inr ⟨b,off,h5,h6⟩
  · cases hm
    cases hv
    exact mk none 0 rfl (.inl rfl)
  · rename_i r
    split at hm
    case h_2=>cases hm
    rename_i t' l mo hrow
    split at hm
    case isFalse=>cases hm
    rename_i e1
    subst e1
    simp only [cast_rfl,Option.some.injEq] at hm
    subst hm
    obtain ⟨ri,hρ,hro⟩:=row_of hr hrow
    have hn1:ri.n=l.length:=hro.1
    rcases hv.ow_inv hρ with ⟨h1,h2,h3,h4⟩ | ⟨ao,h1,h2,h3⟩
    · refine mk _ ri.cap (by rw [← hn1];exact h1) ?_
      rcases hro.2 with h5 | ⟨_,_,_,_,h6⟩
      · exact .inl h5.2
      · exact .inr ⟨ri.b,0,rfl,fun i hi j hj=>by rw [Nat.zero_add];exact h6 i hi j hj⟩
    · have:l=[]:=List.eq_nil_of_length_eq_zero (by omega)
      exact mk ao 0 (by rw [this];exact h1) (.inl this)
  · rename_i r t0 off len
    split at hm
    case h_2=>cases hm
    rename_i t' l mo hrow
    by_cases ht0:t0=tn
    case neg=>simp [ht0] at hm
    subst ht0
    simp only [decide_true,cond_true] at hm
    split at hm
    case isFalse=>cases hm
    rename_i e1
    subst e1
    simp only [cast_rfl,Option.some.injEq] at hm
    subst hm
    obtain ⟨ri,hρ,hro⟩:=row_of hr hrow
    have hn1:ri.n=l.length:=hro.1
    obtain ⟨ao,cap,h1,h2,h3,h4,h5⟩:=hv.ov_inv hρ
    have hlen:((l.drop off).take len).length=len:=by simp;omega
    refine mk ao cap (by rw [hlen];exact h1) ?_
    rcases h3 with ⟨rfl,_⟩ | ⟨rfl,hnl,_⟩
    · exact .inl (by simp)
    · rcases hro.2 with h5 | ⟨_,_,_,_,h6⟩
      · rw [hnl] at h5;cases h5.1
      · refine .inr ⟨ri.b,_,rfl,fun i hi j hj=>?_⟩
        rw [take_drop_get l off len i (by omega) hi, ← Nat.add_mul]
        exact h6 (off+i) (by omega) j hj
  · cases hm
theorem elems_src {P:Program} {t e:TypeId} {tn:TN} {v:Value} {d:V} {m:List (El tn)} (hu:P.underlying t=some (.slice e)) (hv:VR w ρ (Bad outer ρ st.h) v d) (hm:elemsOf st.h tn d=some m):
    ∃ news,Src P (sz tn) t v m.length news w∧ElemsAt w ρ (Bad outer ρ st.h) tn m news:=by
  obtain ⟨ao,cap,rfl,h⟩:=elems_at hr hv hm
  rcases h with rfl | ⟨b,off,rfl,hc⟩
  · refine ⟨[],?_,⟨by simp,fun i hi=>by simp at hi⟩⟩
    cases ao with
    | none=>exact Src.ofNil w hu cap
    | some ad=>exact Src.ofSlice w hu ad 0 cap [] (by simp) (fun j u h=>by simp at h) (fun u h=>by simp at h)
  · obtain ⟨h1,h2⟩:=elems_from hc
    exact ⟨_,Src.ofSlice w hu (at_ b off) m.length cap _ h1.1 h2 h1.one,h1⟩
omit hr in
theorem append_elems {bad bad':Nat→Prop} {w':World} {ρ':Nat→Option RI} {t:TN} {l m:List (El t)} {olds news:List Value} (h1:ElemsAt w ρ bad t l olds) (h2:ElemsAt w ρ bad t m news)
    (hk:∀ u d,VR w ρ bad u d→VR w' ρ' bad' u d) {b:Nat}
    (hc:∀ j u,(olds++news)[j]?=some u→w'.cell? (at_ b j)=some u):∀ i (hi:i<(l++m).length) j,j<sz t→∃ u,w'.cell? (at_ b (i *sz t+j))=some u∧VR w' ρ' bad' u ((enc t (l++m)[i]).getD j .undef):=by
  intro i hi j hj
  by_cases hil:i<l.length
  · obtain ⟨u,h3,h4⟩:=h1.2 i hil j hj
    have hlt:i *sz t+j<olds.length:=by
      rw [h1.1]
      have:(i+1) *sz t≤l.length *sz t:=Nat.mul_le_mul_right _ hil
      rw [Nat.add_mul,Nat.one_mul] at this;omega
    refine ⟨u,hc _ _ (by rw [List.getElem?_append_left hlt];exact h3),?_⟩
    rw [List.getElem_append_left hil];exact hk _ _ h4
  · have him:i - l.length<m.length:=by simp at hi;omega
    obtain ⟨u,h3,h4⟩:=h2.2 (i - l.length) him j hj
    have hge:olds.length≤i *sz t+j:=by
      rw [h1.1]
      have:l.length *sz t≤i *sz t:=Nat.mul_le_mul_right _ (by omega)
      omega
    refine ⟨u,hc _ _ ?_,?_⟩
    · rw [List.getElem?_append_right hge,h1.1]
      have:i *sz t+j - l.length *sz t=(i - l.length) *sz t+j:=by
        have h5:l.length *sz t≤i *sz t:=Nat.mul_le_mul_right _ (by omega)
        rw [Nat.sub_mul];omega
      rw [this];exact h3
    · rw [List.getElem_append_right (by omega)];exact hk _ _ h4
theorem ok_append (hC:TnOk C) (args:Array Operand) (argTypes:Array TypeId) (ho:o.op= .call { callee:= .builtin .append,args,argTypes }) (hi:ρ i=none) (hk:stepK C i o st some=some st'):
    Does C.P o a w (After C w0 outer own i ρ st'):=by
  simp only [stepK,ho] at hk
  split at hk
  case h_2=>cases hk
  rename_i x y t t' hargs htys
  cases htt:Nat.beq t t'
  case false=>simp [htt] at hk
  have htt:=Nat.eq_of_beq_eq_true htt
  subst htt
  simp only [Nat.beq_refl,gd_true] at hk
  split at hk
  · cases hk
  rename_i tn htn
  obtain ⟨e,he,hte⟩:=Option.bind_eq_some_iff.1 htn
  have hu:C.P.underlying t=some (.slice e):=by
    unfold elemT at he
    split at he
    · rename_i h1;cases he;exact h1
    · cases he
  obtain ⟨info,z,hi1,hi2,hi3,hi4,hi5⟩:=hC.ok e tn hte
  split at hk
  case h_2=>cases hk
  rename_i l ro m htk hel
  cases hlim:decide (l.length+m.length≤LIM)
  case false=>simp [hlim] at hk
  simp only [hlim,cond_true] at hk
  have hlim:l.length+m.length≤LIM:=of_decide_eq_true hlim
  obtain ⟨news,hsrc,hnews⟩:=elems_src hr hu (hr.opd y) hel
  have hsrc':Src C.P info.size t (a.eval y) m.length news w:=by rw [hi2];exact hsrc
  have e1:=args_list hargs
  have e2:=args_list htys
  subst e1 e2
  have hexec:∀ v w',(Builtin.append_ #[t,t] o.type #[a.eval x,a.eval y]).run C.P w= .ok v w'→(execOp a.eval o).run C.P w= .ok (.value v) w':=fun v w' h1=>by
    simp [execOp,ho,resolve,invoke,builtin,h1]
  have hLIM:LIM *1024≤140737488355328:=by unfold LIM;decide
  have hbytes:(l.length+m.length) *info.bytes≤140737488355328:=Nat.le_trans (Nat.mul_le_mul hlim hi3) hLIM
  have hLIM2:LIM≤9223372036854775807:=by unfold LIM;decide
  -- a new row
  have grown:∀ (ao:Option Addr) (cap:Nat) (olds:List Value) (h':Nat→Option Row),a.eval x= .slice ao l.length cap→cap<l.length+m.length→ElemsAt w ρ (Bad outer ρ st.h) tn l olds→
      (Builtin.firstCells info.size l.length (.slice ao l.length cap)).run C.P w.drew= .ok olds.toArray w.drew→
      (∀ r row',h' r=some row'→∃ row,st.h r=some row∧row.c=row'.c∧(row'.m.isRo=false→row.m.isRo=false))→
      newK C o.dst { st with h:=h' } i (.arr tn (l++m)) (.ow i) some=some st'→Does C.P o a w (After C w0 outer own i ρ st'):=by
    intro ao cap olds h' hx hcap holds hfirst hless hk'
    have hrun:=run_append_grow_src (P:=C.P) w t t o.type e info z hu hi1 hi4 ao l.length cap olds hfirst (a.eval y) m.length news hsrc' (by omega)
      (by have:((l.length+m.length:Nat):Int)≤(LIM:Nat):=by omega
          omega) (growslice_fits (by omega) hbytes)
    rw [← hx] at hrun
    have hge:=grownCap_ge w (l.length+m.length) cap e
    have hcm:grownCap w (l.length+m.length) cap e≤maxLen:=grownCap_le_maxLen w (l.length+m.length) cap e (by unfold maxLen;omega)
    obtain ⟨hh1,hv1⟩:=hr.heap.less hless
    have hr1:Rel C w0 outer own ρ { st with h:=h' } a w:=hr.turn hh1 hv1
    refine does_value (hexec _ _ hrun) (hr1.newRow hi ⟨w.heap.size,l.length+m.length,grownCap w (l.length+m.length) cap e,false⟩ (fun _=>rfl) _ (Wx.trans (wx_drew w) (wx_alloc _ _))
      (fun b hb=>heap_alloc_lt w.drew _ b hb) (fun _=>by simp) (fun bad hk2=>?_) (fun bad=>?_) hk')
    · generalize hcells:((olds++news).toArray++Builtin.zeroCells z.cells (grownCap w (l.length+m.length) cap e - (l.length+m.length)))=cells at hk2 ⊢
      have hsize:cells.size=grownCap w (l.length+m.length) cap e *sz tn:=by
        rw [← hcells,Array.size_append,size_zeroCells,hi5]
        have h5:(olds++news).toArray.size=(l.length+m.length) *sz tn:=by simp [holds.1,hnews.1,Nat.add_mul]
        rw [h5, ← Nat.add_mul];congr 1;omega
      refine ⟨by simp, .inr ⟨rfl,hge,hcm,fun j hj=>⟨World.frozen?_alloc_new _ _ _ _,?_⟩,?_⟩⟩
      · have:=cell?_new w.drew cells e j (by rw [hsize];exact hj)
        rw [World.size_drew] at this
        rw [this];rfl
      · refine append_elems (ρ':=upd ρ i _) (bad':=bad) ⟨holds.1,fun i hi j hj=>?_⟩ ⟨hnews.1,fun i hi j hj=>?_⟩ hk2 fun j u hj=>?_
        · obtain ⟨u,h6,h7⟩:=holds.2 i hi j hj;exact ⟨u,h6,hv1 _ _ h7⟩
        · obtain ⟨u,h6,h7⟩:=hnews.2 i hi j hj;exact ⟨u,h6,hv1 _ _ h7⟩
        · have hlt:j<(olds++news).length:=by
            rcases Nat.lt_or_ge j (olds++news).length with h | h
            · exact h
            · rw [List.getElem?_eq_none h] at hj;cases hj
          have hlt2:j<cells.size:=by
            rw [← hcells,Array.size_append];simp at hlt ⊢;omega
          have:=cell?_new w.drew cells e j hlt2
          rw [World.size_drew] at this
          rw [this,Array.getD_eq_getD_getElem?,Array.getElem?_eq_getElem hlt2,Option.getD_some, ← hj,List.getElem?_eq_getElem hlt]
          congr 1
          subst hcells
          rw [Array.getElem_append_left (by simpa using hlt)];simp
    · exact .ow i ⟨w.heap.size,l.length+m.length,grownCap w (l.length+m.length) cap e,false⟩ (upd_same _ _ _) hge hcm rfl
  -- nothing there,nothing appended,or a new row
  have empty:∀ (ao:Option Addr) (h':Nat→Option Row),l=[]→a.eval x= .slice ao 0 0→
      (∀ r row',h' r=some row'→∃ row,st.h r=some row∧row.c=row'.c∧(row'.m.isRo=false→row.m.isRo=false))→
      newK C o.dst { st with h:=h' } i (.arr tn (l++m)) (.ow i) some=some st'→Does C.P o a w (After C w0 outer own i ρ st'):=by
    intro ao h' hl hx hless hk'
    subst hl
    by_cases hm:m=[]
    · subst hm
      obtain ⟨hh1,hv1⟩:=hr.heap.less hless
      have hr1:Rel C w0 outer own ρ { st with h:=h' } a w:=hr.turn hh1 hv1
      have hn0:news=[]:=List.eq_nil_of_length_eq_zero (by rw [hnews.1];simp)
      subst hn0
      have hrun:=run_append_nothing w t t o.type e info hu hi1 ao 0 0 (Nat.le_refl _) (a.eval y) hsrc'
      rw [← hx] at hrun
      refine does_value (hexec _ _ hrun) (hr1.newRow hi ⟨0,0,0,true⟩ (fun h=>by cases h) w (Wx.refl _) (fun b hb=>rfl) (fun h=>by cases h) (c:= .arr tn ([]++[])) (fun bad hk2=>⟨rfl, .inl ⟨rfl,rfl⟩⟩) (fun bad=>?_) hk')
      rw [hx];exact .owN i ⟨0,0,0,true⟩ ao (upd_same _ _ _) rfl rfl
    · have hpos:0<m.length:=List.length_pos_iff.2 hm
      refine grown ao 0 [] h' hx (by simpa using hpos) ⟨by simp,fun i hi=>by simp at hi⟩ ?_ hless hk'
      cases ao with
      | none=>exact run_firstCells_none w.drew info.size 0 0 0
      | some ad=>exact run_firstCells_some w.drew info.size 0 ad 0 0 [] (by simp) (fun j v h=>by simp at h)
  have killLess:∀ (r:Option Nat) (q:Nat) (row':Row),killO st.h r q=some row'→∃ row,st.h q=some row∧row.c=row'.c∧(row'.m.isRo=false→row.m.isRo=false):=by
    intro r q row' h1
    cases r with
    | none=>exact ⟨row',h1,rfl,id⟩
    | some r=>
      simp only [killO] at h1
      by_cases hq:q=r
      · subst hq;rw [upd_same] at h1;cases h1
      · rw [upd_other _ _ _ _ hq] at h1;exact ⟨row',h1,rfl,id⟩
  -- a row of the call's own,or the beginning of one
  have full:∀ (r:Nat) (l0:List (El tn)) (ri:RI) (cap:Nat),st.h r=some ⟨.arr tn l0, .own⟩→ρ r=some ri→ri.nl=false→l=l0.take l.length→l.length≤cap→cap≤ri.cap→
      a.eval x= .slice (some (at_ ri.b 0)) l.length cap→newK C o.dst { st with h:=killO st.h (some r) } i (.arr tn (l++m)) (.ow i) some=some st'→Does C.P o a w (After C w0 outer own i ρ st'):=by
    intro r l0 ri cap hrow hρ hnl hl hlc hcc hx hk'
    have hll0:l.length≤l0.length:=by rw [hl];simp;omega
    obtain ⟨_,hρ2,hro,_⟩:=hr.heap.rows r _ hrow
    rw [hρ] at hρ2;cases hρ2
    rcases hro.2 with h5 | ⟨_,c1,c2,c3,c4⟩
    · rw [hnl] at h5;cases h5.1
    have holds:=elems_from (w:=w) (ρ:=ρ) (bad:=Bad outer ρ st.h) (t:=tn) (l:=l) (b:=ri.b) (off:=0) (fun i hi j hj=>by
      obtain ⟨u,h6,h7⟩:=c4 i (by omega) j hj
      refine ⟨u,by rw [Nat.zero_add];exact h6,?_⟩
      have:l[i]=l0[i]'(by omega):=by
        have h8:l[i]?=(l0.take l.length)[i]?:=by rw [← hl]
        rw [List.getElem?_eq_getElem hi,List.getElem?_take,if_pos hi,List.getElem?_eq_getElem (by omega)] at h8
        exact Option.some.inj h8
      rw [this];exact h7)
    by_cases hroom:l.length+m.length≤cap
    · have hcz:cap *sz tn≤ri.cap *sz tn:=Nat.mul_le_mul_right _ hcc
      have hrz:(l.length+m.length) *sz tn≤cap *sz tn:=Nat.mul_le_mul_right _ hroom
      rw [Nat.add_mul] at hrz
      have hin:∀ j,j<news.length→(w.cell? ⟨ri.b,0+l.length *info.size+j,none⟩).isSome=true:=fun j hj=>by
        rw [hi2,Nat.zero_add];exact (c3 _ (by rw [hnews.1] at hj;omega)).2
      have hfr:∀ j,j<news.length→w.frozen? ⟨ri.b,0+l.length *info.size+j,none⟩=false:=fun j hj=>by
        rw [hi2,Nat.zero_add];exact (c3 _ (by rw [hnews.1] at hj;omega)).1
      have hrun:=run_append_room_src (P:=C.P) w t t o.type e info hu hi1 ri.b 0 l.length cap (a.eval y) m.length news hsrc' hroom hin hfr
      rw [show (⟨ri.b,0,none⟩:Addr)=at_ ri.b 0 from rfl, ← hx,hi2,Nat.zero_add] at hrun
      rw [hi2,Nat.zero_add] at hin
      generalize hW:w.setCells ri.b (l.length *sz tn) news=W at hrun
      have hmv:=hr.heap.move hrow hρ hnl hi (ri':=⟨ri.b,l.length+m.length,cap,false⟩) rfl rfl W (by rw [← hW];exact wx_setCells _ _ _ _) (by rw [← hW];exact size_setCells _ _ _ _)
        (fun b hb=>by rw [← hW];exact heap_setCells _ _ _ _ _ hb) (.arr tn (l++m)) (fun bad hk2=>by
          refine ⟨by simp, .inr ⟨rfl,hroom,Nat.le_trans hcc c2,fun j hj=>⟨by rw [← hW,World.frozen?_setCells];exact (c3 j (by have:j<cap *sz tn:=hj;omega)).1,?_⟩,?_⟩⟩
          · by_cases hjj:l.length *sz tn≤j∧j<l.length *sz tn+news.length
            · have:=World.cell?_setCells_in ri.b news (l.length *sz tn) w hin (j - l.length *sz tn) (by omega)
              rw [show l.length *sz tn+(j - l.length *sz tn)=j by omega,hW] at this
              show (W.cell? ⟨ri.b,j,none⟩).isSome=true
              rw [this];rfl
            · rw [← hW,World.cell?_setCells_out]
              · exact (c3 j (by have:j<cap *sz tn:=hj;omega)).2
              · intro _ _;simp only [at_];omega
          · refine append_elems holds.1 hnews hk2 fun j u hj=>?_
            have hol:=holds.1.1
            by_cases hjo:j<(cellsFrom w ri.b 0 (l.length *sz tn)).length
            · rw [List.getElem?_append_left hjo] at hj
              have:=holds.2 j u hj
              rw [add_at,Nat.zero_add] at this
              rw [← hW,World.cell?_setCells_out]
              · exact this
              · intro _ _;simp only [at_];left;rw [hol] at hjo;exact hjo
            · rw [List.getElem?_append_right (by omega),hol] at hj
              obtain ⟨hjl,rfl⟩:=List.getElem?_eq_some_iff.1 hj
              have:=World.cell?_setCells_in ri.b news (l.length *sz tn) w hin (j - l.length *sz tn) hjl
              rw [show l.length *sz tn+(j - l.length *sz tn)=j by omega,hW] at this
              exact this)
      obtain ⟨hh,hv⟩:=hmv
      refine does_value (hexec _ _ hrun) ⟨_,((hr.turn hh hv).put (?_:VR W _ _ _ (.ow i)) hk').1,fun r' hn=>upd_other _ _ _ _ (by rintro rfl;exact hn ⟨Nat.le_refl _,by omega⟩),fun q qi hq=>by
        rw [upd_other];exact hq;rintro rfl;simp [hi] at hq⟩
      exact .ow i ⟨ri.b,l.length+m.length,cap,false⟩ (upd_same _ _ _) hroom (Nat.le_trans hcc c2) rfl
    · refine grown (some (at_ ri.b 0)) cap _ _ hx (by omega) holds.1 ?_ (killLess (some r)) hk'
      exact run_firstCells_some w.drew info.size l.length (at_ ri.b 0) l.length cap _ (by rw [holds.1.1,hi2]) (by simpa using holds.2)
  unfold takenOf at htk
  split at htk
  · rename_i hop
    cases htk
    have hx:=hr.opd x
    rw [hop] at hx
    have hxv:a.eval x= .slice none 0 0:=by generalize a.eval x=v at hx;cases hx;rfl
    exact empty none st.h rfl hxv (fun q row' h1=>⟨row',h1,rfl,id⟩) hk
  · rename_i r hop
    split at htk
    case h_2=>cases htk
    rename_i t' l1 hrow
    split at htk
    case isFalse=>cases htk
    rename_i e1
    subst e1
    simp only [cast_rfl,Option.some.injEq,Prod.mk.injEq] at htk
    obtain ⟨rfl,rfl⟩:=htk
    obtain ⟨ri,hρ,hro⟩:=row_of hr hrow
    have hn1:ri.n=l1.length:=hro.1
    have hx:=hr.opd x
    rw [hop] at hx
    rcases hx.ow_inv hρ with ⟨h1,h2,h3,h4⟩ | ⟨ao,h1,h2,h3⟩
    · exact full r l1 ri ri.cap hrow hρ h2 (by simp) (by omega) (Nat.le_refl _) (by rw [← hn1];exact h1) hk
    · exact empty ao _ (List.eq_nil_of_length_eq_zero (by omega)) h1 (killLess (some r)) hk
  · rename_i r t0 len hop
    split at htk
    case h_2=>cases htk
    rename_i t' l1 hrow
    split at htk
    case isFalse=>cases htk
    rename_i e1
    subst e1
    simp only [cast_rfl,Option.some.injEq,Prod.mk.injEq] at htk
    obtain ⟨rfl,rfl⟩:=htk
    obtain ⟨ri,hρ,hro⟩:=row_of hr hrow
    have hn1:ri.n=l1.length:=hro.1
    have hx:=hr.opd x
    rw [hop] at hx
    obtain ⟨ao,cap,h1,h2,h3,h4,h5⟩:=hx.ov_inv hρ
    have hlen:(l1.take len).length=len:=by simp;omega
    rcases h3 with ⟨rfl,rfl⟩ | ⟨rfl,hnl,hc⟩
    · exact empty ao _ (by simp) h1 (killLess (some r)) hk
    · rw [Nat.zero_mul] at h1
      exact full r l1 ri cap hrow hρ hnl (by rw [hlen]) (by omega) (by omega) (by rw [hlen];exact h1) hk
  · cases htk
end
end Go.D
namespace Go.D
section
variable {C:Cx} {w0:World} {outer own:Nat→Prop} {ρ:Nat→Option RI} {st st':St} {a:Act} {w:World} {h:Nat→Option Row}
theorem extract_list (s:List UInt8) (p q:Nat):(⟨s.toArray⟩:ByteArray).extract p q=⟨((s.drop p).take (q - p)).toArray⟩:=by
  apply ByteArray.ext
  simp [ByteArray.data_extract]
theorem bounds_run {P:Program} (b:Bool) (len cap:Nat) (lo hi:Option Value) (p q:Nat) (hlo:∀ v,lo=some v→∃ k,v= .int k (p:Int)) (hlo0:lo=none→p=0)
    (hhi:∀ v,hi=some v→∃ k,v= .int k (q:Int)) (hhi0:hi=none→q=len) (hpq:p≤q) (hqc:q≤cap):
    (Instr.sliceBounds b len cap lo hi none).run P w= .ok (p,q,cap) w:=by
  have e1:(q:Int)≤cap:=by omega
  have e2:(p:Int)≤q:=by omega
  cases lo with
  | none=>
    obtain rfl:=hlo0 rfl
    cases hi with
    | none=>obtain rfl:=hhi0 rfl;simp [Instr.sliceBounds]
    | some v=>obtain ⟨k,rfl⟩:=hhi v rfl;simp [Instr.sliceBounds,Instr.sliceBound,asIntOf,hqc]
  | some u=>
    obtain ⟨k,rfl⟩:=hlo u rfl
    cases hi with
    | none=>obtain rfl:=hhi0 rfl;simp [Instr.sliceBounds,Instr.sliceBound,asIntOf,hpq]
    | some v=>obtain ⟨k',rfl⟩:=hhi v rfl;simp [Instr.sliceBounds,Instr.sliceBound,asIntOf,hqc,hpq]
theorem slice_run (hC:TnOk C) {t e:TypeId} {tn:TN} {ao:Option Addr} {len cap p q:Nat} {lo hi:Option Value} (hu:C.P.underlying t=some (.slice e)) (htn:tnIs C e tn=true)
    (hlo:∀ v,lo=some v→∃ k,v= .int k (p:Int)) (hlo0:lo=none→p=0) (hhi:∀ v,hi=some v→∃ k,v= .int k (q:Int)) (hhi0:hi=none→q=len) (hpq:p≤q) (hqc:q≤cap):
    (Instr.sliceAt t (.slice ao len cap) lo hi none).run C.P w= .ok (.slice (if cap=p then ao else ao.map (·.add (p *sz tn))) (q - p) (cap - p)) w:=by
  simp [Instr.sliceAt,run_underlyingC hu,Instr.slice,bounds_run (P:=C.P) (w:=w) true len cap lo hi p q hlo hlo0 hhi hhi0 hpq hqc,size_run (tnIs_ok hC htn)]
variable {o:Oper} {i:Nat} (hr:Rel C w0 outer own ρ st a w)
include hr
theorem ok_slice (hC:TnOk C) (t:TypeId) (x:Operand) (lo hi mx:Option Operand) (ho:o.op= .slice t x lo hi mx) (hk:stepK C i o st some=some st'):Does C.P o a w (After C w0 outer own i ρ st'):=by
  simp only [stepK,ho] at hk
  split at hk
  · cases hk
  · cases hk
  rename_i d hu
  unfold cutV at hk
  split at hk
  · cases hk
  rename_i len hlen
  split at hk
  case h_2=>cases hk
  rename_i pa pb hpa hpb
  cases hb:(decide (0≤pa)&&decide (pa≤pb)&&decide (pb≤(len:Int)))
  case false=>simp [hb] at hk
  simp only [hb,cond_true] at hk
  simp only [Bool.and_eq_true,decide_eq_true_eq] at hb
  obtain ⟨⟨hb1,hb2⟩,hb3⟩:=hb
  obtain ⟨p,rfl⟩:=Int.eq_ofNat_of_zero_le hb1
  obtain ⟨q,rfl⟩:=Int.eq_ofNat_of_zero_le (Int.le_trans hb1 hb2)
  have hpq:p≤q:=by omega
  have hql:q≤len:=by omega
  have e1:((q:Int) - (p:Int)).toNat=q - p:=by omega
  simp only [Int.toNat_natCast,e1] at hk
  have hlo:∀ v,lo.map a.eval=some v→∃ k,v= .int k (p:Int):=fun v hv=>by
    obtain ⟨y,hy,rfl⟩:=Option.map_eq_some_iff.1 hv
    subst hy
    have:=hr.opd y
    simp only [Option.map_some,boundV] at hpa
    split at hpa
    · rename_i heq;cases heq
    · rename_i k n heq;cases hpa
      simp only [Option.some.injEq] at heq
      rw [heq] at this;exact ⟨k,this.int_inv.1⟩
    · cases hpa
  have hlo0:lo.map a.eval=none→p=0:=fun hv=>by
    have:lo=none:=by simpa using hv
    subst this
    simp [boundV] at hpa;omega
  have hhi:∀ v,hi.map a.eval=some v→∃ k,v= .int k (q:Int):=fun v hv=>by
    obtain ⟨y,hy,rfl⟩:=Option.map_eq_some_iff.1 hv
    subst hy
    have:=hr.opd y
    simp only [Option.map_some,boundV] at hpb
    split at hpb
    · rename_i heq;cases heq
    · rename_i k n heq;cases hpb
      simp only [Option.some.injEq] at heq
      rw [heq] at this;exact ⟨k,this.int_inv.1⟩
    · cases hpb
  have hhi0:hi.map a.eval=none→q=len:=fun hv=>by
    have:hi=none:=by simpa using hv
    subst this
    simp [boundV] at hpb;omega
  have hx:=hr.opd x
  obtain ⟨hmax,hl⟩:=lenOf_ok hr hx hlen
  have hexec:∀ v,(Instr.sliceAt t (a.eval x) (lo.map a.eval) (hi.map a.eval) none).run C.P w= .ok v w→(execOp a.eval o).run C.P w= .ok (.value v) w:=fun v h1=>by
    simp [execOp,ho,h1]
  split at hk
  · rename_i e tn l hop
    rw [hop] at hx hlen
    simp only [lenOfV,Option.some.injEq] at hlen
    cases htn:tnIs C e tn
    case false=>simp [htn] at hk
    simp only [htn,gd_true] at hk
    obtain ⟨ao,cap,h1,h2,h3,h4⟩:=hx.sl_inv
    rw [hlen] at h1 h2
    have hrun:=slice_run (w:=w) hC hu htn hlo hlo0 hhi hhi0 hpq (Nat.le_trans hql h2) (ao:=ao)
    rw [← h1] at hrun
    refine does_value (hexec _ hrun) (hr.after ?_ hk)
    by_cases hpq0:q - p=0
    · rw [hpq0,List.take_zero];exact .slE _ _ _ (by omega)
    · rw [if_neg (by omega)]
      rcases h4 with rfl | ⟨b,off,rfl,hbad,hcell⟩
      · simp at hlen;omega
      · simp only [Option.map_some,add_at]
        have hll:((l.drop p).take (q - p)).length=q - p:=by simp;omega
        have:=VR.slC (w:=w) (ρ:=ρ) (bad:=Bad outer ρ st.h) tn ((l.drop p).take (q - p)) b (off+p *sz tn) (cap - p)
          (fun i j=>(w.cell? (at_ b (off+p *sz tn+i *sz tn+j))).getD undef) hbad (by omega) (by omega)
          (fun i hi j hj=>by
            obtain ⟨u,h5,h6⟩:=hcell (p+i) (by omega) j hj
            rw [show off+p *sz tn+i *sz tn+j=off+(p+i) *sz tn+j by rw [Nat.add_mul];omega,h5];rfl)
          (fun i hi j hj=>by
            obtain ⟨u,h5,h6⟩:=hcell (p+i) (by omega) j hj
            rw [show off+p *sz tn+i *sz tn+j=off+(p+i) *sz tn+j by rw [Nat.add_mul];omega,h5,Option.getD_some,
              take_drop_get l p (q - p) i (by omega) hi]
            exact h6)
        rw [hll] at this;exact this
  · rename_i s hop
    rw [hop] at hx hlen
    simp only [lenOfV,Option.some.injEq] at hlen
    obtain ⟨h1,h2⟩:=hx.str_inv
    have hs1:(⟨s.toArray⟩:ByteArray).size=s.length:=by simp [ByteArray.size]
    refine does_value (hexec (.string ⟨((s.drop p).take (q - p)).toArray⟩) ?_) (hr.after (.str _ (by simp;omega)) hk)
    rw [h1]
    have hbr:=bounds_run (P:=C.P) (w:=w) false s.length s.length (lo.map a.eval) (hi.map a.eval) p q hlo hlo0 hhi (by rw [hlen];exact hhi0) hpq (by omega)
    simp [Instr.sliceAt,run_underlyingC hu,Instr.slice,hs1,hbr,extract_list]
  · rename_i e r hop
    rw [hop] at hx hlen
    split at hk
    case h_2=>cases hk
    rename_i tn l m hrow
    cases htn:tnIs C e tn
    case false=>simp [htn] at hk
    simp only [htn,gd_true] at hk
    simp only [lenOfV,hrow,Option.some.injEq] at hlen
    obtain ⟨ri,hρ,hro⟩:=row_of hr hrow
    have hn1:ri.n=l.length:=hro.1
    rcases hx.ow_inv hρ with ⟨h1,h2,h3,h4⟩ | ⟨ao,h1,h2,h3⟩
    · have hrun:=slice_run (w:=w) hC hu htn hlo hlo0 hhi (fun h=>by have:=hhi0 h;omega) hpq (show q≤ri.cap by omega) (ao:=some (at_ ri.b 0)) (len:=ri.n)
      rw [← h1] at hrun
      refine does_value (hexec _ hrun) (hr.after (.ov r tn p (q - p) (ri.cap - p) _ ri hρ (by omega) ?_ (by omega) (by omega)) hk)
      by_cases hcp:ri.cap=p
      · left;omega
      · right;rw [if_neg hcp];refine ⟨?_,h2,by omega⟩
        simp [add_at]
    · have hrun:=slice_run (w:=w) hC hu htn hlo hlo0 hhi (fun h=>by have:=hhi0 h;omega) hpq (show q≤0 by omega) (ao:=ao) (len:=0)
      rw [← h1] at hrun
      exact does_value (hexec _ hrun) (hr.after (.ov r tn p (q - p) (0 - p) _ ri hρ (by omega) (.inl ⟨by omega,by omega⟩) (by omega) (by unfold maxLen;omega)) hk)
  · rename_i e r tn off len' hop
    rw [hop] at hx hlen
    cases htn:tnIs C e tn
    case false=>simp [htn] at hk
    simp only [htn,gd_true] at hk
    simp only [lenOfV,Option.some.injEq] at hlen
    obtain ⟨ri,hρ⟩:=hx.ov_row
    obtain ⟨ao,cap,h1,h2,h3,h4,h5⟩:=hx.ov_inv hρ
    have hrun:=slice_run (w:=w) hC hu htn hlo hlo0 hhi (fun h=>by have:=hhi0 h;omega) hpq (show q≤cap by omega) (ao:=ao) (len:=len')
    rw [← h1] at hrun
    have g1:q - p≤cap - p:=Nat.sub_le_sub_right (Nat.le_trans hql (by rw [← hlen];exact h4)) p
    have g2:cap - p≤maxLen:=Nat.le_trans (Nat.sub_le _ _) h5
    have g3:off+p+(q - p)≤ri.n:=by
      rw [Nat.add_assoc,Nat.add_sub_cancel' hpq];exact Nat.le_trans (Nat.add_le_add_left (by rw [hlen];exact hql) off) h2
    refine does_value (hexec _ hrun) (hr.after (.ov r tn (off+p) (q - p) (cap - p) _ ri hρ g3 ?_ g1 g2) hk)
    rcases h3 with ⟨h6,h7⟩ | ⟨rfl,h6,h7⟩
    · left;omega
    · by_cases hcp:cap=p
      · left;omega
      · right;rw [if_neg hcp];refine ⟨?_,h6,by omega⟩
        simp [add_at,Nat.add_mul]
  · cases hk
end
end Go.D

/-
 One operation, continued: numbers, texts, parts of slices.
-/
import Derived.Test.YtdmiplkjdpcbeaaGreatL2
import Derived.Deep.Upon
namespace Go.D
variable [fA]
omit [fA] in
theorem zeN (k:IntKind) (n:Int) (m:Nat) (h:VC k n):VC k (n.fdiv (2^m)):=by
 have hp:(0:Int)<2^m:=Int.pow_pos (by decide)
 rw [Int.fdiv_eq_ediv_of_nonneg _ (Int.le_of_lt hp)]
 obtain ⟨h1,h2⟩:=h
 have hmin:k.min≤0:=by cases k <;> decide
 have W0:0≤k.max:=by cases k <;> decide
 by_cases hn:0≤n
 ·have a1:=Int.ediv_nonneg hn (Int.le_of_lt hp)
  have a2:=Int.ediv_le_self (2^m) hn
  exact ⟨by omega,by omega⟩
 ·have a1:n / 2^m<0:=Int.ediv_neg_of_neg_of_pos (by omega) hp
  have a2:n≤n / 2^m:=by
   rw [Int.le_ediv_iff_mul_le hp]
   have:1≤(2:Int)^m:=by omega
   have h3:=Int.mul_le_mul_of_nonpos_left (a:=n) (b:=2^m) (c:=1) (by omega) this
   simpa using h3
  exact ⟨by omega,by omega⟩
omit [fA] in
theorem zuP (k:IntKind) (n m:Int) (h:VC k n):VC k (n.tmod m):=by
 obtain ⟨h1,h2⟩:=h
 have hmin:k.min≤0:=by cases k <;> decide
 have W0:0≤k.max:=by cases k <;> decide
 have e1:=Int.natAbs_tmod n m
 have e2:=Nat.mod_le n.natAbs m.natAbs
 by_cases hn:0≤n
 ·have a1:=Int.tmod_nonneg m hn
  exact ⟨by omega,by omega⟩
 ·have e:n.tmod m= -((-n).tmod m):=by rw [Int.neg_tmod,Int.neg_neg]
  have a1:=Int.tmod_nonneg (a:= -n) m (by omega)
  exact ⟨by omega,by omega⟩
section
variable {C:Cx} {w0:World} {outer own:Nat→Prop} {ρ:Nat→Option RI} {st st':St} {a:Act} {w:World} {h:Nat→Option nA}
variable {o:Oper} {i:Nat} (hr:RA C w0 outer own ρ st a w)
theorem zhD {bad:Nat→Prop} {op:BinOp} {t:TypeId} {vx vy:Value} {dx dy d:V} (hx:VR w ρ bad vx dx) (hy:VR w ρ bad vy dy)
  (hd:wV op dx dy=some d) (x y:Operand):∃ v,VR w ρ bad v d∧((do eqGuard op t x y vx vy;binOp op t vx vy):Sem Value).run C.P w= .ok v w:=by
 unfold wV at hd
 split at hd
 ·rename_i k p k' q
  have z5:∀ {α:Type} {y z:α},(bif decide (k=k') then some y else none)=some z→k=k'∧y=z:=fun h=>by
   by_cases vZ:k=k'
   ·simp [vZ] at h;exact ⟨vZ,h⟩
   ·simp [vZ] at h
  have yW:VC k p:=by cases hx;assumption
  have v7:vx= .int k p:=by cases hx;rfl
  have P0:vy= .int k' q:=by cases hy;rfl
  subst v7 P0
  cases op <;> simp only at hd <;> first
   | (obtain ⟨rfl,rfl⟩:=z5 hd;refine ⟨_, .int _ _ (IM _ _),?_⟩;simp [eqGuard,binOp,Op.intArith,Op.intBits];done)
   | (obtain ⟨rfl,rfl⟩:=z5 hd;refine ⟨_, .bool _,?_⟩;simp [eqGuard,binOp,Op.intCmp];done)
   | (split at hd
      ·cases hd
      ·cases hd;rename_i hq;refine ⟨_, .int _ _ (by first | exact IM _ _ | exact zeN _ _ _ yW),?_⟩;simp [eqGuard,binOp,Op.shift,hq];done)
   | (cases hd;done)
 ·rename_i p q
  have v7:vx= .string ⟨p.toArray⟩:=by cases hx;rfl
  have P0:vy= .string ⟨q.toArray⟩:=by cases hy;rfl
  subst v7 P0
  cases op <;> first
   | (cases hd;done)
   | (cases hd;refine ⟨_, .bool _,?_⟩;simp [eqGuard,binOp,Op.stringOp];done)
 ·cases hd
theorem zhC {bad:Nat→Prop} {op:BinOp} {t:TypeId} {vx vy:Value} {dx dy:V} {R:Type} {K:V→Option R} {r:R} (hx:VR w ρ bad vx dx) (hy:VR w ρ bad vy dy)
  (hk:bI op dx dy K=some r) (x y:Operand):
  ∃ d v,K d=some r∧VR w ρ bad v d∧((do eqGuard op t x y vx vy;binOp op t vx vy):Sem Value).run C.P w= .ok v w:=by
 unfold bI at hk
 split at hk
 ·-- quo
  rename_i k p k' q
  by_cases vZ:k=k'
  case neg=>simp [vZ] at hk
  subst vZ
  cases hq:(q==0)
  case true=>simp [hq] at hk
  simp only [decide_true,cond_true,hq,cond_false] at hk
  cases hx;cases hy
  refine ⟨_, .int k (k.wrap (p.tdiv q)),hk, .int _ _ (IM _ _),?_⟩
  have:q≠0:=by simpa using hq
  simp [eqGuard,binOp,Op.intDiv,this]
 ·rename_i k p k' q
  by_cases vZ:k=k'
  case neg=>simp [vZ] at hk
  subst vZ
  cases hq:(q==0)
  case true=>simp [hq] at hk
  simp only [decide_true,cond_true,hq,cond_false] at hk
  cases hx;cases hy
  refine ⟨_, .int k (p.tmod q),hk, .int _ _ (zuP _ _ _ (by assumption)),?_⟩
  have:q≠0:=by simpa using hq
  simp [eqGuard,binOp,Op.intDiv,this]
 ·rename_i k p k' q
  by_cases hq:q<0
  case pos=>simp [hq] at hk
  simp only [hq,decide_false,cond_false] at hk
  cases hx;cases hy
  refine ⟨_,_,hk, .int _ _ (IM _ _),?_⟩
  simp [eqGuard,binOp,Op.shift,hq]
 ·rename_i k p k' q
  by_cases hq:q<0
  case pos=>simp [hq] at hk
  simp only [hq,decide_false,cond_false] at hk
  cases hx;cases hy
  refine ⟨_,_,hk, .int _ _ (zeN _ _ _ (by assumption)),?_⟩
  simp [eqGuard,binOp,Op.shift,hq]
 ·rename_i p q
  by_cases hq:p.length+q.length≤bA
  case neg=>simp [hq] at hk
  simp only [hq,decide_true,cond_true] at hk
  cases hx;cases hy
  have hl:bA≤1000000000000:=by unfold bA;decide
  refine ⟨_, .string ⟨(p++q).toArray⟩,hk, .str _ (by simp [maxLen];omega),?_⟩
  have h1:¬ (IntKind.i64.max<((p.length+q.length:Nat):Int)):=by
   simp only [IntKind.max,IntKind.signed,IntKind.bits];simp;omega
  have h2:(p.length:Int)+q.length≤IntKind.i64.max:=by
   simp only [IntKind.max,IntKind.signed,IntKind.bits];simp;omega
  have QX:(⟨p.toArray⟩:ByteArray).size=p.length:=by simp [ByteArray.size]
  have R7:(⟨q.toArray⟩:ByteArray).size=q.length:=by simp [ByteArray.size]
  simp [eqGuard,binOp,Op.stringOp,ByteArray.mk_append_mk,QX,R7]
  simp only [IntKind.max,IntKind.signed,IntKind.bits] at h2
  simp at h2
  omega
 ·split at hk
  case h_2=>cases hk
  rename_i d hd
  obtain ⟨v,h1,h2⟩:=zhD (w:=w) hx hy hd (t:=t) x y
  exact ⟨d,v,hk,h1,h2⟩
end
end Go.D
namespace Go.D
variable [fA]
section
variable {C:Cx} {w0:World} {outer own:Nat→Prop} {ρ:Nat→Option RI} {st st':St} {a:Act} {w:World} {h:Nat→Option nA}
omit [fA] in
theorem zeF (n:Nat) {P:Program} {t:TypeId} {k:IntKind} (hu:P.underlying t=some (.int k)) (j:IntKind) (x y:Int):(Op.equalIn (n+1) t (.int j x) (.int j y)).run P w= .ok (x==y) w:=by
 rw [Op.equalIn];simp [LD hu]
omit [fA] in
theorem zeE (n:Nat) {P:Program} {t:TypeId} (hu:P.underlying t=some .bool) (x y:Bool):(Op.equalIn (n+1) t (.bool x) (.bool y)).run P w= .ok (x==y) w:=by
 rw [Op.equalIn];simp [LD hu]
omit [fA] in
theorem BJ {P:Program} {t:TypeId} (h1:kD P t=some false) {vs:Array Value} {k:Nat} (hk:k<vs.size):(part t vs k).run P w= .ok (vs.getD k undef) w:=by
 rw [Array.getD_eq_getD_getElem?,Array.getElem?_eq_getElem hk]
 simp [part,eL h1,Array.getElem?_eq_getElem hk]
def QG (n:Nat) (xs ys:Array Value) (f:Field) (_:Option Bool × Unit):Sem (ForInStep (Option Bool × Unit)):=
 if f.name ≠ "_" then do
  let __do_lift ← part f.type xs f.offset
  let __do_lift_1 ← part f.type ys f.offset
  let __do_lift ← Op.equalIn n f.type __do_lift __do_lift_1
  if (!__do_lift)=true then pure (ForInStep.done (some false,()))
   else pure (ForInStep.yield (none,()))
 else pure (ForInStep.yield (none,()))
theorem zeG (n:Nat) {P:Program} {bad:Nat→Prop} (xs ys:Array Value):∀ (fl:List Field) (ks:List Bool) (k:Nat) (dxs dys:List V) (b:Bool),SG P k fl=some ks→JC ks dxs dys=some b→
  k+fl.length≤xs.size→k+fl.length≤ys.size→(∀ j (hj:j<dxs.length),VR w ρ bad (xs.getD (k+j) undef) dxs[j])→(∀ j (hj:j<dys.length),VR w ρ bad (ys.getD (k+j) undef) dys[j])→
  (forIn fl ((none,()):Option Bool × Unit) (QG (n+1) xs ys)).run P w= .ok (bif b then (none,()) else (some false,())) w
 | [],ks,k,dxs,dys,b,hf,he,_,_,_,_=>by
  simp only [SG,Option.some.injEq] at hf
  subst hf
  cases dxs <;> cases dys <;> simp [JC] at he
  subst he;simp
 | f :: fl,ks,k,dxs,dys,b,hf,he,hx,hy,J1,L1=>by
  simp only [SG] at hf
  cases hb : (f.name != "_" && Nat.beq f.offset k)
  case false=>simp [hb] at hf
  simp only [hb,cond_true] at hf
  simp only [Bool.and_eq_true,bne_iff_ne,ne_eq] at hb
  obtain ⟨ZW,VY⟩:=hb
  have VY:=Nat.eq_of_beq_eq_true VY
  simp only [List.length_cons] at hx hy
  have main:∀ (dx dy:V) (dxs' dys':List V) (ks':List Bool) (q b':Bool),dxs=dx :: dxs'→dys=dy :: dys'→SG P (k+1) fl=some ks'→kD P f.type=some false→
    (Op.equalIn (n+1) f.type (xs.getD k undef) (ys.getD k undef)).run P w= .ok q w→JC ks' dxs' dys'=some b'→b=(bif q then b' else false)→
    (forIn (f :: fl) ((none,()):Option Bool × Unit) (QG (n+1) xs ys)).run P w= .ok (bif b then (none,()) else (some false,())) w:=fun dx dy dxs' dys' ks' q b' hdx hdy cW DW h1 h2 h3=>by
   subst hdx hdy
   have hpx:=BJ (P:=P) (w:=w) DW (show k<xs.size by omega)
   have hpy:=BJ (P:=P) (w:=w) DW (show k<ys.size by omega)
   have ih:=zeG n xs ys fl ks' (k+1) dxs' dys' b' cW h2 (by omega) (by omega)
    (fun j hj=>by have:=J1 (j+1) (by simp;omega);rwa [show k+(j+1)=k+1+j by omega] at this)
    (fun j hj=>by have:=L1 (j+1) (by simp;omega);rwa [show k+(j+1)=k+1+j by omega] at this)
   rw [List.forIn_cons,Sem.run_bind]
   have hb:(QG (n+1) xs ys f (none,())).run P w= .ok (bif q then ForInStep.yield (none,()) else ForInStep.done (some false,())) w:=by
    unfold QG
    rw [if_pos ZW,VY]
    simp only [Sem.run_bind,hpx,hpy,Result.andThen_ok,h1]
    cases q <;> simp
   rw [hb,Result.andThen_ok]
   subst h3
   cases q with
   | false=>simp
   | true=>simpa using ih
  split at hf
  ·rename_i ks' hu cW
   cases hf
   unfold JC at he
   split at he
   ·simp_all
   ·simp_all
   ·rename_i ks'' p xs' q ys' h1
    cases h1
    obtain ⟨b',h3,h4⟩:=Option.map_eq_some_iff.1 he
    have zZ:=J1 0 (by simp)
    have eZ:=L1 0 (by simp)
    simp only [Nat.add_zero,List.getElem_cons_zero] at zZ eZ
    have e1:xs.getD k undef= .bool p:=by generalize xs.getD k undef=v at zZ;cases zZ;rfl
    have e2:ys.getD k undef= .bool q:=by generalize ys.getD k undef=v at eZ;cases eZ;rfl
    exact main _ _ _ _ _ (p==q) b' rfl rfl cW (by simp [kD,hu]) (by rw [e1,e2];exact zeE n hu p q) h3 h4.symm
   ·cases he
  ·rename_i ki ks' hu cW
   cases hf
   unfold JC at he
   split at he
   ·simp_all
   ·rename_i ks'' j p xs' k' q ys' h1
    cases h1
    by_cases E1:j=k'
    case neg=>simp [E1] at he
    subst E1
    simp only [decide_true,cond_true,Option.map_eq_some_iff] at he
    obtain ⟨b',h3,h4⟩:=he
    have zZ:=J1 0 (by simp)
    have eZ:=L1 0 (by simp)
    simp only [Nat.add_zero,List.getElem_cons_zero] at zZ eZ
    have e1:xs.getD k undef= .int j p:=by generalize xs.getD k undef=v at zZ;cases zZ;rfl
    have e2:ys.getD k undef= .int j q:=by generalize ys.getD k undef=v at eZ;cases eZ;rfl
    exact main _ _ _ _ _ (p==q) b' rfl rfl cW (by simp [kD,hu]) (by rw [e1,e2];exact zeF n hu j p q) h3 h4.symm
   ·rename_i h1;cases h1
   ·cases he
  ·cases hf
omit [fA] in
theorem za1 {P:Program}:∀ (fl:List Field) (k:Nat) (ks:List Bool),SG P k fl=some ks→ks.length=fl.length
 | [],_,_,h=>by simp [SG] at h;subst h;rfl
 | f :: fl,k,ks,h=>by
  simp only [SG] at h
  cases hb : (f.name != "_" && Nat.beq f.offset k)
  case false=>simp [hb] at h
  simp only [hb,cond_true] at h
  split at h
  ·rename_i ks' _ h1;cases h;simp [za1 fl _ _ h1]
  ·rename_i ks' _ h1;cases h;simp [za1 fl _ _ h1]
  ·cases h
omit [fA] in
theorem XQ:∀ (ks:List Bool) (xs ys:List V) (b:Bool),JC ks xs ys=some b→xs.length=ks.length∧ys.length=ks.length
 | [],xs,ys,b,h=>by cases xs <;> cases ys <;> simp [JC] at h;exact ⟨rfl,rfl⟩
 | k :: ks,xs,ys,b,h=>by
  unfold JC at h
  split at h
  ·rename_i h1;cases h1
  ·rename_i ks' j p xs' k' q ys' h1
   cases h1
   cases E1:decide (j=k')
   ·simp [E1] at h
   ·simp only [E1,cond_true,Option.map_eq_some_iff] at h
    obtain ⟨b',h2,_⟩:=h
    have:=XQ _ _ _ _ h2
    simp [this]
  ·rename_i ks' p xs' q ys' h1
   cases h1
   obtain ⟨b',h2,_⟩:=Option.map_eq_some_iff.1 h
   have:=XQ _ _ _ _ h2
   simp [this]
  ·cases h
omit [fA] in
theorem zaX:∀ (k1 ks:List Bool) (xs ys:List V) (b:Bool),JC (k1++ks) xs ys=some b→
  ∃ b1 b2,JC k1 (xs.take k1.length) (ys.take k1.length)=some b1∧JC ks (xs.drop k1.length) (ys.drop k1.length)=some b2∧b=(bif b1 then b2 else false)
 | [],ks,xs,ys,b,h=>⟨true,b,by simp [JC],by simpa using h,rfl⟩
 | k :: k1,ks,xs,ys,b,h=>by
  rw [List.cons_append] at h
  unfold JC at h
  split at h
  ·rename_i h1;cases h1
  ·rename_i ks' j p xs' k' q ys' h1
   cases h1
   cases E1:decide (j=k')
   ·simp [E1] at h
   ·simp only [E1,cond_true,Option.map_eq_some_iff] at h
    obtain ⟨b',h2,h3⟩:=h
    obtain ⟨b1,b2,e1,e2,e3⟩:=zaX _ _ _ _ _ h2
    refine ⟨bif p==q then b1 else false,b2,?_,by simpa using e2,?_⟩
    ·simp only [List.length_cons,List.take_succ_cons,JC,E1,cond_true,e1,Option.map_some]
    ·rw [← h3,e3];cases (p==q) <;> cases b1 <;> rfl
  ·rename_i ks' p xs' q ys' h1
   cases h1
   obtain ⟨b',h2,h3⟩:=Option.map_eq_some_iff.1 h
   obtain ⟨b1,b2,e1,e2,e3⟩:=zaX _ _ _ _ _ h2
   refine ⟨bif p==q then b1 else false,b2,?_,by simpa using e2,?_⟩
   ·simp only [List.length_cons,List.take_succ_cons,JC,e1,Option.map_some]
   ·rw [← h3,e3];cases (p==q) <;> cases b1 <;> rfl
  ·cases h
omit [fA] in
theorem zfH {P:Program} {t:TypeId} (h1:kD P t=some true) {n:Nat} (h2:vD P t=some n) {vs:Array Value} {k:Nat} (hk:k+n≤vs.size):
  (part t vs k).run P w= .ok (.agg (vs.extract k (k+n))) w:=by
 have:¬ vs.size<k+n:=by omega
 simp [part,eL h1,QH h2]
theorem zpI (n:Nat) {P:Program} {bad:Nat→Prop} {t:TypeId} {gs:Array Field} (hu:P.underlying t=some (.struct gs)) (O4:P.stoodInHeld t=false) (xs ys:Array Value) (ks:List Bool) (dxs dys:List V) (b:Bool)
  (hf:SG P 0 gs.toList=some ks) (he:JC ks dxs dys=some b) (hx:dxs.length=xs.size) (hy:dys.length=ys.size)
  (J1:∀ j (hj:j<dxs.length),VR w ρ bad (xs.getD j undef) dxs[j]) (L1:∀ j (hj:j<dys.length),VR w ρ bad (ys.getD j undef) dys[j]):
  (Op.equalIn (n+2) t (.agg xs) (.agg ys)).run P w= .ok b w:=by
 have QV:=za1 _ _ _ hf
 obtain ⟨l1,l2⟩:=XQ _ _ _ _ he
 have E3:=zeG n (P:=P) (w:=w) xs ys gs.toList ks 0 dxs dys b hf he (by omega) (by omega) (by simpa using J1) (by simpa using L1)
 rw [Op.equalIn]
 simp only [Sem.run_bind,LD hu,Result.andThen_ok,run_program,O4,Bool.false_eq_true,if_false]
 rw [← Array.forIn_toList]
 change ((forIn gs.toList ((none,()):Option Bool × Unit) (QG (n+1) xs ys)).run P w).andThen _=_
 rw [E3,Result.andThen_ok]
 cases b <;> simp
theorem zeH (n:Nat) {P:Program} {bad:Nat→Prop} (xs ys:Array Value):∀ (fl:List Field) (ks:List Bool) (k:Nat) (dxs dys:List V) (b:Bool),lI P k fl=some ks→JC ks dxs dys=some b→
  k+dxs.length≤xs.size→k+dys.length≤ys.size→(∀ j (hj:j<dxs.length),VR w ρ bad (xs.getD (k+j) undef) dxs[j])→(∀ j (hj:j<dys.length),VR w ρ bad (ys.getD (k+j) undef) dys[j])→
  (forIn fl ((none,()):Option Bool × Unit) (QG (n+2) xs ys)).run P w= .ok (bif b then (none,()) else (some false,())) w
 | [],ks,k,dxs,dys,b,hf,he,_,_,_,_=>by
  simp only [lI,Option.some.injEq] at hf
  subst hf
  cases dxs <;> cases dys <;> simp [JC] at he
  subst he;simp
 | f :: fl,ks,k,dxs,dys,b,hf,he,hx,hy,J1,L1=>by
  simp only [lI] at hf
  cases hb : (f.name != "_" && Nat.beq f.offset k)
  case false=>simp [hb] at hf
  simp only [hb,cond_true] at hf
  simp only [Bool.and_eq_true,bne_iff_ne,ne_eq] at hb
  obtain ⟨ZW,VY⟩:=hb
  have VY:=Nat.eq_of_beq_eq_true VY
  have main:∀ (m:Nat) (ks':List Bool) (q b':Bool) (px py:Value),lI P (k+m) fl=some ks'→m≤dxs.length→m≤dys.length→
    (part f.type xs k).run P w= .ok px w→(part f.type ys k).run P w= .ok py w→
    (Op.equalIn (n+2) f.type px py).run P w= .ok q w→JC ks' (dxs.drop m) (dys.drop m)=some b'→b=(bif q then b' else false)→
    (forIn (f :: fl) ((none,()):Option Bool × Unit) (QG (n+2) xs ys)).run P w= .ok (bif b then (none,()) else (some false,())) w:=fun m ks' q b' px py cW hm1 P7 hpx hpy h1 h2 h3=>by
   have ih:=zeH n xs ys fl ks' (k+m) (dxs.drop m) (dys.drop m) b' cW h2 (by simp;omega) (by simp;omega)
    (fun j hj=>by have:=J1 (m+j) (by simp at hj;omega);rw [List.getElem_drop];rwa [show k+(m+j)=k+m+j by omega] at this)
    (fun j hj=>by have:=L1 (m+j) (by simp at hj;omega);rw [List.getElem_drop];rwa [show k+(m+j)=k+m+j by omega] at this)
   rw [List.forIn_cons,Sem.run_bind]
   have hb:(QG (n+2) xs ys f (none,())).run P w= .ok (bif q then ForInStep.yield (none,()) else ForInStep.done (some false,())) w:=by
    unfold QG
    rw [if_pos ZW,VY]
    simp only [Sem.run_bind,hpx,hpy,Result.andThen_ok,h1]
    cases q <;> simp
   rw [hb,Result.andThen_ok]
   subst h3
   cases q with
   | false=>simp
   | true=>simpa using ih
  split at hf
  ·rename_i hu
   split at hf
   case h_2=>cases hf
   rename_i ks' cW
   cases hf
   unfold JC at he
   split at he
   ·simp_all
   ·simp_all
   ·rename_i ks'' p xs' q ys' h1
    cases h1
    obtain ⟨b',h3,h4⟩:=Option.map_eq_some_iff.1 he
    have zZ:=J1 0 (by simp)
    have eZ:=L1 0 (by simp)
    simp only [Nat.add_zero,List.getElem_cons_zero] at zZ eZ
    have e1:xs.getD k undef= .bool p:=by generalize xs.getD k undef=v at zZ;cases zZ;rfl
    have e2:ys.getD k undef= .bool q:=by generalize ys.getD k undef=v at eZ;cases eZ;rfl
    have DW:kD P f.type=some false:=by simp [kD,hu]
    simp only [List.length_cons] at hx hy
    exact main 1 ks' (p==q) b' _ _ cW (by simp) (by simp) (BJ DW (show k<xs.size by omega)) (BJ DW (show k<ys.size by omega)) (by rw [e1,e2];exact zeE (n+1) hu p q) (by simpa using h3) h4.symm
   ·cases he
  ·rename_i ki hu
   split at hf
   case h_2=>cases hf
   rename_i ks' cW
   cases hf
   unfold JC at he
   split at he
   ·simp_all
   ·rename_i ks'' j p xs' k' q ys' h1
    cases h1
    by_cases E1:j=k'
    case neg=>simp [E1] at he
    subst E1
    simp only [decide_true,cond_true,Option.map_eq_some_iff] at he
    obtain ⟨b',h3,h4⟩:=he
    have zZ:=J1 0 (by simp)
    have eZ:=L1 0 (by simp)
    simp only [Nat.add_zero,List.getElem_cons_zero] at zZ eZ
    have e1:xs.getD k undef= .int j p:=by generalize xs.getD k undef=v at zZ;cases zZ;rfl
    have e2:ys.getD k undef= .int j q:=by generalize ys.getD k undef=v at eZ;cases eZ;rfl
    have DW:kD P f.type=some false:=by simp [kD,hu]
    simp only [List.length_cons] at hx hy
    exact main 1 ks' (p==q) b' _ _ cW (by simp) (by simp) (BJ DW (show k<xs.size by omega)) (BJ DW (show k<ys.size by omega)) (by rw [e1,e2];exact zeF (n+1) hu j p q) (by simpa using h3) h4.symm
   ·rename_i h1;cases h1
   ·cases he
  ·rename_i gs hu
   split at hf
   case h_2=>cases hf
   rename_i k1 O7
   cases hg:(!(P.stoodInHeld f.type)&&decide (vD P f.type=some k1.length))
   case false=>simp [hg] at hf
   simp only [hg,cond_true] at hf
   simp only [Bool.and_eq_true,Bool.not_eq_true',decide_eq_true_eq] at hg
   split at hf
   case h_2=>cases hf
   rename_i ks' cW
   cases hf
   obtain ⟨b1,b2,e1,e2,e3⟩:=zaX _ _ _ _ _ he
   obtain ⟨l1,l2⟩:=XQ _ _ _ _ he
   simp only [List.length_append] at l1 l2
   have DW:kD P f.type=some true:=by simp [kD,hu]
   refine main k1.length ks' b1 b2 _ _ cW (by omega) (by omega) (zfH DW hg.2 (by omega)) (zfH DW hg.2 (by omega)) ?_ e2 e3
   refine zpI n (ρ:=ρ) (bad:=bad) hu hg.1 _ _ k1 _ _ b1 O7 e1 (by simp;omega) (by simp;omega) (fun j hj=>?_) (fun j hj=>?_)
   ·have:=J1 j (by simp at hj;omega)
    rw [List.getElem_take]
    rw [Array.getD_eq_getD_getElem?] at this ⊢
    have hq:k+j<xs.size:=by simp at hj;omega
    rw [Array.getElem?_extract_of_lt (by simp at hj;omega)]
    simpa [Array.getElem?_eq_getElem hq] using this
   ·have:=L1 j (by simp at hj;omega)
    rw [List.getElem_take]
    rw [Array.getD_eq_getD_getElem?] at this ⊢
    have hq:k+j<ys.size:=by simp at hj;omega
    rw [Array.getElem?_extract_of_lt (by simp at hj;omega)]
    simpa [Array.getElem?_eq_getElem hq] using this
  ·cases hf
variable {o:Oper} {i:Nat} (hr:RA C w0 outer own ρ st a w)
include hr
theorem zrC (op:BinOp) (t t':TypeId) (x y:Operand) (ho:o.op= .binOp op t x y t') (hk:bB C i o st some=some st'):OB C.P o a w (KB C w0 outer own i ρ st'):=by
 simp only [bB,ho] at hk
 have hx:=hr.opd x
 have hy:=hr.opd y
 split at hk
 ·rename_i dxs dys h1 h2
  rw [h1] at hx;rw [h2] at hy
  split at hk
  case h_2=>cases hk
  rename_i ks QY
  split at hk
  case h_2=>cases hk
  rename_i b hb
  unfold zeU at QY
  split at QY
  case h_2=>cases QY
  rename_i fs hu
  cases hg:(!(C.P.stoodInHeld t)&&!(C.P.eqGuardType C.P.depth t))
  case false=>simp [hg] at QY
  simp only [hg,cond_true] at QY
  simp only [Bool.and_eq_true,Bool.not_eq_true'] at hg
  cases yW:a.eval x <;> rw [yW] at hx <;> cases hx
  cases E5:a.eval y <;> rw [E5] at hy <;> cases hy
  rename_i xs S7 v7 ys hys P0
  have E3:=zeH 9997 (P:=C.P) (w:=w) xs ys fs.toList ks 0 dxs dys b QY hb (by omega) (by omega) (by simpa using v7) (by simpa using P0)
  have heq:(Op.equal t (.agg xs) (.agg ys)).run C.P w= .ok b w:=by
   unfold Op.equal Op.maxDepth
   rw [Op.equalIn]
   simp only [Sem.run_bind,LD hu,Result.andThen_ok,run_program,hg.1,Bool.false_eq_true,if_false]
   rw [← Array.forIn_toList]
   change ((forIn fs.toList ((none,()):Option Bool × Unit) (QG 9999 xs ys)).run C.P w).andThen _=_
   rw [E3,Result.andThen_ok]
   cases b <;> simp
  have D6:∀ op',(eqGuard op' t x y (.agg xs) (.agg ys)).run C.P w= .ok () w:=fun op'=>by
   unfold eqGuard
   split <;> simp [hg.2]
  cases op <;> first
   | (cases hk;done)
   | (refine yB (w':=w) ?_ (hr.after (.bool _) hk)
      simp [execOp,ho,yW,E5,D6,binOp,heq];done)
 ·rename_i p q h1 h2
  rw [h1] at hx;rw [h2] at hy
  split at hk
  case h_2=>cases hk
  rename_i hu
  cases yW:a.eval x <;> rw [yW] at hx <;> cases hx
  cases E5:a.eval y <;> rw [E5] at hy <;> cases hy
  have heq:(Op.equal t (.bool p) (.bool q)).run C.P w= .ok (p==q) w:=by
   unfold Op.equal Op.maxDepth
   rw [Op.equalIn];simp [LD hu]
  cases op <;> first
   | (cases hk;done)
   | (refine yB (w':=w) ?_ (hr.after (.bool _) hk)
      simp [execOp,ho,yW,E5,eqGuard,binOp,heq];done)
 ·rename_i b h1 h2
  rw [h1] at hx;rw [h2] at hy
  split at hk
  case h_2=>cases hk
  rename_i hu
  have heq:(Op.equal t (a.eval x) .nilIface).run C.P w= .ok b w:=by
   unfold Op.equal Op.maxDepth
   cases yW:a.eval x <;> rw [yW] at hx <;> cases hx <;> rw [Op.equalIn] <;> simp [LD hu]
  cases E5:a.eval (.const _) <;> rw [E5] at hy <;> cases hy
  cases yW:a.eval x <;> rw [yW] at hx heq <;> cases hx <;> cases op <;> first
   | (cases hk;done)
   | (refine yB (w':=w) ?_ (hr.after (.bool _) hk)
      simp [execOp,ho,yW,E5,eqGuard,binOp,heq];done)
 ·obtain ⟨d,v,h3,h4,h5⟩:=zhC (C:=C) hx hy hk (t:=t) x y
  refine yB (v:=v) (w':=w) ?_ (hr.after h4 h3)
  have h5':((eqGuard op t x y (a.eval x) (a.eval y)).run C.P w).andThen (fun _ w'=>(binOp op t (a.eval x) (a.eval y)).run C.P w')= .ok v w:=by
   rw [← Sem.run_bind];exact h5
  simp only [execOp,ho,Sem.run_bind,Sem.run_pure]
  rw [h5'];rfl
end
end Go.D
namespace Go.D
variable [fA]
section
variable {C:Cx} {w0:World} {outer own:Nat→Prop} {ρ:Nat→Option RI} {st st':St} {a:Act} {w:World} {h:Nat→Option nA}
theorem VR.ow_inv {bad:Nat→Prop} {v:Value} {r:Nat} {ri:RI} (h:VR w ρ bad v (.ow r)) (hρ:ρ r=some ri):
  (v= .slice (some (xA ri.b 0)) ri.n ri.cap∧ri.nl=false∧ri.n≤ri.cap∧ri.cap≤maxLen)∨(∃ ao,v= .slice ao 0 0∧ri.nl=true∧ri.n=0):=by
 cases h with
 | ow _ ri' h1 h2 h3 h4=>rw [hρ] at h1;cases h1;exact .inl ⟨rfl,h4,h2,h3⟩
 | owN _ ri' ao h1 h2 h3=>rw [hρ] at h1;cases h1;exact .inr ⟨ao,rfl,h3,h2⟩
theorem VR.ov_inv {bad:Nat→Prop} {v:Value} {r off len:Nat} {t:TN} {ri:RI} (h:VR w ρ bad v (.ov r t off len)) (hρ:ρ r=some ri):
  ∃ ao cap,v= .slice ao len cap∧off+len≤ri.n∧(len=0∧cap=0∨ao=some (xA ri.b (off *sz t))∧ri.nl=false∧off+cap≤ri.cap)∧len≤cap∧cap≤maxLen:=by
 cases h with
 | ov _ _ _ _ cap ao ri' h1 h2 h3 h4 h5=>rw [hρ] at h1;cases h1;exact ⟨ao,cap,rfl,h2,h3,h4,h5⟩
theorem VR.ov_row {bad:Nat→Prop} {v:Value} {r off len:Nat} {t:TN} (h:VR w ρ bad v (.ov r t off len)):∃ ri,ρ r=some ri:=by
 cases h with
 | ov _ _ _ _ cap ao ri' h1 h2 h3 h4 h5=>exact ⟨_,h1⟩
theorem VR.bp_inv {bad:Nat→Prop} {v:Value} {r off:Nat} (h:VR w ρ bad v (.bp r off)):∃ ri,ρ r=some ri∧v= .pointer (some (xA ri.b off))∧ri.nl=false:=by
 cases h with
 | bp _ _ ri h1 h2=>exact ⟨ri,h1,rfl,h2⟩
theorem VR.sl_inv {bad:Nat→Prop} {v:Value} {t:TN} {l:List (El t)} (h:VR w ρ bad v (.sl t l)):
  ∃ ao cap,v= .slice ao l.length cap∧l.length≤cap∧cap≤maxLen∧(l=[]∨∃ b off,ao=some (xA b off)∧¬ bad b∧
   ∀ i (hi:i<l.length) j,j<sz t→∃ u,w.cell? (xA b (off+i *sz t+j))=some u∧VR w ρ bad u ((enc t l[i]).getD j .undef)):=by
 cases h with
 | slE _ ao cap h=>exact ⟨ao,cap,rfl,Nat.zero_le _,h, .inl rfl⟩
 | slC _ _ b off cap u hb hl hc he hu hv=>exact ⟨_,cap,rfl,hl,hc, .inr ⟨b,off,rfl,hb,fun i hi j hj=>⟨_,hu i hi j hj,hv i hi j hj⟩⟩⟩
theorem VR.sl_inv2 {bad:Nat→Prop} {v:Value} {t:TN} {l:List (El t)} (h:VR w ρ bad v (.sl t l)):
  ∃ ao cap,v= .slice ao l.length cap∧l.length≤cap∧cap≤maxLen∧(l=[]∨∃ b off,ao=some (xA b off)∧(b<fA.base∨DD w b t)∧¬ bad b∧
   ∀ i (hi:i<l.length) j,j<sz t→∃ u,w.cell? (xA b (off+i *sz t+j))=some u∧VR w ρ bad u ((enc t l[i]).getD j .undef)):=by
 cases h with
 | slE _ ao cap h=>exact ⟨ao,cap,rfl,Nat.zero_le _,h, .inl rfl⟩
 | slC _ _ b off cap u hb hl hc he hu hv=>
  by_cases h0:l=[]
  ·exact ⟨_,cap,rfl,hl,hc, .inl h0⟩
  ·exact ⟨_,cap,rfl,hl,hc, .inr ⟨b,off,rfl,he h0,hb,fun i hi j hj=>⟨_,hu i hi j hj,hv i hi j hj⟩⟩⟩
theorem VR.int_inv {bad:Nat→Prop} {v:Value} {k:IntKind} {n:Int} (h:VR w ρ bad v (.int k n)):v= .int k n∧VC k n:=by
 cases h with
 | int _ _ h=>exact ⟨rfl,h⟩
theorem VR.str_inv {bad:Nat→Prop} {v:Value} {s:List UInt8} (h:VR w ρ bad v (.str s)):v= .string ⟨s.toArray⟩∧s.length≤maxLen:=by
 cases h with
 | str _ h=>exact ⟨rfl,h⟩
theorem ZU {e:TypeId} {t:TN} (hC:yD C) (h:yF C e t=true):vD C.P e=some (sz t):=by
 unfold yF at h
 split at h
 ·rename_i t' h1
  have:t'=t:=by simpa using h
  subst this
  obtain ⟨i,z,h2,h3,_⟩:=hC.ok e t' h1
  simp [vD,h2,h3]
 ·cases h
omit [fA] in
theorem ze2 {α:Type} {l:List α} {n:Int} {x:α} (h:pA l n=some x):0≤n∧∃ hk:n.toNat<l.length,l[n.toNat]=x:=by
 unfold pA at h
 split at h
 ·rename_i h0
  obtain ⟨h1,h2⟩:=List.getElem?_eq_some_iff.1 h
  exact ⟨h0,h1,h2⟩
 ·cases h
omit [fA] in
theorem zbb {t e:TypeId} {s:Nat} {b off len cap:Nat} {k:IntKind} {n:Int} (hu:C.P.underlying t=some (.slice e)) (hs:vD C.P e=some s) (h0:0≤n) (h1:n<(len:Int)):
  (Instr.indexAt t (.slice (some (xA b off)) len cap) (.int k n)).run C.P w= .ok (.pointer (some (xA b (off+n.toNat *s)))) w:=by
 simp [Instr.indexAt,asIntOf,LD hu,h0,h1,QH hs,aE]
omit [fA] in
theorem zau {R:Type} {f:Nat→Option R} {i:Int} {r:R}:∀ (n k:Nat),aG f i k n=some r→∃ j,i=((k+j:Nat):Int)∧j<n∧f (k+j)=some r
 | 0,k,h=>by simp [aG] at h
 | n+1,k,h=>by
  simp only [aG] at h
  cases hb:(i==(k:Int))
  ·simp only [hb,cond_false] at h
   obtain ⟨j,h1,h2,h3⟩:=zau n (k+1) h
   exact ⟨j+1,by rw [h1];congr 1;omega,by omega,by rw [show k+(j+1)=k+1+j by omega];exact h3⟩
  ·simp only [hb,cond_true] at h
   exact ⟨0,by simpa using hb,by omega,by simpa using h⟩
variable {o:Oper} {i:Nat} (hr:RA C w0 outer own ρ st a w)
include hr
theorem zrN (hC:yD C) (t:TypeId) (x y:Operand) (ho:o.op= .indexAddr t x y) (hk:bB C i o st some=some st'):OB C.P o a w (KB C w0 outer own i ρ st'):=by
 simp only [bB,ho] at hk
 have hx:=hr.opd x
 have hy:=hr.opd y
 split at hk
 case h_2=>cases hk
 rename_i kk n S9
 rw [S9] at hy
 have P0:=hy.int_inv.1
 split at hk
 ·rename_i e t' l hu nW
  rw [nW] at hx
  cases tX:yF C e t'
  case false=>simp [tX] at hk
  simp only [tX,XB,Option.bind_eq_some_iff] at hk
  obtain ⟨z,hz,hk⟩:=hk
  obtain ⟨h0,RV,rfl⟩:=ze2 hz
  have eW:=ZU hC tX
  obtain ⟨ao,cap,yW,_,_,hl⟩:=hx.sl_inv
  rcases hl with rfl | ⟨b,off,rfl,hb,iW⟩
  ·simp at RV
  ·refine yB (v:= .pointer (some (xA b (off+n.toNat *sz t')))) (w':=w) ?_ (hr.after ?_ hk)
   ·simp [execOp,ho,yW,P0,zbb hu eW h0 (show n<(l.length:Int) by omega)]
   ·have:=VR.fp (w:=w) (ρ:=ρ) (bad:=mA outer ρ st.h) (enc t' l[n.toNat]) 0 b (off+n.toNat *sz t') (fun j=>(w.cell? (xA b (off+n.toNat *sz t'+j))).getD undef) (by rw [aC];exact VJ _) hb
     (fun j hj=>by
      rw [aC] at hj
      obtain ⟨u,h1,_⟩:=iW _ RV j hj
      rw [h1];rfl)
     (fun j hj=>by
      obtain ⟨u,h1,h2⟩:=iW _ RV j (by rw [← aC t' l[n.toNat]];exact hj)
      rw [h1,Option.getD_some]
      rwa [qJ _ _ _ hj] at h2)
    rwa [Nat.add_zero] at this
 ·rename_i e r hu nW
  rw [nW] at hx
  split at hk
  case h_2=>cases hk
  rename_i t' l m LV
  cases tX:yF C e t'
  case false=>simp [tX] at hk
  simp only [tX,XB] at hk
  cases hb:(decide (0≤n)&&decide (n<(l.length:Int)))
  case false=>simp [hb] at hk
  simp only [hb,cond_true] at hk
  simp only [Bool.and_eq_true,decide_eq_true_eq] at hb
  have eW:=ZU hC tX
  obtain ⟨ri,hρ,dW⟩:=qG hr LV
  have dZ:ri.n=l.length:=dW.1
  rcases hx.ow_inv hρ with ⟨yW,mW,_,_⟩ | ⟨ao,yW,mW,d4⟩
  ·have KV:=zbb (w:=w) (cap:=ri.cap) (b:=ri.b) (off:=0) (k:=kk) hu eW hb.1 (show n<(ri.n:Int) by omega)
   refine yB (v:= .pointer (some (xA ri.b (0+n.toNat *sz t')))) (w':=w) ?_ (hr.after ?_ hk)
   ·simp [execOp,ho,yW,P0,KV]
   ·rw [Nat.zero_add];exact .ep _ _ _ 0 _ hρ mW
  ·omega
 ·rename_i e r t' off len hu nW
  rw [nW] at hx
  cases tX:yF C e t'
  case false=>simp [tX] at hk
  simp only [tX,XB] at hk
  cases hb:(decide (0≤n)&&decide (n<(len:Int)))
  case false=>simp [hb] at hk
  simp only [hb,cond_true] at hk
  simp only [Bool.and_eq_true,decide_eq_true_eq] at hb
  have eW:=ZU hC tX
  obtain ⟨ri,hρ⟩:=hx.ov_row
  obtain ⟨ao,cap,yW,_,hao,_,_⟩:=hx.ov_inv hρ
  rcases hao with ⟨h0,_⟩ | ⟨rfl,mW,_⟩
  ·omega
  ·have KV:=zbb (w:=w) (cap:=cap) (b:=ri.b) (off:=off *sz t') (k:=kk) hu eW hb.1 hb.2
   refine yB (v:= .pointer (some (xA ri.b (off *sz t'+n.toNat *sz t')))) (w':=w) ?_ (hr.after ?_ hk)
   ·simp [execOp,ho,yW,P0,KV]
   ·rw [← Nat.add_mul];exact .ep _ _ _ 0 _ hρ mW
 ·rename_i m e r o1 hu nW
  rw [nW] at hx
  split at hk
  case h_2=>cases hk
  rename_i eW
  obtain ⟨j,FX,eX,hk⟩:=zau _ _ hk
  rw [Nat.zero_add] at FX hk
  obtain ⟨ri,hρ,yW,mW⟩:=hx.bp_inv
  refine yB (v:= .pointer (some (xA ri.b (o1+j)))) (w':=w) ?_ (hr.after (.bp _ _ _ hρ mW) hk)
  have h0:0≤n:=by omega
  have h1:n<(m:Int):=by omega
  have h2:n.toNat=j:=by omega
  simp [execOp,ho,yW,P0,Instr.indexAt,asIntOf,LD hu,Instr.sureAddr,h0,h1,QH eW,aE,h2]
 ·cases hk
theorem zrM (t:TypeId) (x y:Operand) (ho:o.op= .index t x y) (hk:bB C i o st some=some st'):OB C.P o a w (KB C w0 outer own i ρ st'):=by
 simp only [bB,ho] at hk
 have hx:=hr.opd x
 have hy:=hr.opd y
 split at hk
 ·rename_i kk n s S9 hu nW
  rw [nW] at hx;rw [S9] at hy
  have P0:=hy.int_inv.1
  obtain ⟨yW,n4⟩:=hx.str_inv
  obtain ⟨z,hz,hk⟩:=Option.bind_eq_some_iff.1 hk
  obtain ⟨h0,RV,rfl⟩:=ze2 hz
  refine yB (v:= .int .u8 (s[n.toNat].toNat:Int)) (w':=w) ?_ (hr.after (.int _ _ ?_) hk)
  ·have h1:n.toNat<(⟨s.toArray⟩:ByteArray).size:=by simpa [ByteArray.size] using RV
   simp [execOp,ho,yW,P0,Instr.index,asIntOf,LD hu,h0,ByteArray.getElem?_lt' _ _ h1]
   rfl
  ·have:=s[n.toNat].toNat_lt
   simp only [VC,IntKind.min,IntKind.max,IntKind.signed,IntKind.bits];simp;omega
 ·rename_i kk n m e cs S9 hu nW
  rw [nW] at hx;rw [S9] at hy
  have P0:=hy.int_inv.1
  split at hk
  case h_2=>cases hk
  rename_i eW DW
  obtain ⟨j,FX,eX,hk⟩:=zau _ _ hk
  rw [Nat.zero_add] at FX hk
  split at hk
  case h_2=>cases hk
  rename_i c r' hd
  have RV:j<cs.length:=by
   rcases Nat.lt_or_ge j cs.length with h | h
   ·exact h
   ·rw [List.drop_eq_nil_of_le h] at hd;cases hd
  have L5:cs[j]=c:=by
   rw [List.drop_eq_getElem_cons RV] at hd;exact (List.cons.inj hd).1
  cases yW:a.eval x <;> rw [yW] at hx <;> cases hx
  rename_i vs hs hv
  have h3:=hv j RV
  rw [L5] at h3
  have h0:0≤n:=by omega
  have h1:n<(m:Int):=by omega
  have h2:n.toNat=j:=by omega
  refine yB (v:=vs.getD j undef) (w':=w) ?_ (hr.after h3 hk)
  simp [execOp,ho,yW,P0,Instr.index,asIntOf,LD hu,h0,h1,QH eW,h2,BJ (P:=C.P) (w:=w) DW (show j<vs.size by omega)]
 ·cases hk
end
end Go.D
namespace Go.D
variable [fA]
section
variable {C:Cx} {w0:World} {outer own:Nat→Prop} {ρ:Nat→Option RI} {st st':St} {a:Act} {w:World} {h:Nat→Option nA}
omit [fA] in
theorem iK {α:Type} {xs:Array α} {l:List α} (h:xs.toList=l):xs=l.toArray:=by subst h;simp
theorem aB.move (hh:aB w0 outer own ρ h w) {r i:Nat} {c:nD} {ri ri':RI} (hr:h r=some ⟨c, .own⟩) (hρ:ρ r=some ri) (hn:ri.nl=false) (hi:ρ i=none)
  (hb:ri'.b=ri.b) (hn':ri'.nl=false) (w':World)
  (O0:Wx w w') (eW:w'.heap.size=w.heap.size) (hw:∀ b,b≠ri.b→w'.heap[b]?=w.heap[b]?) (c':nD)
  (hc:∀ bad,(∀ u d,VR w ρ (mA outer ρ h) u d→VR w' (uA ρ i (some ri')) bad u d)→xC w' (uA ρ i (some ri')) bad ri' c'):
  aB w0 outer own (uA ρ i (some ri')) (uA (uA h r none) i (some ⟨c', .own⟩)) w'∧
   ∀ u d,VR w ρ (mA outer ρ h) u d→VR w' (uA ρ i (some ri')) (mA outer (uA ρ i (some ri')) (uA (uA h r none) i (some ⟨c', .own⟩))) u d:=by
 have hir:i≠r:=by rintro rfl;simp [hρ] at hi
 have hρ':∀ q qi,ρ q=some qi→uA ρ i (some ri') q=some qi:=fun q qi hq=>by
  rw [vA];exact hq;rintro rfl;simp [hi] at hq
 have D4:mA outer ρ h ri.b:= .inr ⟨r,_,ri,hr,rfl,hρ,hn,rfl⟩
 have LV:∀ q row,q≠i→uA (uA h r none) i (some ⟨c', .own⟩) q=some row→q≠r∧h q=some row:=fun q row O6 hq=>by
  rw [vA _ _ _ _ O6] at hq
  by_cases qW:q=r
  ·subst qW;rw [IA] at hq;cases hq
  ·rw [vA _ _ _ _ qW] at hq;exact ⟨qW,hq⟩
 have rW:∀ b,mA outer (uA ρ i (some ri')) (uA (uA h r none) i (some ⟨c', .own⟩)) b→mA outer ρ h b:=by
  rintro b (bY | ⟨q,row,qi,h1,h2,h3,h4,h5⟩)
  ·exact .inl bY
  ·by_cases hq:q=i
   ·subst hq;rw [IA] at h3;cases h3
    rw [← h5,hb];exact D4
   ·rw [vA _ _ _ _ hq] at h3
    exact .inr ⟨q,row,qi,(LV q row hq h1).2,h2,h3,h4,h5⟩
 have hv:∀ u d,VR w ρ (mA outer ρ h) u d→VR w' (uA ρ i (some ri')) (mA outer (uA ρ i (some ri')) (uA (uA h r none) i (some ⟨c', .own⟩))) u d:=fun u d hu=>
  hu.mono hρ' (fun b hb _=>hw b fun e=>hb (e ▸ D4)) fun b hb=> .inl (rW b hb)
 obtain ⟨ri2,h6,_,h7⟩:=hh.rows r _ hr
 rw [hρ] at h6;cases h6
 refine ⟨⟨hh.wx.trans O0,fun b bY ho=>?_,hh.outLt,?_,?_⟩,hv⟩
 ·refine (hw b ?_).trans (hh.old b bY ho)
  rintro rfl
  rcases (h7 hn).1.2 rfl with h8 | h8
  ·omega
  ·exact ho h8
 ·intro q row hq
  by_cases O6:q=i
  ·subst O6;rw [IA] at hq;cases hq
   exact ⟨ri',IA _ _ _,hc _ hv,fun _=>by rw [hb,eW];exact h7 hn⟩
  ·obtain ⟨qW,hq⟩:=LV q row O6 hq
   obtain ⟨qi,h1,h2,h3⟩:=hh.rows q row hq
   refine ⟨qi,hρ' q qi h1,h2.keep (fun J6=>hw _ ?_) hv,fun J6=>by rw [eW];exact h3 J6⟩
   intro e;exact qW (hh.inj q r row _ qi ri hq hr h1 hρ J6 hn e)
 ·intro q q' row row' qi qi' h1 h2 h3 h4 h5 h6 h7
  by_cases hq:q=i <;> by_cases MY:q'=i
  ·rw [hq,MY]
  ·subst hq;rw [IA] at h3;cases h3
   obtain ⟨qW,h2⟩:=LV q' row' MY h2
   rw [vA _ _ _ _ MY] at h4
   exact absurd (hh.inj q' r row' _ qi' ri h2 hr h4 hρ h6 hn (by rw [← h7,hb])) qW
  ·subst MY;rw [IA] at h4;cases h4
   obtain ⟨qW,h1⟩:=LV q row hq h1
   rw [vA _ _ _ _ hq] at h3
   exact absurd (hh.inj q r row _ qi ri h1 hr h3 hρ h5 hn (by rw [h7,hb])) qW
  ·obtain ⟨_,h1⟩:=LV q row hq h1
   obtain ⟨_,h2⟩:=LV q' row' MY h2
   rw [vA _ _ _ _ hq] at h3;rw [vA _ _ _ _ MY] at h4
   exact hh.inj q q' row row' qi qi' h1 h2 h3 h4 h5 h6 h7
variable {o:Oper} {i:Nat} (hr:RA C w0 outer own ρ st a w)
omit [fA] in
theorem zqT {n:Nat} (h:n≤maxLen):VC .i64 (n:Int):=by
 unfold maxLen at h
 simp only [VC,IntKind.min,IntKind.max,IntKind.signed,IntKind.bits];simp;omega
include hr
theorem zfi {d:V} {v:Value} {n:Nat} (hv:VR w ρ (mA outer ρ st.h) v d) (hn:vI st.h d=some n):
  n≤maxLen∧((∃ ao cap,v= .slice ao n cap∧n≤cap)∨∃ s,d= .str s∧v= .string ⟨s.toArray⟩∧n=s.length):=by
 unfold vI at hn
 split at hn
 ·cases hn
  obtain ⟨ao,cap,h1,h2,h3,_⟩:=hv.sl_inv
  exact ⟨Nat.le_trans h2 h3, .inl ⟨ao,cap,h1,h2⟩⟩
 ·cases hn
  cases hv
  exact ⟨Nat.zero_le _, .inl ⟨none,0,rfl,Nat.le_refl _⟩⟩
 ·cases hn
  obtain ⟨h1,h2⟩:=hv.str_inv
  exact ⟨h2, .inr ⟨_,rfl,h1,rfl⟩⟩
 ·split at hn
  case h_2=>cases hn
  rename_i t l m LV
  cases hn
  obtain ⟨ri,hρ,dW⟩:=qG hr LV
  have dZ:ri.n=l.length:=dW.1
  rcases hv.ow_inv hρ with ⟨h1,h2,h3,h4⟩ | ⟨ao,h1,h2,h3⟩
  ·rw [← dZ];exact ⟨Nat.le_trans h3 h4, .inl ⟨_,_,h1,h3⟩⟩
  ·rw [← dZ,h3];exact ⟨Nat.zero_le _, .inl ⟨_,_,h1,Nat.le_refl _⟩⟩
 ·cases hn
  obtain ⟨ri,hρ⟩:=hv.ov_row
  obtain ⟨ao,cap,h1,_,_,h2,h3⟩:=hv.ov_inv hρ
  exact ⟨Nat.le_trans h2 h3, .inl ⟨ao,cap,h1,h2⟩⟩
 ·cases hn
theorem zrO (args:Array Operand) (argTypes:Array TypeId) (ho:o.op= .call { callee:= .builtin .len,args,argTypes }) (hk:bB C i o st some=some st'):OB C.P o a w (KB C w0 outer own i ρ st'):=by
 simp only [bB,ho] at hk
 split at hk
 case h_2=>cases hk
 rename_i x t LW s7
 split at hk
 case h_2=>cases hk
 rename_i d n hu QV
 cases MX:eS d (opd st.s x)
 case false=>simp [MX] at hk
 simp only [MX,XB] at hk
 obtain ⟨W0,hl⟩:=zfi hr (hr.opd x) QV
 have e1:=iK LW
 have e2:=iK s7
 subst e1 e2
 refine yB (v:= .int .i64 (n:Int)) (w':=w) ?_ (hr.after (.int _ _ (zqT W0)) hk)
 rcases hl with ⟨ao,cap,h1,_⟩ | ⟨s,h0,h1,h2⟩
 ·have hd:∃ e,d= .slice e:=by
   unfold eS at MX
   split at MX <;> first | exact ⟨_,rfl⟩ | skip
   ·rename_i s nW
    have:=hr.opd x
    rw [nW] at this
    rw [this.str_inv.1] at h1;cases h1
   ·cases MX
  obtain ⟨e,rfl⟩:=hd
  simp [execOp,ho,resolve,invoke,builtin,Builtin.len_,LD hu,h1,goInt]
 ·have hd:d= .string:=by
   rw [h0] at MX
   unfold eS at MX
   split at MX <;> first | rfl | (rename_i hh;cases hh) | cases MX
  subst hd
  have QX:(⟨s.toArray⟩:ByteArray).size=s.length:=by simp [ByteArray.size]
  simp [execOp,ho,resolve,invoke,builtin,Builtin.len_,LD hu,h1,h2,QX,goInt]
theorem zrT (args:Array Operand) (argTypes:Array TypeId) (ho:o.op= .call { callee:= .builtin .min,args,argTypes }) (hk:bB C i o st some=some st'):OB C.P o a w (KB C w0 outer own i ρ st'):=by
 simp only [bB,ho] at hk
 split at hk
 case h_2=>cases hk
 rename_i k p k' q LW
 by_cases vZ:k=k'
 case neg=>simp [vZ] at hk
 subst vZ
 simp only [decide_true,cond_true] at hk
 obtain ⟨x,xs,S7,h1,h2⟩:=List.map_eq_cons_iff.1 LW
 obtain ⟨y,ys,hys,h3,h4⟩:=List.map_eq_cons_iff.1 h2
 have h5:=List.map_eq_nil_iff.1 h4
 subst h5 hys
 have e1:=iK S7
 subst e1
 have hx:=hr.opd x;rw [h1] at hx
 have hy:=hr.opd y;rw [h3] at hy
 refine yB (v:= .int k (if q<p then q else p)) (w':=w) ?_ (hr.after (.int _ _ (by split;exact hy.int_inv.2;exact hx.int_inv.2)) hk)
 simp [execOp,ho,resolve,invoke,builtin,Builtin.min_,hx.int_inv.1,hy.int_inv.1,Builtin.min2]
theorem zrS (args:Array Operand) (argTypes:Array TypeId) (ho:o.op= .call { callee:= .builtin .max,args,argTypes }) (hk:bB C i o st some=some st'):OB C.P o a w (KB C w0 outer own i ρ st'):=by
 simp only [bB,ho] at hk
 split at hk
 case h_2=>cases hk
 rename_i k p k' q LW
 by_cases vZ:k=k'
 case neg=>simp [vZ] at hk
 subst vZ
 simp only [decide_true,cond_true] at hk
 obtain ⟨x,xs,S7,h1,h2⟩:=List.map_eq_cons_iff.1 LW
 obtain ⟨y,ys,hys,h3,h4⟩:=List.map_eq_cons_iff.1 h2
 have h5:=List.map_eq_nil_iff.1 h4
 subst h5 hys
 have e1:=iK S7
 subst e1
 have hx:=hr.opd x;rw [h1] at hx
 have hy:=hr.opd y;rw [h3] at hy
 refine yB (v:= .int k (if q>p then q else p)) (w':=w) ?_ (hr.after (.int _ _ (by split;exact hy.int_inv.2;exact hx.int_inv.2)) hk)
 simp [execOp,ho,resolve,invoke,builtin,Builtin.max_,hx.int_inv.1,hy.int_inv.1,Builtin.max2]
end
end Go.D
namespace Go.D
variable [fA]
section
variable {C:Cx} {w0:World} {outer own:Nat→Prop} {ρ:Nat→Option RI} {st st':St} {a:Act} {w:World} {h:Nat→Option nA}
def VI (w:World) (ρ:Nat→Option RI) (bad:Nat→Prop) (t:TN) (l:List (El t)) (cs:List Value):Prop:=
 cs.length=l.length *sz t∧∀ i (hi:i<l.length) j,j<sz t→∃ u,cs[i *sz t+j]?=some u∧VR w ρ bad u ((enc t l[i]).getD j .undef)
omit [fA] in
theorem zeo {n k m:Nat} (hm:0<m) (h:k<n *m):k / m<n∧k % m<m∧k / m *m+k % m=k:=
 ⟨(Nat.div_lt_iff_lt_mul hm).2 h,Nat.mod_lt _ hm,by rw [Nat.mul_comm];exact Nat.div_add_mod k m⟩
theorem VI.one {bad:Nat→Prop} {t:TN} {l:List (El t)} {cs:List Value} (h:VI w ρ bad t l cs):∀ u ∈ cs,u.oneCell'=true:=by
 intro u hu
 obtain ⟨k,hk,rfl⟩:=List.mem_iff_getElem.1 hu
 obtain ⟨h1,h2,h3⟩:=zeo (VJ t) (by rw [← h.1];exact hk)
 obtain ⟨u,h4,h5⟩:=h.2 _ h1 _ h2
 rw [h3,List.getElem?_eq_getElem hk] at h4
 cases h4
 exact h5.one (zeu _ _ _ h2)
def fJ (w:World) (b off n:Nat):List Value:=(List.range n).map fun k=>(w.cell? (xA b (off+k))).getD undef
omit [fA] in
theorem zdN (w:World) (b off n:Nat):(fJ w b off n).length=n:=by simp [fJ]
omit [fA] in
theorem zdM (w:World) (b off n k:Nat) (hk:k<n):(fJ w b off n)[k]?=some ((w.cell? (xA b (off+k))).getD undef):=by
 simp [fJ,hk]
theorem zet {bad:Nat→Prop} {t:TN} {l:List (El t)} {b off:Nat}
  (hv:∀ i (hi:i<l.length) j,j<sz t→∃ u,w.cell? (xA b (off+i *sz t+j))=some u∧VR w ρ bad u ((enc t l[i]).getD j .undef)):
  VI w ρ bad t l (fJ w b off (l.length *sz t))∧∀ j u,(fJ w b off (l.length *sz t))[j]?=some u→w.cell? ((xA b off).add j)=some u:=by
 refine ⟨⟨zdN _ _ _ _,fun i hi j hj=>?_⟩,fun k u hk=>?_⟩
 ·obtain ⟨u,h1,h2⟩:=hv i hi j hj
  have RV:i *sz t+j<l.length *sz t:=by
   have:(i+1) *sz t≤l.length *sz t:=Nat.mul_le_mul_right _ hi
   rw [Nat.add_mul,Nat.one_mul] at this;omega
  refine ⟨u,?_,h2⟩
  rw [zdM _ _ _ _ _ RV, ← Nat.add_assoc,h1];rfl
 ·have RV:k<l.length *sz t:=by
   rcases Nat.lt_or_ge k (l.length *sz t) with h | h
   ·exact h
   ·rw [List.getElem?_eq_none (by rw [zdN];exact h)] at hk;cases hk
  obtain ⟨h1,h2,h3⟩:=zeo (VJ t) RV
  obtain ⟨u',h4,_⟩:=hv _ h1 _ h2
  rw [Nat.add_assoc,h3] at h4
  rw [zdM _ _ _ _ _ RV,h4] at hk
  rw [aE,h4];exact hk
omit [fA] in
theorem zgX {α:Type} (l:List α) (off len i:Nat) (h:off+len≤l.length) (hi:i<((l.drop off).take len).length):((l.drop off).take len)[i]=l[off+i]'(by simp at hi;omega):=by simp
variable {o:Oper} {i:Nat} (hr:RA C w0 outer own ρ st a w)
include hr
theorem zes {tn:TN} {v:Value} {d:V} {m:List (El tn)} (hv:VR w ρ (mA outer ρ st.h) v d) (hm:eN st.h tn d=some m):
  ∃ ao cap,v= .slice ao m.length cap∧(m=[]∨∃ b off,ao=some (xA b off)∧
   ∀ i (hi:i<m.length) j,j<sz tn→∃ u,w.cell? (xA b (off+i *sz tn+j))=some u∧VR w ρ (mA outer ρ st.h) u ((enc tn m[i]).getD j .undef)):=by
 have mk:∀ (ao:Option Addr) (cap:Nat),v= .slice ao m.length cap→(m=[]∨∃ b off,ao=some (xA b off)∧
   ∀ i (hi:i<m.length) j,j<sz tn→∃ u,w.cell? (xA b (off+i *sz tn+j))=some u∧VR w ρ (mA outer ρ st.h) u ((enc tn m[i]).getD j .undef))→
   ∃ ao cap,v= .slice ao m.length cap∧(m=[]∨∃ b off,ao=some (xA b off)∧
   ∀ i (hi:i<m.length) j,j<sz tn→∃ u,w.cell? (xA b (off+i *sz tn+j))=some u∧VR w ρ (mA outer ρ st.h) u ((enc tn m[i]).getD j .undef)):=fun ao cap h1 h2=>⟨ao,cap,h1,h2⟩
 unfold eN at hm
 split at hm
 ·rename_i t' l
  split at hm
  case isFalse=>cases hm
  rename_i e1
  subst e1
  simp only [hI,Option.some.injEq] at hm
  subst hm
  obtain ⟨ao,cap,h1,_,_,h4⟩:=hv.sl_inv
  refine mk ao cap h1 ?_
  rcases h4 with h4 | ⟨b,off,h5,_,h6⟩
  ·exact .inl h4
  ·exact .inr ⟨b,off,h5,h6⟩
 ·cases hm
  cases hv
  exact mk none 0 rfl (.inl rfl)
 ·rename_i r
  split at hm
  case h_2=>cases hm
  rename_i t' l mo LV
  split at hm
  case isFalse=>cases hm
  rename_i e1
  subst e1
  simp only [hI,Option.some.injEq] at hm
  subst hm
  obtain ⟨ri,hρ,dW⟩:=qG hr LV
  have dZ:ri.n=l.length:=dW.1
  rcases hv.ow_inv hρ with ⟨h1,h2,h3,h4⟩ | ⟨ao,h1,h2,h3⟩
  ·refine mk _ ri.cap (by rw [← dZ];exact h1) ?_
   rcases dW.2 with h5 | ⟨_,_,_,_,_,h6⟩
   ·exact .inl h5.2
   ·exact .inr ⟨ri.b,0,rfl,fun i hi j hj=>by rw [Nat.zero_add];exact h6 i hi j hj⟩
  ·have:l=[]:=List.eq_nil_of_length_eq_zero (by omega)
   exact mk ao 0 (by rw [this];exact h1) (.inl this)
 ·rename_i r t0 off len
  split at hm
  case h_2=>cases hm
  rename_i t' l mo LV
  by_cases ht0:t0=tn
  case neg=>simp [ht0] at hm
  subst ht0
  simp only [decide_true,cond_true] at hm
  split at hm
  case isFalse=>cases hm
  rename_i e1
  subst e1
  simp only [hI,Option.some.injEq] at hm
  subst hm
  obtain ⟨ri,hρ,dW⟩:=qG hr LV
  have dZ:ri.n=l.length:=dW.1
  obtain ⟨ao,cap,h1,h2,h3,h4,h5⟩:=hv.ov_inv hρ
  have QV:((l.drop off).take len).length=len:=by simp;omega
  refine mk ao cap (by rw [QV];exact h1) ?_
  rcases h3 with ⟨rfl,_⟩ | ⟨rfl,mW,_⟩
  ·exact .inl (by simp)
  ·rcases dW.2 with h5 | ⟨_,_,_,_,_,h6⟩
   ·rw [mW] at h5;cases h5.1
   ·refine .inr ⟨ri.b,_,rfl,fun i hi j hj=>?_⟩
    rw [zgX l off len i (by omega) hi, ← Nat.add_mul]
    exact h6 (off+i) (by omega) j hj
 ·cases hm
theorem zpC {P:Program} {t e:TypeId} {tn:TN} {v:Value} {d:V} {m:List (El tn)} (hu:P.underlying t=some (.slice e)) (hv:VR w ρ (mA outer ρ st.h) v d) (hm:eN st.h tn d=some m):
  ∃ news,Src P (sz tn) t v m.length news w∧VI w ρ (mA outer ρ st.h) tn m news:=by
 obtain ⟨ao,cap,rfl,h⟩:=zes hr hv hm
 rcases h with rfl | ⟨b,off,rfl,hc⟩
 ·refine ⟨[],?_,⟨by simp,fun i hi=>by simp at hi⟩⟩
  cases ao with
  | none=>exact Src.ofNil w hu cap
  | some ad=>exact Src.ofSlice w hu ad 0 cap [] (by simp) (fun j u h=>by simp at h) (fun u h=>by simp at h)
 ·obtain ⟨h1,h2⟩:=zet hc
  exact ⟨_,Src.ofSlice w hu (xA b off) m.length cap _ h1.1 h2 h1.one,h1⟩
omit hr in
theorem zcz {bad bad':Nat→Prop} {w':World} {ρ':Nat→Option RI} {t:TN} {l m:List (El t)} {olds news:List Value} (h1:VI w ρ bad t l olds) (h2:VI w ρ bad t m news)
  (hk:∀ u d,VR w ρ bad u d→VR w' ρ' bad' u d) {b:Nat}
  (hc:∀ j u,(olds++news)[j]?=some u→w'.cell? (xA b j)=some u):∀ i (hi:i<(l++m).length) j,j<sz t→∃ u,w'.cell? (xA b (i *sz t+j))=some u∧VR w' ρ' bad' u ((enc t (l++m)[i]).getD j .undef):=by
 intro i hi j hj
 by_cases m9:i<l.length
 ·obtain ⟨u,h3,h4⟩:=h1.2 i m9 j hj
  have RV:i *sz t+j<olds.length:=by
   rw [h1.1]
   have:(i+1) *sz t≤l.length *sz t:=Nat.mul_le_mul_right _ m9
   rw [Nat.add_mul,Nat.one_mul] at this;omega
  refine ⟨u,hc _ _ (by rw [List.getElem?_append_left RV];exact h3),?_⟩
  rw [List.getElem_append_left m9];exact hk _ _ h4
 ·have him:i - l.length<m.length:=by simp at hi;omega
  obtain ⟨u,h3,h4⟩:=h2.2 (i - l.length) him j hj
  have bZ:olds.length≤i *sz t+j:=by
   rw [h1.1]
   have:l.length *sz t≤i *sz t:=Nat.mul_le_mul_right _ (by omega)
   omega
  refine ⟨u,hc _ _ ?_,?_⟩
  ·rw [List.getElem?_append_right bZ,h1.1]
   have:i *sz t+j - l.length *sz t=(i - l.length) *sz t+j:=by
    have h5:l.length *sz t≤i *sz t:=Nat.mul_le_mul_right _ (by omega)
    rw [Nat.sub_mul];omega
   rw [this];exact h3
  ·rw [List.getElem_append_right (by omega)];exact hk _ _ h4
theorem zrB (hC:yD C) (args:Array Operand) (argTypes:Array TypeId) (ho:o.op= .call { callee:= .builtin .append,args,argTypes }) (hi:ρ i=none) (hk:bB C i o st some=some st'):
  OB C.P o a w (KB C w0 outer own i ρ st'):=by
 simp only [bB,ho] at hk
 split at hk
 case h_2=>cases hk
 rename_i x y t t' LW s7
 cases htt:Nat.beq t t'
 case false=>simp [htt] at hk
 have htt:=Nat.eq_of_beq_eq_true htt
 subst htt
 simp only [Nat.beq_refl,XB] at hk
 split at hk
 ·cases hk
 rename_i tn tX
 obtain ⟨e,he,C5⟩:=Option.bind_eq_some_iff.1 tX
 have hu:C.P.underlying t=some (.slice e):=by
  unfold mJ at he
  split at he
  ·rename_i h1;cases he;exact h1
  ·cases he
 obtain ⟨info,z,cZ,lX,N7,E6,Z8⟩:=hC.ok e tn C5
 split at hk
 case h_2=>cases hk
 rename_i l ro m aX GZ
 cases YW:decide (l.length+m.length≤bA)
 case false=>simp [YW] at hk
 simp only [YW,cond_true] at hk
 have YW:l.length+m.length≤bA:=of_decide_eq_true YW
 obtain ⟨news,hsrc,tY⟩:=zpC hr hu (hr.opd y) GZ
 have N3:Src C.P info.size t (a.eval y) m.length news w:=by rw [lX];exact hsrc
 have e1:=iK LW
 have e2:=iK s7
 subst e1 e2
 have jW:∀ v w',(Builtin.append_ #[t,t] o.type #[a.eval x,a.eval y]).run C.P w= .ok v w'→(execOp a.eval o).run C.P w= .ok (.value v) w':=fun v w' h1=>by
  simp [execOp,ho,resolve,invoke,builtin,h1]
 have hLIM:bA *1024≤140737488355328:=by unfold bA;decide
 have J5:(l.length+m.length) *info.bytes≤140737488355328:=Nat.le_trans (Nat.mul_le_mul YW N7) hLIM
 have hLIM2:bA≤9223372036854775807:=by unfold bA;decide
 -- a new row
 have grown:∀ (ao:Option Addr) (cap:Nat) (olds:List Value) (h':Nat→Option nA),a.eval x= .slice ao l.length cap→cap<l.length+m.length→VI w ρ (mA outer ρ st.h) tn l olds→
   (Builtin.firstCells info.size l.length (.slice ao l.length cap)).run C.P w.drew= .ok olds.toArray w.drew→
   (∀ r row',h' r=some row'→∃ row,st.h r=some row∧row.c=row'.c∧(row'.m.isRo=false→row.m.isRo=false))→
   rD C o.dst { st with h:=h' } i (.arr tn (l++m)) (.ow i) some=some st'→OB C.P o a w (KB C w0 outer own i ρ st'):=by
  intro ao cap olds h' hx Q1 holds z6 kW JY
  have KV:=run_append_grow_src (P:=C.P) w t t o.type e info z hu cZ E6 ao l.length cap olds z6 (a.eval y) m.length news N3 (by omega)
   (by have:((l.length+m.length:Nat):Int)≤(bA:Nat):=by omega
       omega) (growslice_fits (by omega) J5)
  rw [← hx] at KV
  have bZ:=grownCap_ge w (l.length+m.length) cap e
  have L7:grownCap w (l.length+m.length) cap e≤maxLen:=grownCap_le_maxLen w (l.length+m.length) cap e (by unfold maxLen;omega)
  obtain ⟨Y4,Q4⟩:=hr.heap.less kW
  have MV:RA C w0 outer own ρ { st with h:=h' } a w:=hr.turn Y4 Q4
  refine yB (jW _ _ KV) (MV.newRow hi ⟨w.heap.size,l.length+m.length,grownCap w (l.length+m.length) cap e,false⟩ (fun _=>rfl) _ (Wx.trans (zhc w) (JP _ _))
   (fun b hb=>oN w.drew _ b hb) (fun _=>by simp) (fun bad NV=>?_) (fun bad=>?_) JY)
  ·generalize gY:((olds++news).toArray++Builtin.zeroCells z.cells (grownCap w (l.length+m.length) cap e - (l.length+m.length)))=cells at NV ⊢
   have cAA:cells.size=grownCap w (l.length+m.length) cap e *sz tn:=by
    rw [← gY,Array.size_append,size_zeroCells,Z8]
    have h5:(olds++news).toArray.size=(l.length+m.length) *sz tn:=by simp [holds.1,tY.1,Nat.add_mul]
    rw [h5, ← Nat.add_mul];congr 1;omega
   refine ⟨by simp, .inr ⟨rfl,zaB (w:=w.drew) (hC.tys e tn C5),bZ,L7,fun j hj=>⟨World.frozen?_alloc_new _ _ _ _,?_⟩,?_⟩⟩
   ·have:=eJ w.drew cells e j (by rw [cAA];exact hj)
    rw [World.size_drew] at this
    rw [this];rfl
   ·refine zcz (ρ':=uA ρ i _) (bad':=bad) ⟨holds.1,fun i hi j hj=>?_⟩ ⟨tY.1,fun i hi j hj=>?_⟩ NV fun j u hj=>?_
    ·obtain ⟨u,h6,h7⟩:=holds.2 i hi j hj;exact ⟨u,h6,Q4 _ _ h7⟩
    ·obtain ⟨u,h6,h7⟩:=tY.2 i hi j hj;exact ⟨u,h6,Q4 _ _ h7⟩
    ·have RV:j<(olds++news).length:=by
      rcases Nat.lt_or_ge j (olds++news).length with h | h
      ·exact h
      ·rw [List.getElem?_eq_none h] at hj;cases hj
     have QZ:j<cells.size:=by
      rw [← gY,Array.size_append];simp at RV ⊢;omega
     have:=eJ w.drew cells e j QZ
     rw [World.size_drew] at this
     rw [this,Array.getD_eq_getD_getElem?,Array.getElem?_eq_getElem QZ,Option.getD_some, ← hj,List.getElem?_eq_getElem RV]
     congr 1
     subst gY
     rw [Array.getElem_append_left (by simpa using RV)];simp
  ·exact .ow i ⟨w.heap.size,l.length+m.length,grownCap w (l.length+m.length) cap e,false⟩ (IA _ _ _) bZ L7 rfl
 -- nothing there,nothing appended,or a new row
 have empty:∀ (ao:Option Addr) (h':Nat→Option nA),l=[]→a.eval x= .slice ao 0 0→
   (∀ r row',h' r=some row'→∃ row,st.h r=some row∧row.c=row'.c∧(row'.m.isRo=false→row.m.isRo=false))→
   rD C o.dst { st with h:=h' } i (.arr tn (l++m)) (.ow i) some=some st'→OB C.P o a w (KB C w0 outer own i ρ st'):=by
  intro ao h' hl hx kW JY
  subst hl
  by_cases hm:m=[]
  ·subst hm
   obtain ⟨Y4,Q4⟩:=hr.heap.less kW
   have MV:RA C w0 outer own ρ { st with h:=h' } a w:=hr.turn Y4 Q4
   have d4:news=[]:=List.eq_nil_of_length_eq_zero (by rw [tY.1];simp)
   subst d4
   have KV:=run_append_nothing w t t o.type e info hu cZ ao 0 0 (Nat.le_refl _) (a.eval y) N3
   rw [← hx] at KV
   refine yB (jW _ _ KV) (MV.newRow hi ⟨0,0,0,true⟩ (fun h=>by cases h) w (Wx.refl _) (fun b hb=>rfl) (fun h=>by cases h) (c:= .arr tn ([]++[])) (fun bad NV=>⟨rfl, .inl ⟨rfl,rfl⟩⟩) (fun bad=>?_) JY)
   rw [hx];exact .owN i ⟨0,0,0,true⟩ ao (IA _ _ _) rfl rfl
  ·have Y0:0<m.length:=List.length_pos_iff.2 hm
   refine grown ao 0 [] h' hx (by simpa using Y0) ⟨by simp,fun i hi=>by simp at hi⟩ ?_ kW JY
   cases ao with
   | none=>exact run_firstCells_none w.drew info.size 0 0 0
   | some ad=>exact run_firstCells_some w.drew info.size 0 ad 0 0 [] (by simp) (fun j v h=>by simp at h)
 have killLess:∀ (r:Option Nat) (q:Nat) (row':nA),wJ st.h r q=some row'→∃ row,st.h q=some row∧row.c=row'.c∧(row'.m.isRo=false→row.m.isRo=false):=by
  intro r q row' h1
  cases r with
  | none=>exact ⟨row',h1,rfl,id⟩
  | some r=>
   simp only [wJ] at h1
   by_cases hq:q=r
   ·subst hq;rw [IA] at h1;cases h1
   ·rw [vA _ _ _ _ hq] at h1;exact ⟨row',h1,rfl,id⟩
 -- a row of the call's own,or the beginning of one
 have full:∀ (r:Nat) (l0:List (El tn)) (ri:RI) (cap:Nat),st.h r=some ⟨.arr tn l0, .own⟩→ρ r=some ri→ri.nl=false→l=l0.take l.length→l.length≤cap→cap≤ri.cap→
   a.eval x= .slice (some (xA ri.b 0)) l.length cap→rD C o.dst { st with h:=wJ st.h (some r) } i (.arr tn (l++m)) (.ow i) some=some st'→OB C.P o a w (KB C w0 outer own i ρ st'):=by
  intro r l0 ri cap LV hρ mW hl m5 hcc hx JY
  have hll0:l.length≤l0.length:=by rw [hl];simp;omega
  obtain ⟨_,hρ2,dW,_⟩:=hr.heap.rows r _ LV
  rw [hρ] at hρ2;cases hρ2
  rcases dW.2 with h5 | ⟨_,ce,c1,c2,c3,c4⟩
  ·rw [mW] at h5;cases h5.1
  have holds:=zet (w:=w) (ρ:=ρ) (bad:=mA outer ρ st.h) (t:=tn) (l:=l) (b:=ri.b) (off:=0) (fun i hi j hj=>by
   obtain ⟨u,h6,h7⟩:=c4 i (by omega) j hj
   refine ⟨u,by rw [Nat.zero_add];exact h6,?_⟩
   have:l[i]=l0[i]'(by omega):=by
    have h8:l[i]?=(l0.take l.length)[i]?:=by rw [← hl]
    rw [List.getElem?_eq_getElem hi,List.getElem?_take,if_pos hi,List.getElem?_eq_getElem (by omega)] at h8
    exact Option.some.inj h8
   rw [this];exact h7)
  by_cases L0:l.length+m.length≤cap
  ·have hcz:cap *sz tn≤ri.cap *sz tn:=Nat.mul_le_mul_right _ hcc
   have hrz:(l.length+m.length) *sz tn≤cap *sz tn:=Nat.mul_le_mul_right _ L0
   rw [Nat.add_mul] at hrz
   have VW:∀ j,j<news.length→(w.cell? ⟨ri.b,0+l.length *info.size+j,none⟩).isSome=true:=fun j hj=>by
    rw [lX,Nat.zero_add];exact (c3 _ (by rw [tY.1] at hj;omega)).2
   have dX:∀ j,j<news.length→w.frozen? ⟨ri.b,0+l.length *info.size+j,none⟩=false:=fun j hj=>by
    rw [lX,Nat.zero_add];exact (c3 _ (by rw [tY.1] at hj;omega)).1
   have KV:=run_append_room_src (P:=C.P) w t t o.type e info hu cZ ri.b 0 l.length cap (a.eval y) m.length news N3 L0 VW dX
   rw [show (⟨ri.b,0,none⟩:Addr)=xA ri.b 0 from rfl, ← hx,lX,Nat.zero_add] at KV
   rw [lX,Nat.zero_add] at VW
   generalize hW:w.setCells ri.b (l.length *sz tn) news=W at KV
   have P9:=hr.heap.move LV hρ mW hi (ri':=⟨ri.b,l.length+m.length,cap,false⟩) rfl rfl W (by rw [← hW];exact mV _ _ _ _) (by rw [← hW];exact JS _ _ _ _)
    (fun b hb=>by rw [← hW];exact qR _ _ _ _ _ hb) (.arr tn (l++m)) (fun bad NV=>by
     refine ⟨by simp, .inr ⟨rfl,by rw [← hW];exact zaC _ _ ce,L0,Nat.le_trans hcc c2,fun j hj=>⟨by rw [← hW,World.frozen?_setCells];exact (c3 j (by have:j<cap *sz tn:=hj;omega)).1,?_⟩,?_⟩⟩
     ·by_cases hjj:l.length *sz tn≤j∧j<l.length *sz tn+news.length
      ·have:=World.cell?_setCells_in ri.b news (l.length *sz tn) w VW (j - l.length *sz tn) (by omega)
       rw [show l.length *sz tn+(j - l.length *sz tn)=j by omega,hW] at this
       show (W.cell? ⟨ri.b,j,none⟩).isSome=true
       rw [this];rfl
      ·rw [← hW,World.cell?_setCells_out]
       ·exact (c3 j (by have:j<cap *sz tn:=hj;omega)).2
       ·intro _ _;simp only [xA];omega
     ·refine zcz holds.1 tY NV fun j u hj=>?_
      have hol:=holds.1.1
      by_cases EX:j<(fJ w ri.b 0 (l.length *sz tn)).length
      ·rw [List.getElem?_append_left EX] at hj
       have:=holds.2 j u hj
       rw [aE,Nat.zero_add] at this
       rw [← hW,World.cell?_setCells_out]
       ·exact this
       ·intro _ _;simp only [xA];left;rw [hol] at EX;exact EX
      ·rw [List.getElem?_append_right (by omega),hol] at hj
       obtain ⟨PY,rfl⟩:=List.getElem?_eq_some_iff.1 hj
       have:=World.cell?_setCells_in ri.b news (l.length *sz tn) w VW (j - l.length *sz tn) PY
       rw [show l.length *sz tn+(j - l.length *sz tn)=j by omega,hW] at this
       exact this)
   obtain ⟨hh,hv⟩:=P9
   refine yB (jW _ _ KV) ⟨_,((hr.turn hh hv).put (?_:VR W _ _ _ (.ow i)) JY).1,fun r' hn=>vA _ _ _ _ (by rintro rfl;exact hn ⟨Nat.le_refl _,by omega⟩),fun q qi hq=>by
    rw [vA];exact hq;rintro rfl;simp [hi] at hq⟩
   exact .ow i ⟨ri.b,l.length+m.length,cap,false⟩ (IA _ _ _) L0 (Nat.le_trans hcc c2) rfl
  ·refine grown (some (xA ri.b 0)) cap _ _ hx (by omega) holds.1 ?_ (killLess (some r)) JY
   exact run_firstCells_some w.drew info.size l.length (xA ri.b 0) l.length cap _ (by rw [holds.1.1,lX]) (by simpa using holds.2)
 unfold FM at aX
 split at aX
 ·rename_i nW
  cases aX
  have hx:=hr.opd x
  rw [nW] at hx
  have v7:a.eval x= .slice none 0 0:=by generalize a.eval x=v at hx;cases hx;rfl
  exact empty none st.h rfl v7 (fun q row' h1=>⟨row',h1,rfl,id⟩) hk
 ·rename_i r nW
  split at aX
  case h_2=>cases aX
  rename_i t' l1 LV
  split at aX
  case isFalse=>cases aX
  rename_i e1
  subst e1
  simp only [hI,Option.some.injEq,Prod.mk.injEq] at aX
  obtain ⟨rfl,rfl⟩:=aX
  obtain ⟨ri,hρ,dW⟩:=qG hr LV
  have dZ:ri.n=l1.length:=dW.1
  have hx:=hr.opd x
  rw [nW] at hx
  rcases hx.ow_inv hρ with ⟨h1,h2,h3,h4⟩ | ⟨ao,h1,h2,h3⟩
  ·exact full r l1 ri ri.cap LV hρ h2 (by simp) (by omega) (Nat.le_refl _) (by rw [← dZ];exact h1) hk
  ·exact empty ao _ (List.eq_nil_of_length_eq_zero (by omega)) h1 (killLess (some r)) hk
 ·rename_i r t0 len nW
  split at aX
  case h_2=>cases aX
  rename_i t' l1 LV
  split at aX
  case isFalse=>cases aX
  rename_i e1
  subst e1
  simp only [hI,Option.some.injEq,Prod.mk.injEq] at aX
  obtain ⟨rfl,rfl⟩:=aX
  obtain ⟨ri,hρ,dW⟩:=qG hr LV
  have dZ:ri.n=l1.length:=dW.1
  have hx:=hr.opd x
  rw [nW] at hx
  obtain ⟨ao,cap,h1,h2,h3,h4,h5⟩:=hx.ov_inv hρ
  have QV:(l1.take len).length=len:=by simp;omega
  rcases h3 with ⟨rfl,rfl⟩ | ⟨rfl,mW,hc⟩
  ·exact empty ao _ (by simp) h1 (killLess (some r)) hk
  ·rw [Nat.zero_mul] at h1
   exact full r l1 ri cap LV hρ mW (by rw [QV]) (by omega) (by omega) (by rw [QV];exact h1) hk
 ·cases aX
end
end Go.D
namespace Go.D
variable [fA]
section
variable {C:Cx} {w0:World} {outer own:Nat→Prop} {ρ:Nat→Option RI} {st st':St} {a:Act} {w:World} {h:Nat→Option nA}
omit [fA] in
theorem zpW (s:List UInt8) (p q:Nat):(⟨s.toArray⟩:ByteArray).extract p q=⟨((s.drop p).take (q - p)).toArray⟩:=by
 apply ByteArray.ext
 simp [ByteArray.data_extract]
omit [fA] in
theorem zcP {P:Program} (b:Bool) (len cap:Nat) (lo hi:Option Value) (p q:Nat) (L4:∀ v,lo=some v→∃ k,v= .int k (p:Int)) (UY:lo=none→p=0)
  (b4:∀ v,hi=some v→∃ k,v= .int k (q:Int)) (IY:hi=none→q=len) (eY:p≤q) (hqc:q≤cap):
  (Instr.sliceBounds b len cap lo hi none).run P w= .ok (p,q,cap) w:=by
 have e1:(q:Int)≤cap:=by omega
 have e2:(p:Int)≤q:=by omega
 cases lo with
 | none=>
  obtain rfl:=UY rfl
  cases hi with
  | none=>obtain rfl:=IY rfl;simp [Instr.sliceBounds]
  | some v=>obtain ⟨k,rfl⟩:=b4 v rfl;simp [Instr.sliceBounds,Instr.sliceBound,asIntOf,hqc]
 | some u=>
  obtain ⟨k,rfl⟩:=L4 u rfl
  cases hi with
  | none=>obtain rfl:=IY rfl;simp [Instr.sliceBounds,Instr.sliceBound,asIntOf,eY]
  | some v=>obtain ⟨k',rfl⟩:=b4 v rfl;simp [Instr.sliceBounds,Instr.sliceBound,asIntOf,hqc,eY]
theorem KS (hC:yD C) {t e:TypeId} {tn:TN} {ao:Option Addr} {len cap p q:Nat} {lo hi:Option Value} (hu:C.P.underlying t=some (.slice e)) (tX:yF C e tn=true)
  (L4:∀ v,lo=some v→∃ k,v= .int k (p:Int)) (UY:lo=none→p=0) (b4:∀ v,hi=some v→∃ k,v= .int k (q:Int)) (IY:hi=none→q=len) (eY:p≤q) (hqc:q≤cap):
  (Instr.sliceAt t (.slice ao len cap) lo hi none).run C.P w= .ok (.slice (if cap=p then ao else ao.map (·.add (p *sz tn))) (q - p) (cap - p)) w:=by
 simp [Instr.sliceAt,LD hu,Instr.slice,zcP (P:=C.P) (w:=w) true len cap lo hi p q L4 UY b4 IY eY hqc,QH (ZU hC tX)]
variable {o:Oper} {i:Nat} (hr:RA C w0 outer own ρ st a w)
include hr
theorem zrX (hC:yD C) (t:TypeId) (x:Operand) (lo hi mx:Option Operand) (ho:o.op= .slice t x lo hi mx) (hk:bB C i o st some=some st'):OB C.P o a w (KB C w0 outer own i ρ st'):=by
 simp only [bB,ho] at hk
 split at hk
 ·cases hk
 ·cases hk
 rename_i d hu
 unfold kJ at hk
 split at hk
 ·cases hk
 rename_i len QV
 split at hk
 case h_2=>cases hk
 rename_i pa pb F1 s5
 cases hb:(decide (0≤pa)&&decide (pa≤pb)&&decide (pb≤(len:Int)))
 case false=>simp [hb] at hk
 simp only [hb,cond_true] at hk
 simp only [Bool.and_eq_true,decide_eq_true_eq] at hb
 obtain ⟨⟨F5,B4⟩,hb3⟩:=hb
 obtain ⟨p,rfl⟩:=Int.eq_ofNat_of_zero_le F5
 obtain ⟨q,rfl⟩:=Int.eq_ofNat_of_zero_le (Int.le_trans F5 B4)
 have eY:p≤q:=by omega
 have TZ:q≤len:=by omega
 have e1:((q:Int) - (p:Int)).toNat=q - p:=by omega
 simp only [Int.toNat_natCast,e1] at hk
 have L4:∀ v,lo.map a.eval=some v→∃ k,v= .int k (p:Int):=fun v hv=>by
  obtain ⟨y,hy,rfl⟩:=Option.map_eq_some_iff.1 hv
  subst hy
  have:=hr.opd y
  simp only [Option.map_some,lK] at F1
  split at F1
  ·rename_i heq;cases heq
  ·rename_i k n heq;cases F1
   simp only [Option.some.injEq] at heq
   rw [heq] at this;exact ⟨k,this.int_inv.1⟩
  ·cases F1
 have UY:lo.map a.eval=none→p=0:=fun hv=>by
  have:lo=none:=by simpa using hv
  subst this
  simp [lK] at F1;omega
 have b4:∀ v,hi.map a.eval=some v→∃ k,v= .int k (q:Int):=fun v hv=>by
  obtain ⟨y,hy,rfl⟩:=Option.map_eq_some_iff.1 hv
  subst hy
  have:=hr.opd y
  simp only [Option.map_some,lK] at s5
  split at s5
  ·rename_i heq;cases heq
  ·rename_i k n heq;cases s5
   simp only [Option.some.injEq] at heq
   rw [heq] at this;exact ⟨k,this.int_inv.1⟩
  ·cases s5
 have IY:hi.map a.eval=none→q=len:=fun hv=>by
  have:hi=none:=by simpa using hv
  subst this
  simp [lK] at s5;omega
 have hx:=hr.opd x
 obtain ⟨W0,hl⟩:=zfi hr hx QV
 have jW:∀ v,(Instr.sliceAt t (a.eval x) (lo.map a.eval) (hi.map a.eval) none).run C.P w= .ok v w→(execOp a.eval o).run C.P w= .ok (.value v) w:=fun v h1=>by
  simp [execOp,ho,h1]
 split at hk
 ·rename_i e tn l nW
  rw [nW] at hx QV
  simp only [vI,Option.some.injEq] at QV
  cases tX:yF C e tn
  case false=>simp [tX] at hk
  simp only [tX,XB] at hk
  obtain ⟨ao,cap,h1,h2,h3,h4⟩:=hx.sl_inv2
  rw [QV] at h1 h2
  have KV:=KS (w:=w) hC hu tX L4 UY b4 IY eY (Nat.le_trans TZ h2) (ao:=ao)
  rw [← h1] at KV
  refine yB (jW _ KV) (hr.after ?_ hk)
  by_cases hpq0:q - p=0
  ·rw [hpq0,List.take_zero];exact .slE _ _ _ (by omega)
  ·rw [if_neg (by omega)]
   rcases h4 with rfl | ⟨b,off,rfl,GZ,rW,iW⟩
   ·simp at QV;omega
   ·replace GZ:((l.drop p).take (q - p))≠[]→b<fA.base∨DD w b tn:=fun _=>GZ
    simp only [Option.map_some,aE]
    have hll:((l.drop p).take (q - p)).length=q - p:=by simp;omega
    have:=VR.slC (w:=w) (ρ:=ρ) (bad:=mA outer ρ st.h) tn ((l.drop p).take (q - p)) b (off+p *sz tn) (cap - p)
     (fun i j=>(w.cell? (xA b (off+p *sz tn+i *sz tn+j))).getD undef) rW (by omega) (by omega) GZ
     (fun i hi j hj=>by
      obtain ⟨u,h5,h6⟩:=iW (p+i) (by omega) j hj
      rw [show off+p *sz tn+i *sz tn+j=off+(p+i) *sz tn+j by rw [Nat.add_mul];omega,h5];rfl)
     (fun i hi j hj=>by
      obtain ⟨u,h5,h6⟩:=iW (p+i) (by omega) j hj
      rw [show off+p *sz tn+i *sz tn+j=off+(p+i) *sz tn+j by rw [Nat.add_mul];omega,h5,Option.getD_some,
       zgX l p (q - p) i (by omega) hi]
      exact h6)
    rw [hll] at this;exact this
 ·rename_i s nW
  rw [nW] at hx QV
  simp only [vI,Option.some.injEq] at QV
  obtain ⟨h1,h2⟩:=hx.str_inv
  have QX:(⟨s.toArray⟩:ByteArray).size=s.length:=by simp [ByteArray.size]
  refine yB (jW (.string ⟨((s.drop p).take (q - p)).toArray⟩) ?_) (hr.after (.str _ (by simp;omega)) hk)
  rw [h1]
  have D4:=zcP (P:=C.P) (w:=w) false s.length s.length (lo.map a.eval) (hi.map a.eval) p q L4 UY b4 (by rw [QV];exact IY) eY (by omega)
  simp [Instr.sliceAt,LD hu,Instr.slice,QX,D4,zpW]
 ·rename_i e r nW
  rw [nW] at hx QV
  split at hk
  case h_2=>cases hk
  rename_i tn l m LV
  cases tX:yF C e tn
  case false=>simp [tX] at hk
  simp only [tX,XB] at hk
  simp only [vI,LV,Option.some.injEq] at QV
  obtain ⟨ri,hρ,dW⟩:=qG hr LV
  have dZ:ri.n=l.length:=dW.1
  rcases hx.ow_inv hρ with ⟨h1,h2,h3,h4⟩ | ⟨ao,h1,h2,h3⟩
  ·have KV:=KS (w:=w) hC hu tX L4 UY b4 (fun h=>by have:=IY h;omega) eY (show q≤ri.cap by omega) (ao:=some (xA ri.b 0)) (len:=ri.n)
   rw [← h1] at KV
   refine yB (jW _ KV) (hr.after (.ov r tn p (q - p) (ri.cap - p) _ ri hρ (by omega) ?_ (by omega) (by omega)) hk)
   by_cases hcp:ri.cap=p
   ·left;omega
   ·right;rw [if_neg hcp];refine ⟨?_,h2,by omega⟩
    simp [aE]
  ·have KV:=KS (w:=w) hC hu tX L4 UY b4 (fun h=>by have:=IY h;omega) eY (show q≤0 by omega) (ao:=ao) (len:=0)
   rw [← h1] at KV
   exact yB (jW _ KV) (hr.after (.ov r tn p (q - p) (0 - p) _ ri hρ (by omega) (.inl ⟨by omega,by omega⟩) (by omega) (by unfold maxLen;omega)) hk)
 ·rename_i e r tn off len' nW
  rw [nW] at hx QV
  cases tX:yF C e tn
  case false=>simp [tX] at hk
  simp only [tX,XB] at hk
  simp only [vI,Option.some.injEq] at QV
  obtain ⟨ri,hρ⟩:=hx.ov_row
  obtain ⟨ao,cap,h1,h2,h3,h4,h5⟩:=hx.ov_inv hρ
  have KV:=KS (w:=w) hC hu tX L4 UY b4 (fun h=>by have:=IY h;omega) eY (show q≤cap by omega) (ao:=ao) (len:=len')
  rw [← h1] at KV
  have g1:q - p≤cap - p:=Nat.sub_le_sub_right (Nat.le_trans TZ (by rw [← QV];exact h4)) p
  have g2:cap - p≤maxLen:=Nat.le_trans (Nat.sub_le _ _) h5
  have g3:off+p+(q - p)≤ri.n:=by
   rw [Nat.add_assoc,Nat.add_sub_cancel' eY];exact Nat.le_trans (Nat.add_le_add_left (by rw [QV];exact TZ) off) h2
  refine yB (jW _ KV) (hr.after (.ov r tn (off+p) (q - p) (cap - p) _ ri hρ g3 ?_ g1 g2) hk)
  rcases h3 with ⟨h6,h7⟩ | ⟨rfl,h6,h7⟩
  ·left;omega
  ·by_cases hcp:cap=p
   ·left;omega
   ·right;rw [if_neg hcp];refine ⟨?_,h6,by omega⟩
    simp [aE,Nat.add_mul]
 ·cases hk
end
end Go.D

/-
 One operation, continued: numbers, texts, parts of slices.
-/
import Derived.Test.YtfealdecpglcnaaGreatL2
import Derived.Deep.Upon
set_option linter.all false
namespace Go.D
variable [iA]
omit [iA]in
def zj4(k:IntKind)(n:Int)(m:Nat)(h:uE k n):uE k (n.fdiv (2^m)):=by
 have hp:(0:Int)<2^m:=Int.pow_pos (by decide);rw[Int.fdiv_eq_ediv_of_nonneg _ (Int.le_of_lt hp)];obtain⟨h1,h2⟩:=h;have R9:k.min≤0:=by cases k<;>decide
 have zZ:0≤k.max:=by cases k<;>decide
 by_cases hn:0≤n
 ·have a1:=Int.ediv_nonneg hn (Int.le_of_lt hp);have a2:=Int.ediv_le_self (2^m) hn;exact⟨by omega,by omega⟩
 ·have a1:n / 2^m<0:=Int.ediv_neg_of_neg_of_pos (by omega) hp
  have a2:n≤n / 2^m:=by
   rw[Int.le_ediv_iff_mul_le hp];have:1≤(2:Int)^m:=by omega
   have h3:=Int.mul_le_mul_of_nonpos_left (a:=n) (b:=2^m) (c:=1) (by omega) this;simpa using h3
  exact⟨by omega,by omega⟩
omit [iA]in
def ztu(k:IntKind)(n m:Int)(h:uE k n):uE k (n.tmod m):=by
 obtain⟨h1,h2⟩:=h;have R9:k.min≤0:=by cases k<;>decide
 have zZ:0≤k.max:=by cases k<;>decide
 have e1:=Int.natAbs_tmod n m;have e2:=Nat.mod_le n.natAbs m.natAbs
 by_cases hn:0≤n
 ·have a1:=Int.tmod_nonneg m hn;exact⟨by omega,by omega⟩
 ·have e:n.tmod m= -((-n).tmod m):=by rw[Int.neg_tmod,Int.neg_neg]
  have a1:=Int.tmod_nonneg (a:= -n) m (by omega);exact⟨by omega,by omega⟩
section
variable {C:Cx} {w0:World} {outer own:Nat→Prop} {ρ:Nat→Option RI} {st st':St} {a:Act} {w:World} {h:Nat→Option rA}
variable {o:Oper} {i:Nat} (hr:bB C w0 outer own ρ st a w)
def zvY{bad:Nat→Prop}{op:BinOp}{t:TypeId}{vx vy:Value}{dx dy d:V}(hx:VR w ρ bad vx dx)(hy:VR w ρ bad vy dy)
  (hd:zhn op dx dy=some d) (x y:Operand):∃v,VR w ρ bad v d∧((do eqGuard op t x y vx vy;binOp op t vx vy):Sem Value).run C.P w= .ok v w:=by
 unfold zhn at hd;split at hd
 ·rename_i k p k' q
  have Y2:∀{α:Type} {y z:α},(bif decide (k=k')then some y else none)=some z→k=k'∧y=z:=λh=>by
   grind
  have aW:uE k p:=by cases hx;assumption
  have d4:vx= .int k p:=by cases hx;rfl
  have eZ:vy= .int k' q:=by cases hy;rfl
  subst d4 eZ
  cases op<;>simp only at hd<;>first
   | (obtain⟨rfl,rfl⟩:=Y2 hd;refine⟨_, .int _ _ (mS _ _),?_⟩;simp[eqGuard,binOp,Op.intArith,Op.intBits];done)
   | (obtain⟨rfl,rfl⟩:=Y2 hd;refine⟨_, .bool _,?_⟩;simp[eqGuard,binOp,Op.intCmp];done)
   | (split at hd
      ·cases hd
      ·cases hd;rename_i hq;refine⟨_, .int _ _ (by first|exact mS _ _|exact zj4 _ _ _ aW),?_⟩;simp[eqGuard,binOp,Op.shift,hq];done)
   | (cases hd;done)
 ·rename_i p q;have d4:vx= .string ⟨p.toArray⟩:=by cases hx;rfl
  have eZ:vy= .string ⟨q.toArray⟩:=by cases hy;rfl
  subst d4 eZ
  cases op<;>first
   | (cases hd;done)
   | (cases hd;refine⟨_, .bool _,?_⟩;simp[eqGuard,binOp,Op.stringOp];done)
 ·cases hd
def zwm{bad:Nat→Prop}{op:BinOp}{t:TypeId}{vx vy:Value}{dx dy:V}{R:Type}{K:V→Option R}{r:R}(hx:VR w ρ bad vx dx)(hy:VR w ρ bad vy dy)
  (hk:rN op dx dy K=some r) (x y:Operand):
  ∃d v,K d=some r∧VR w ρ bad v d∧((do eqGuard op t x y vx vy;binOp op t vx vy):Sem Value).run C.P w= .ok v w:=by
 unfold rN at hk;split at hk
 ·-- quo
  rename_i k p k' q
  by_cases AZ:k=k'
  case neg=>simp[AZ]at hk
  subst AZ;cases hq:(q==0)
  case true=>simp[hq]at hk
  simp only[decide_true,cond_true,hq,cond_false]at hk;cases hx;cases hy;refine⟨_, .int k (k.wrap (p.tdiv q)),hk, .int _ _ (mS _ _),?_⟩;have:q≠0:=by simpa using hq
  simp[eqGuard,binOp,Op.intDiv,this]
 ·rename_i k p k' q
  by_cases AZ:k=k'
  case neg=>simp[AZ]at hk
  subst AZ;cases hq:(q==0)
  case true=>simp[hq]at hk
  simp only[decide_true,cond_true,hq,cond_false]at hk;cases hx;cases hy;refine⟨_, .int k (p.tmod q),hk, .int _ _ (ztu _ _ _ (by assumption)),?_⟩;have:q≠0:=by simpa using hq
  simp[eqGuard,binOp,Op.intDiv,this]
 ·rename_i k p k' q
  by_cases hq:q<0
  case pos=>simp[hq]at hk
  simp only[hq,decide_false,cond_false]at hk;cases hx;cases hy;refine⟨_,_,hk, .int _ _ (mS _ _),?_⟩;simp[eqGuard,binOp,Op.shift,hq]
 ·rename_i k p k' q
  by_cases hq:q<0
  case pos=>simp[hq]at hk
  simp only[hq,decide_false,cond_false]at hk;cases hx;cases hy;refine⟨_,_,hk, .int _ _ (zj4 _ _ _ (by assumption)),?_⟩;simp[eqGuard,binOp,Op.shift,hq]
 ·rename_i p q
  by_cases hq:p.length+q.length≤bA
  case neg=>simp[hq]at hk
  simp only[hq,decide_true,cond_true]at hk;cases hx;cases hy;have hl:bA≤1000000000000:=by unfold bA;decide
  refine⟨_, .string ⟨(p++q).toArray⟩,hk, .str _ (by simp[maxLen];omega),?_⟩
  have h1:¬(IntKind.i64.max<((p.length+q.length:Nat):Int)):=by
   simp only[IntKind.max,IntKind.signed,IntKind.bits];simp;omega
  have h2:(p.length:Int)+q.length≤IntKind.i64.max:=by
   grind
  have oX:(⟨p.toArray⟩:ByteArray).size=p.length:=by simp[ByteArray.size]
  have Y1:(⟨q.toArray⟩:ByteArray).size=q.length:=by simp[ByteArray.size]
  simp[eqGuard,binOp,Op.stringOp,ByteArray.mk_append_mk,oX,Y1]
  grind
 ·split at hk
  case h_2=>cases hk
  rename_i d hd;obtain⟨v,h1,h2⟩:=zvY (w:=w) hx hy hd (t:=t) x y;exact⟨d,v,hk,h1,h2⟩
end
end Go.D
namespace Go.D
variable [iA]
section
variable {C:Cx} {w0:World} {outer own:Nat→Prop} {ρ:Nat→Option RI} {st st':St} {a:Act} {w:World} {h:Nat→Option rA}
omit [iA]in
def zk4(n:Nat){P:Program}{t:TypeId}{k:IntKind}(hu:P.underlying t=some (.int k))(j:IntKind)(x y:Int):(Op.equalIn (n+1) t (.int j x) (.int j y)).run P w= .ok (x==y) w:=by
 rw[Op.equalIn];simp[yF hu]
omit [iA]in
def zki(n:Nat){P:Program}{t:TypeId}(hu:P.underlying t=some .bool)(x y:Bool):(Op.equalIn (n+1) t (.bool x) (.bool y)).run P w= .ok (x==y) w:=by
 rw[Op.equalIn];simp[yF hu]
omit [iA]in
def DO{P:Program}{t:TypeId}(h1:bF P t=some false){vs:Array Value}{k:Nat}(hk:k<vs.size):(part t vs k).run P w= .ok (vs.getD k undef) w:=by
 rw[Array.getD_eq_getD_getElem?,Array.getElem?_eq_getElem hk];simp[part,dS h1,Array.getElem?_eq_getElem hk]
def AK(n:Nat)(xs ys:Array Value)(f:Field)(_:Option Bool×Unit):Sem (ForInStep (Option Bool×Unit)):=
 if f.name ≠ "_" then do
  let __do_lift ←part f.type xs f.offset;let __do_lift_1 ←part f.type ys f.offset;let __do_lift ←Op.equalIn n f.type __do_lift __do_lift_1
  if(!__do_lift)=true then pure (ForInStep.done (some false,()))
   else pure (ForInStep.yield (none,()))
 else pure (ForInStep.yield (none,()))
def zlD(n:Nat){P:Program}{bad:Nat→Prop}(xs ys:Array Value):∀(fl:List Field) (ks:List Bool) (k:Nat) (dxs dys:List V) (b:Bool),iK P k fl=some ks→qE ks dxs dys=some b→
  k+fl.length≤xs.size→k+fl.length≤ys.size→(∀j (hj:j<dxs.length),VR w ρ bad (xs.getD (k+j) undef) dxs[j])→(∀j (hj:j<dys.length),VR w ρ bad (ys.getD (k+j) undef) dys[j])→
  (forIn fl ((none,()):Option Bool×Unit) (AK (n+1) xs ys)).run P w= .ok (bif b then(none,())else(some false,())) w
 | [],ks,k,dxs,dys,b,hf,he,_,_,_,_=>by
  simp only[iK,Option.some.injEq]at hf;subst hf;cases dxs<;>cases dys<;>simp[qE]at he
  subst he;simp
 | f :: fl,ks,k,dxs,dys,b,hf,he,hx,hy,MZ,NZ=>by
  simp only[iK]at hf
  cases hb : (f.name != "_" && Nat.beq f.offset k)
  case false=>simp[hb]at hf
  simp only[hb,cond_true]at hf;simp only[Bool.and_eq_true,bne_iff_ne,ne_eq]at hb;obtain⟨xW,cY⟩:=hb;have cY:=Nat.eq_of_beq_eq_true cY;simp only[List.length_cons]at hx hy
  have main:∀(dx dy:V) (dxs' dys':List V) (ks':List Bool) (q b':Bool),dxs=dx :: dxs'→dys=dy :: dys'→iK P (k+1) fl=some ks'→bF P f.type=some false→
    (Op.equalIn (n+1) f.type (xs.getD k undef) (ys.getD k undef)).run P w= .ok q w→qE ks' dxs' dys'=some b'→b=(bif q then b' else false)→
    (forIn (f :: fl) ((none,()):Option Bool×Unit) (AK (n+1) xs ys)).run P w= .ok (bif b then(none,())else(some false,())) w:=λdx dy dxs' dys' ks' q b' hdx hdy HV iW h1 h2 h3=>by
   subst hdx hdy;have S9:=DO (P:=P) (w:=w) iW (show k<xs.size by omega);have T9:=DO (P:=P) (w:=w) iW (show k<ys.size by omega)
   have ih:=zlD n xs ys fl ks' (k+1) dxs' dys' b' HV h2 (by omega) (by omega)
    (λj hj=>by have:=MZ (j+1) (by simp;omega);rwa [show k+(j+1)=k+1+j by omega]at this)
    (λj hj=>by have:=NZ (j+1) (by simp;omega);rwa [show k+(j+1)=k+1+j by omega]at this)
   rw[List.forIn_cons,Sem.run_bind]
   have hb:(AK (n+1) xs ys f (none,())).run P w= .ok (bif q then ForInStep.yield (none,())else ForInStep.done (some false,())) w:=by
    unfold AK;rw[if_pos xW,cY];simp only[Sem.run_bind,S9,T9,Result.andThen_ok,h1];cases q<;>simp
   rw[hb,Result.andThen_ok];subst h3;cases q with
   | false=>simp
   | true=>simpa using ih
  split at hf
  ·rename_i ks' hu HV;cases hf;unfold qE at he;split at he
   ·simp_all
   ·simp_all
   ·rename_i ks'' p xs' q ys' h1;cases h1;obtain⟨b',h3,h4⟩:=Option.map_eq_some_iff.1 he;have PX:=MZ 0 (by simp);have nY:=NZ 0 (by simp);simp only[Nat.add_zero,List.getElem_cons_zero]at PX nY;have e1:xs.getD k undef= .bool p:=by generalize xs.getD k undef=v at PX;cases PX;rfl
    have e2:ys.getD k undef= .bool q:=by generalize ys.getD k undef=v at nY;cases nY;rfl
    exact main _ _ _ _ _ (p==q) b' rfl rfl HV (by simp[bF,hu]) (by rw[e1,e2];exact zki n hu p q) h3 h4.symm
   ·cases he
  ·rename_i ki ks' hu HV;cases hf;unfold qE at he;split at he
   ·simp_all
   ·rename_i ks'' j p xs' k' q ys' h1;cases h1
    by_cases KY:j=k'
    case neg=>simp[KY]at he
    subst KY;simp only[decide_true,cond_true,Option.map_eq_some_iff]at he;obtain⟨b',h3,h4⟩:=he;have PX:=MZ 0 (by simp);have nY:=NZ 0 (by simp);simp only[Nat.add_zero,List.getElem_cons_zero]at PX nY;have e1:xs.getD k undef= .int j p:=by generalize xs.getD k undef=v at PX;cases PX;rfl
    have e2:ys.getD k undef= .int j q:=by generalize ys.getD k undef=v at nY;cases nY;rfl
    exact main _ _ _ _ _ (p==q) b' rfl rfl HV (by simp[bF,hu]) (by rw[e1,e2];exact zk4 n hu j p q) h3 h4.symm
   ·rename_i h1;cases h1
   ·cases he
  ·cases hf
omit [iA]in
def zeF{P:Program}:∀(fl:List Field) (k:Nat) (ks:List Bool),iK P k fl=some ks→ks.length=fl.length
 | [],_,_,h=>by simp[iK]at h;subst h;rfl
 | f :: fl,k,ks,h=>by
  simp only[iK]at h
  cases hb : (f.name != "_" && Nat.beq f.offset k)
  case false=>simp[hb]at h
  simp only[hb,cond_true]at h;split at h
  ·rename_i ks' _ h1;cases h;simp[zeF fl _ _ h1]
  ·rename_i ks' _ h1;cases h;simp[zeF fl _ _ h1]
  ·cases h
omit [iA]in
def zbp:∀(ks:List Bool) (xs ys:List V) (b:Bool),qE ks xs ys=some b→xs.length=ks.length∧ys.length=ks.length
 | [],xs,ys,b,h=>by cases xs<;>cases ys<;>simp[qE]at h;exact⟨rfl,rfl⟩
 | k :: ks,xs,ys,b,h=>by
  unfold qE at h;split at h
  ·rename_i h1;cases h1
  ·rename_i ks' j p xs' k' q ys' h1;cases h1;cases KY:decide (j=k')
   ·simp[KY]at h
   ·simp only[KY,cond_true,Option.map_eq_some_iff]at h;obtain⟨b',h2,_⟩:=h;have:=zbp _ _ _ _ h2;simp[this]
  ·rename_i ks' p xs' q ys' h1;cases h1;obtain⟨b',h2,_⟩:=Option.map_eq_some_iff.1 h;have:=zbp _ _ _ _ h2;simp[this]
  ·cases h
omit [iA]in
def zeM:∀(k1 ks:List Bool) (xs ys:List V) (b:Bool),qE (k1++ks) xs ys=some b→
  ∃b1 b2,qE k1 (xs.take k1.length) (ys.take k1.length)=some b1∧qE ks (xs.drop k1.length) (ys.drop k1.length)=some b2∧b=(bif b1 then b2 else false)
 | [],ks,xs,ys,b,h=>⟨true,b,by simp[qE],by simpa using h,rfl⟩
 | k :: k1,ks,xs,ys,b,h=>by
  rw[List.cons_append]at h;unfold qE at h;split at h
  ·rename_i h1;cases h1
  ·rename_i ks' j p xs' k' q ys' h1;cases h1;cases KY:decide (j=k')
   ·simp[KY]at h
   ·simp only[KY,cond_true,Option.map_eq_some_iff]at h;obtain⟨b',h2,h3⟩:=h;obtain⟨b1,b2,e1,e2,e3⟩:=zeM _ _ _ _ _ h2;refine⟨bif p==q then b1 else false,b2,?_,by simpa using e2,?_⟩
    ·simp only[List.length_cons,List.take_succ_cons,qE,KY,cond_true,e1,Option.map_some]
    ·rw[←h3,e3];cases(p==q)<;>cases b1<;>rfl
  ·rename_i ks' p xs' q ys' h1;cases h1;obtain⟨b',h2,h3⟩:=Option.map_eq_some_iff.1 h;obtain⟨b1,b2,e1,e2,e3⟩:=zeM _ _ _ _ _ h2;refine⟨bif p==q then b1 else false,b2,?_,by simpa using e2,?_⟩
   ·simp only[List.length_cons,List.take_succ_cons,qE,e1,Option.map_some]
   ·rw[←h3,e3];cases(p==q)<;>cases b1<;>rfl
  ·cases h
omit [iA]in
def zkE{P:Program}{t:TypeId}(h1:bF P t=some true){n:Nat}(h2:sF P t=some n){vs:Array Value}{k:Nat}(hk:k+n≤vs.size):
  (part t vs k).run P w= .ok (.agg (vs.extract k (k+n))) w:=by
 have:¬vs.size<k+n:=by omega
 simp[part,dS h1,CL h2]
def zsI(n:Nat){P:Program}{bad:Nat→Prop}{t:TypeId}{gs:Array Field}(hu:P.underlying t=some (.struct gs))(mY:P.stoodInHeld t=false)(xs ys:Array Value)(ks:List Bool)(dxs dys:List V)(b:Bool)
  (hf:iK P 0 gs.toList=some ks) (he:qE ks dxs dys=some b) (hx:dxs.length=xs.size) (hy:dys.length=ys.size)
  (MZ:∀j (hj:j<dxs.length),VR w ρ bad (xs.getD j undef) dxs[j]) (NZ:∀j (hj:j<dys.length),VR w ρ bad (ys.getD j undef) dys[j]):
  (Op.equalIn (n+2) t (.agg xs) (.agg ys)).run P w= .ok b w:=by
 have DV:=zeF _ _ _ hf;obtain⟨l1,l2⟩:=zbp _ _ _ _ he;have m0:=zlD n (P:=P) (w:=w) xs ys gs.toList ks 0 dxs dys b hf he (by omega) (by omega) (by simpa using MZ) (by simpa using NZ);rw[Op.equalIn];simp only[Sem.run_bind,yF hu,Result.andThen_ok,run_program,mY,Bool.false_eq_true,if_false];rw[←Array.forIn_toList];change ((forIn gs.toList ((none,()):Option Bool×Unit) (AK (n+1) xs ys)).run P w).andThen _=_;rw[m0,Result.andThen_ok];cases b<;>simp
def zkw(n:Nat){P:Program}{bad:Nat→Prop}(xs ys:Array Value):∀(fl:List Field) (ks:List Bool) (k:Nat) (dxs dys:List V) (b:Bool),qM P k fl=some ks→qE ks dxs dys=some b→
  k+dxs.length≤xs.size→k+dys.length≤ys.size→(∀j (hj:j<dxs.length),VR w ρ bad (xs.getD (k+j) undef) dxs[j])→(∀j (hj:j<dys.length),VR w ρ bad (ys.getD (k+j) undef) dys[j])→
  (forIn fl ((none,()):Option Bool×Unit) (AK (n+2) xs ys)).run P w= .ok (bif b then(none,())else(some false,())) w
 | [],ks,k,dxs,dys,b,hf,he,_,_,_,_=>by
  simp only[qM,Option.some.injEq]at hf;subst hf;cases dxs<;>cases dys<;>simp[qE]at he
  subst he;simp
 | f :: fl,ks,k,dxs,dys,b,hf,he,hx,hy,MZ,NZ=>by
  simp only[qM]at hf
  cases hb : (f.name != "_" && Nat.beq f.offset k)
  case false=>simp[hb]at hf
  simp only[hb,cond_true]at hf;simp only[Bool.and_eq_true,bne_iff_ne,ne_eq]at hb;obtain⟨xW,cY⟩:=hb;have cY:=Nat.eq_of_beq_eq_true cY
  have main:∀(m:Nat) (ks':List Bool) (q b':Bool) (px py:Value),qM P (k+m) fl=some ks'→m≤dxs.length→m≤dys.length→
    (part f.type xs k).run P w= .ok px w→(part f.type ys k).run P w= .ok py w→
    (Op.equalIn (n+2) f.type px py).run P w= .ok q w→qE ks' (dxs.drop m) (dys.drop m)=some b'→b=(bif q then b' else false)→
    (forIn (f :: fl) ((none,()):Option Bool×Unit) (AK (n+2) xs ys)).run P w= .ok (bif b then(none,())else(some false,())) w:=λm ks' q b' px py HV hm1 n4 S9 T9 h1 h2 h3=>by
   have ih:=zkw n xs ys fl ks' (k+m) (dxs.drop m) (dys.drop m) b' HV h2 (by simp;omega) (by simp;omega)
    (λj hj=>by have:=MZ (m+j) (by simp at hj;omega);rw[List.getElem_drop];rwa [show k+(m+j)=k+m+j by omega]at this)
    (λj hj=>by have:=NZ (m+j) (by simp at hj;omega);rw[List.getElem_drop];rwa [show k+(m+j)=k+m+j by omega]at this)
   rw[List.forIn_cons,Sem.run_bind]
   have hb:(AK (n+2) xs ys f (none,())).run P w= .ok (bif q then ForInStep.yield (none,())else ForInStep.done (some false,())) w:=by
    unfold AK;rw[if_pos xW,cY];simp only[Sem.run_bind,S9,T9,Result.andThen_ok,h1];cases q<;>simp
   rw[hb,Result.andThen_ok];subst h3;cases q with
   | false=>simp
   | true=>simpa using ih
  split at hf
  ·rename_i hu;split at hf
   case h_2=>cases hf
   rename_i ks' HV;cases hf;unfold qE at he;split at he
   ·simp_all
   ·simp_all
   ·rename_i ks'' p xs' q ys' h1;cases h1;obtain⟨b',h3,h4⟩:=Option.map_eq_some_iff.1 he;have PX:=MZ 0 (by simp);have nY:=NZ 0 (by simp);simp only[Nat.add_zero,List.getElem_cons_zero]at PX nY;have e1:xs.getD k undef= .bool p:=by generalize xs.getD k undef=v at PX;cases PX;rfl
    have e2:ys.getD k undef= .bool q:=by generalize ys.getD k undef=v at nY;cases nY;rfl
    have iW:bF P f.type=some false:=by simp[bF,hu]
    simp only[List.length_cons]at hx hy;exact main 1 ks' (p==q) b' _ _ HV (by simp) (by simp) (DO iW (show k<xs.size by omega)) (DO iW (show k<ys.size by omega)) (by rw[e1,e2];exact zki (n+1) hu p q) (by simpa using h3) h4.symm
   ·cases he
  ·rename_i ki hu;split at hf
   case h_2=>cases hf
   rename_i ks' HV;cases hf;unfold qE at he;split at he
   ·simp_all
   ·rename_i ks'' j p xs' k' q ys' h1;cases h1
    by_cases KY:j=k'
    case neg=>simp[KY]at he
    subst KY;simp only[decide_true,cond_true,Option.map_eq_some_iff]at he;obtain⟨b',h3,h4⟩:=he;have PX:=MZ 0 (by simp);have nY:=NZ 0 (by simp);simp only[Nat.add_zero,List.getElem_cons_zero]at PX nY;have e1:xs.getD k undef= .int j p:=by generalize xs.getD k undef=v at PX;cases PX;rfl
    have e2:ys.getD k undef= .int j q:=by generalize ys.getD k undef=v at nY;cases nY;rfl
    have iW:bF P f.type=some false:=by simp[bF,hu]
    simp only[List.length_cons]at hx hy;exact main 1 ks' (p==q) b' _ _ HV (by simp) (by simp) (DO iW (show k<xs.size by omega)) (DO iW (show k<ys.size by omega)) (by rw[e1,e2];exact zk4 (n+1) hu j p q) (by simpa using h3) h4.symm
   ·rename_i h1;cases h1
   ·cases he
  ·rename_i gs hu;split at hf
   case h_2=>cases hf
   rename_i k1 fZ;cases hg:(!(P.stoodInHeld f.type)&&decide (sF P f.type=some k1.length))
   case false=>simp[hg]at hf
   simp only[hg,cond_true]at hf;simp only[Bool.and_eq_true,Bool.not_eq_true',decide_eq_true_eq]at hg;split at hf
   case h_2=>cases hf
   rename_i ks' HV;cases hf;obtain⟨b1,b2,e1,e2,e3⟩:=zeM _ _ _ _ _ he;obtain⟨l1,l2⟩:=zbp _ _ _ _ he;simp only[List.length_append]at l1 l2;have iW:bF P f.type=some true:=by simp[bF,hu]
   refine main k1.length ks' b1 b2 _ _ HV (by omega) (by omega) (zkE iW hg.2 (by omega)) (zkE iW hg.2 (by omega)) ?_ e2 e3;refine zsI n (ρ:=ρ) (bad:=bad) hu hg.1 _ _ k1 _ _ b1 fZ e1 (by simp;omega) (by simp;omega) (λj hj=>?_) (λj hj=>?_)
   ·have:=MZ j (by simp at hj;omega);rw[List.getElem_take];rw[Array.getD_eq_getD_getElem?]at this⊢;have hq:k+j<xs.size:=by simp at hj;omega
    rw[Array.getElem?_extract_of_lt (by simp at hj;omega)];simpa[Array.getElem?_eq_getElem hq]using this
   ·have:=NZ j (by simp at hj;omega);rw[List.getElem_take];rw[Array.getD_eq_getD_getElem?]at this⊢;have hq:k+j<ys.size:=by simp at hj;omega
    rw[Array.getElem?_extract_of_lt (by simp at hj;omega)];simpa[Array.getElem?_eq_getElem hq]using this
  ·cases hf
variable {o:Oper} {i:Nat} (hr:bB C w0 outer own ρ st a w)
include hr
def zuV(op:BinOp)(t t':TypeId)(x y:Operand)(ho:o.op= .binOp op t x y t')(hk:oB C i o st some=some st'):EC C.P o a w (yC C w0 outer own i ρ st'):=by
 simp only[oB,ho]at hk;have hx:=hr.opd x;have hy:=hr.opd y;split at hk
 ·rename_i dxs dys h1 h2;rw[h1]at hx;rw[h2]at hy;split at hk
  case h_2=>cases hk
  rename_i ks YX;split at hk
  case h_2=>cases hk
  rename_i b hb;unfold zjz at YX;split at YX
  case h_2=>cases YX
  rename_i fs hu;cases hg:(!(C.P.stoodInHeld t)&&!(C.P.eqGuardType C.P.depth t))
  case false=>simp[hg]at YX
  simp only[hg,cond_true]at YX;simp only[Bool.and_eq_true,Bool.not_eq_true']at hg;cases aW:a.eval x<;>rw[aW]at hx<;>cases hx
  cases Z2:a.eval y<;>rw[Z2]at hy<;>cases hy
  rename_i xs G5 d4 ys R8 eZ;have m0:=zkw 9997 (P:=C.P) (w:=w) xs ys fs.toList ks 0 dxs dys b YX hb (by omega) (by omega) (by simpa using d4) (by simpa using eZ)
  have heq:(Op.equal t (.agg xs) (.agg ys)).run C.P w= .ok b w:=by
   unfold Op.equal Op.maxDepth;rw[Op.equalIn];simp only[Sem.run_bind,yF hu,Result.andThen_ok,run_program,hg.1,Bool.false_eq_true,if_false];rw[←Array.forIn_toList];change ((forIn fs.toList ((none,()):Option Bool×Unit) (AK 9999 xs ys)).run C.P w).andThen _=_;rw[m0,Result.andThen_ok];cases b<;>simp
  have o4:∀op',(eqGuard op' t x y (.agg xs) (.agg ys)).run C.P w= .ok () w:=λop'=>by
   unfold eqGuard;split<;>simp[hg.2]
  cases op<;>first
   | (cases hk;done)
   | (refine kC (w':=w) ?_ (hr.after (.bool _) hk)
      simp[execOp,ho,aW,Z2,o4,binOp,heq];done)
 ·rename_i p q h1 h2;rw[h1]at hx;rw[h2]at hy;split at hk
  case h_2=>cases hk
  rename_i hu;cases aW:a.eval x<;>rw[aW]at hx<;>cases hx
  cases Z2:a.eval y<;>rw[Z2]at hy<;>cases hy
  have heq:(Op.equal t (.bool p) (.bool q)).run C.P w= .ok (p==q) w:=by
   unfold Op.equal Op.maxDepth;rw[Op.equalIn];simp[yF hu]
  cases op<;>first
   | (cases hk;done)
   | (refine kC (w':=w) ?_ (hr.after (.bool _) hk)
      simp[execOp,ho,aW,Z2,eqGuard,binOp,heq];done)
 ·rename_i b h1 h2;rw[h1]at hx;rw[h2]at hy;split at hk
  case h_2=>cases hk
  rename_i hu
  have heq:(Op.equal t (a.eval x) .nilIface).run C.P w= .ok b w:=by
   unfold Op.equal Op.maxDepth;cases aW:a.eval x<;>rw[aW]at hx<;>cases hx<;>rw[Op.equalIn]<;>simp[yF hu]
  cases Z2:a.eval (.const _)<;>rw[Z2]at hy<;>cases hy
  cases aW:a.eval x<;>rw[aW]at hx heq<;>cases hx<;>cases op<;>first
   | (cases hk;done)
   | (refine kC (w':=w) ?_ (hr.after (.bool _) hk)
      simp[execOp,ho,aW,Z2,eqGuard,binOp,heq];done)
 ·obtain⟨d,v,h3,h4,h5⟩:=zwm (C:=C) hx hy hk (t:=t) x y;refine kC (v:=v) (w':=w) ?_ (hr.after h4 h3)
  have U9:((eqGuard op t x y (a.eval x) (a.eval y)).run C.P w).andThen (λ_ w'=>(binOp op t (a.eval x) (a.eval y)).run C.P w')= .ok v w:=by
   rw[←Sem.run_bind];exact h5
  simp only[execOp,ho,Sem.run_bind,Sem.run_pure];rw[U9];rfl
end
end Go.D
namespace Go.D
variable [iA]
section
variable {C:Cx} {w0:World} {outer own:Nat→Prop} {ρ:Nat→Option RI} {st st':St} {a:Act} {w:World} {h:Nat→Option rA}
def VR.ow_inv{bad:Nat→Prop}{v:Value}{r:Nat}{ri:RI}(h:VR w ρ bad v (.ow r))(hρ:ρ r=some ri):
  (v= .slice (some (at_ ri.b 0)) ri.n ri.cap∧ri.nl=false∧ri.n≤ri.cap∧ri.cap≤maxLen)∨(∃ao,v= .slice ao 0 0∧ri.nl=true∧ri.n=0):=by
 cases h with
 | ow _ ri' h1 h2 h3 h4=>rw[hρ]at h1;cases h1;exact .inl ⟨rfl,h4,h2,h3⟩
 | owN _ ri' ao h1 h2 h3=>rw[hρ]at h1;cases h1;exact .inr ⟨ao,rfl,h3,h2⟩
def VR.ov_inv{bad:Nat→Prop}{v:Value}{r off len:Nat}{t:TN}{ri:RI}(h:VR w ρ bad v (.ov r t off len))(hρ:ρ r=some ri):
  ∃ao cap,v= .slice ao len cap∧off+len≤ri.n∧(len=0∧cap=0∨ao=some (at_ ri.b (off *sz t))∧ri.nl=false∧off+cap≤ri.cap)∧len≤cap∧cap≤maxLen:=by
 cases h with
 | ov _ _ _ _ cap ao ri' h1 h2 h3 h4 h5=>rw[hρ]at h1;cases h1;exact⟨ao,cap,rfl,h2,h3,h4,h5⟩
def VR.ov_row{bad:Nat→Prop}{v:Value}{r off len:Nat}{t:TN}(h:VR w ρ bad v (.ov r t off len)):∃ri,ρ r=some ri:=by
 cases h with
 | ov _ _ _ _ cap ao ri' h1 h2 h3 h4 h5=>exact⟨_,h1⟩
def VR.bp_inv{bad:Nat→Prop}{v:Value}{r off:Nat}(h:VR w ρ bad v (.bp r off)):∃ri,ρ r=some ri∧v= .pointer (some (at_ ri.b off))∧ri.nl=false:=by
 cases h with
 | bp _ _ ri h1 h2=>exact⟨ri,h1,rfl,h2⟩
def VR.sl_inv{bad:Nat→Prop}{v:Value}{t:TN}{l:List (El t)}(h:VR w ρ bad v (.sl t l)):
  ∃ao cap,v= .slice ao l.length cap∧l.length≤cap∧cap≤maxLen∧(l=[]∨∃b off,ao=some (at_ b off)∧¬bad b∧
   ∀i (hi:i<l.length) j,j<sz t→∃u,w.cell? (at_ b (off+i *sz t+j))=some u∧VR w ρ bad u ((enc t l[i]).getD j .undef)):=by
 cases h with
 | slE _ ao cap h=>exact⟨ao,cap,rfl,Nat.zero_le _,h, .inl rfl⟩
 | slC _ _ b off cap u hb hl hc he hu hv=>exact⟨_,cap,rfl,hl,hc, .inr ⟨b,off,rfl,hb,λi hi j hj=>⟨_,hu i hi j hj,hv i hi j hj⟩⟩⟩
def VR.sl_inv2{bad:Nat→Prop}{v:Value}{t:TN}{l:List (El t)}(h:VR w ρ bad v (.sl t l)):
  ∃ao cap,v= .slice ao l.length cap∧l.length≤cap∧cap≤maxLen∧(l=[]∨∃b off,ao=some (at_ b off)∧(b<iA.base∨LF w b t)∧¬bad b∧
   ∀i (hi:i<l.length) j,j<sz t→∃u,w.cell? (at_ b (off+i *sz t+j))=some u∧VR w ρ bad u ((enc t l[i]).getD j .undef)):=by
 cases h with
 | slE _ ao cap h=>exact⟨ao,cap,rfl,Nat.zero_le _,h, .inl rfl⟩
 | slC _ _ b off cap u hb hl hc he hu hv=>
  grind
def VR.int_inv{bad:Nat→Prop}{v:Value}{k:IntKind}{n:Int}(h:VR w ρ bad v (.int k n)):v= .int k n∧uE k n:=by
 cases h with
 | int _ _ h=>exact⟨rfl,h⟩
def VR.str_inv{bad:Nat→Prop}{v:Value}{s:List UInt8}(h:VR w ρ bad v (.str s)):v= .string ⟨s.toArray⟩∧s.length≤maxLen:=by
 cases h with
 | str _ h=>exact⟨rfl,h⟩
def zc0{e:TypeId}{t:TN}(hC:TF C)(h:YH C e t=true):sF C.P e=some (sz t):=by
 unfold YH at h;split at h
 ·rename_i t' h1;have:t'=t:=by simpa using h
  subst this;obtain⟨i,z,h2,h3,_⟩:=hC.ok e t' h1;simp[sF,h2,h3]
 ·cases h
omit [iA]in
def zjR{α:Type}{l:List α}{n:Int}{x:α}(h:jA l n=some x):0≤n∧∃hk:n.toNat<l.length,l[n.toNat]=x:=by
 unfold jA at h
 grind
omit [iA]in
def zfw{t e:TypeId}{s:Nat}{b off len cap:Nat}{k:IntKind}{n:Int}(hu:C.P.underlying t=some (.slice e))(hs:sF C.P e=some s)(h0:0≤n)(h1:n<(len:Int)):
  (Instr.indexAt t (.slice (some (at_ b off)) len cap) (.int k n)).run C.P w= .ok (.pointer (some (at_ b (off+n.toNat *s)))) w:=by
 simp[Instr.indexAt,asIntOf,yF hu,h0,h1,CL hs,BG]
omit [iA]in
def zf1{R:Type}{f:Nat→Option R}{i:Int}{r:R}:∀(n k:Nat),tJ f i k n=some r→∃j,i=((k+j:Nat):Int)∧j<n∧f (k+j)=some r
 | 0,k,h=>by simp[tJ]at h
 | n+1,k,h=>by
  simp only[tJ]at h;cases hb:(i==(k:Int))
  ·simp only[hb,cond_false]at h;obtain⟨j,h1,h2,h3⟩:=zf1 n (k+1) h;exact⟨j+1,by rw[h1];congr 1;omega,by omega,by rw[show k+(j+1)=k+1+j by omega];exact h3⟩
  ·simp only[hb,cond_true]at h;exact⟨0,by simpa using hb,by omega,by simpa using h⟩
variable {o:Oper} {i:Nat} (hr:bB C w0 outer own ρ st a w)
include hr
def zqR(hC:TF C)(t:TypeId)(x y:Operand)(ho:o.op= .indexAddr t x y)(hk:oB C i o st some=some st'):EC C.P o a w (yC C w0 outer own i ρ st'):=by
 simp only[oB,ho]at hk;have hx:=hr.opd x;have hy:=hr.opd y;split at hk
 case h_2=>cases hk
 rename_i kk n n6;rw[n6]at hy;have eZ:=hy.int_inv.1;split at hk
 ·rename_i e t' l hu OV;rw[OV]at hx;cases KW:YH C e t'
  case false=>simp[KW]at hk
  simp only[KW,VC,Option.bind_eq_some_iff]at hk;obtain⟨z,hz,hk⟩:=hk;obtain⟨h0,FV,rfl⟩:=zjR hz;have KV:=zc0 hC KW;obtain⟨ao,cap,aW,_,_,hl⟩:=hx.sl_inv
  rcases hl with rfl|⟨b,off,rfl,hb,PV⟩
  ·simp at FV
  ·refine kC (v:= .pointer (some (at_ b (off+n.toNat *sz t')))) (w':=w) ?_ (hr.after ?_ hk)
   ·simp[execOp,ho,aW,eZ,zfw hu KV h0 (show n<(l.length:Int)by omega)]
   ·have:=VR.fp (w:=w) (ρ:=ρ) (bad:=qA outer ρ st.h) (enc t' l[n.toNat]) 0 b (off+n.toNat *sz t') (λj=>(w.cell? (at_ b (off+n.toNat *sz t'+j))).getD undef) (by rw[cD];exact UO _) hb
     (fun j hj=>by
      rw[cD]at hj;obtain⟨u,h1,_⟩:=PV _ FV j hj;rw[h1];rfl)
     (fun j hj=>by
      obtain⟨u,h1,h2⟩:=PV _ FV j (by rw[←cD t' l[n.toNat]];exact hj);rw[h1,Option.getD_some];rwa [cT _ _ _ hj]at h2)
    grind
 ·rename_i e r hu OV;rw[OV]at hx;split at hk
  case h_2=>cases hk
  rename_i t' l m AV;cases KW:YH C e t'
  case false=>simp[KW]at hk
  simp only[KW,VC]at hk;cases hb:(decide (0≤n)&&decide (n<(l.length:Int)))
  case false=>simp[hb]at hk
  simp only[hb,cond_true]at hk;simp only[Bool.and_eq_true,decide_eq_true_eq]at hb;have KV:=zc0 hC KW;obtain⟨ri,hρ,JV⟩:=zJ hr AV;have JY:ri.n=l.length:=JV.1
  rcases hx.ow_inv hρ with⟨aW,UV,_,_⟩|⟨ao,aW,UV,N1⟩
  ·have zV:=zfw (w:=w) (cap:=ri.cap) (b:=ri.b) (off:=0) (k:=kk) hu KV hb.1 (show n<(ri.n:Int) by omega);refine kC (v:= .pointer (some (at_ ri.b (0+n.toNat *sz t')))) (w':=w) ?_ (hr.after ?_ hk)
   ·simp[execOp,ho,aW,eZ,zV]
   ·rw[Nat.zero_add];exact .ep _ _ _ 0 _ hρ UV
  ·omega
 ·rename_i e r t' off len hu OV;rw[OV]at hx;cases KW:YH C e t'
  case false=>simp[KW]at hk
  simp only[KW,VC]at hk;cases hb:(decide (0≤n)&&decide (n<(len:Int)))
  case false=>simp[hb]at hk
  simp only[hb,cond_true]at hk;simp only[Bool.and_eq_true,decide_eq_true_eq]at hb;have KV:=zc0 hC KW;obtain⟨ri,hρ⟩:=hx.ov_row;obtain⟨ao,cap,aW,_,hao,_,_⟩:=hx.ov_inv hρ
  rcases hao with⟨h0,_⟩|⟨rfl,UV,_⟩
  ·omega
  ·have zV:=zfw (w:=w) (cap:=cap) (b:=ri.b) (off:=off *sz t') (k:=kk) hu KV hb.1 hb.2;refine kC (v:= .pointer (some (at_ ri.b (off *sz t'+n.toNat *sz t')))) (w':=w) ?_ (hr.after ?_ hk)
   ·simp[execOp,ho,aW,eZ,zV]
   ·rw[←Nat.add_mul];exact .ep _ _ _ 0 _ hρ UV
 ·rename_i m e r o1 hu OV;rw[OV]at hx;split at hk
  case h_2=>cases hk
  rename_i KV;obtain⟨j,QW,GW,hk⟩:=zf1 _ _ hk;rw[Nat.zero_add]at QW hk;obtain⟨ri,hρ,aW,UV⟩:=hx.bp_inv;refine kC (v:= .pointer (some (at_ ri.b (o1+j)))) (w':=w) ?_ (hr.after (.bp _ _ _ hρ UV) hk);have h0:0≤n:=by omega
  have h1:n<(m:Int):=by omega
  have h2:n.toNat=j:=by omega
  simp[execOp,ho,aW,eZ,Instr.indexAt,asIntOf,yF hu,Instr.sureAddr,h0,h1,CL KV,BG,h2]
 ·cases hk
def zug(t:TypeId)(x y:Operand)(ho:o.op= .index t x y)(hk:oB C i o st some=some st'):EC C.P o a w (yC C w0 outer own i ρ st'):=by
 simp only[oB,ho]at hk;have hx:=hr.opd x;have hy:=hr.opd y;split at hk
 ·rename_i kk n s n6 hu OV;rw[OV]at hx;rw[n6]at hy;have eZ:=hy.int_inv.1;obtain⟨aW,rY⟩:=hx.str_inv;obtain⟨z,hz,hk⟩:=Option.bind_eq_some_iff.1 hk;obtain⟨h0,FV,rfl⟩:=zjR hz;refine kC (v:= .int .u8 (s[n.toNat].toNat:Int)) (w':=w) ?_ (hr.after (.int _ _ ?_) hk)
  ·have h1:n.toNat<(⟨s.toArray⟩:ByteArray).size:=by simpa[ByteArray.size]using FV
   simp[execOp,ho,aW,eZ,Instr.index,asIntOf,yF hu,h0,ByteArray.getElem?_lt' _ _ h1];rfl
  ·have:=s[n.toNat].toNat_lt;simp only[uE,IntKind.min,IntKind.max,IntKind.signed,IntKind.bits];simp;omega
 ·rename_i kk n m e cs n6 hu OV;rw[OV]at hx;rw[n6]at hy;have eZ:=hy.int_inv.1;split at hk
  case h_2=>cases hk
  rename_i KV iW;obtain⟨j,QW,GW,hk⟩:=zf1 _ _ hk;rw[Nat.zero_add]at QW hk;split at hk
  case h_2=>cases hk
  rename_i c r' hd
  have FV:j<cs.length:=by
   rcases Nat.lt_or_ge j cs.length with h|h
   ·exact h
   ·rw[List.drop_eq_nil_of_le h]at hd;cases hd
  have X3:cs[j]=c:=by
   rw[List.drop_eq_getElem_cons FV]at hd;exact(List.cons.inj hd).1
  cases aW:a.eval x<;>rw[aW]at hx<;>cases hx
  rename_i vs hs hv;have h3:=hv j FV;rw[X3]at h3;have h0:0≤n:=by omega
  have h1:n<(m:Int):=by omega
  have h2:n.toNat=j:=by omega
  refine kC (v:=vs.getD j undef) (w':=w) ?_ (hr.after h3 hk);simp[execOp,ho,aW,eZ,Instr.index,asIntOf,yF hu,h0,h1,CL KV,h2,DO (P:=C.P) (w:=w) iW (show j<vs.size by omega)]
 ·cases hk
end
end Go.D
namespace Go.D
variable [iA]
section
variable {C:Cx} {w0:World} {outer own:Nat→Prop} {ρ:Nat→Option RI} {st st':St} {a:Act} {w:World} {h:Nat→Option rA}
omit [iA]in
def jS{α:Type}{xs:Array α}{l:List α}(h:xs.toList=l):xs=l.toArray:=by subst h;simp
def pB.move(hh:pB w0 outer own ρ h w){r i:Nat}{c:vF}{ri ri':RI}(hr:h r=some ⟨c, .own⟩)(hρ:ρ r=some ri)(hn:ri.nl=false)(hi:ρ i=none)
  (hb:ri'.b=ri.b) (I5:ri'.nl=false) (w':World)
  (cZ:Wx w w') (KV:w'.heap.size=w.heap.size) (hw:∀b,b≠ri.b→w'.heap[b]?=w.heap[b]?) (c':vF)
  (hc:∀bad,(∀u d,VR w ρ (qA outer ρ h) u d→VR w' (zA ρ i (some ri')) bad u d)→aE w' (zA ρ i (some ri')) bad ri' c'):
  pB w0 outer own (zA ρ i (some ri')) (zA (zA h r none) i (some ⟨c', .own⟩)) w'∧
   ∀u d,VR w ρ (qA outer ρ h) u d→VR w' (zA ρ i (some ri')) (qA outer (zA ρ i (some ri')) (zA (zA h r none) i (some ⟨c', .own⟩))) u d:=by
 have hir:i≠r:=by rintro rfl;simp[hρ]at hi
 have hρ':∀q qi,ρ q=some qi→zA ρ i (some ri') q=some qi:=λq qi hq=>by
  rw[AA];exact hq;rintro rfl;simp[hi]at hq
 have U2:qA outer ρ h ri.b:= .inr ⟨r,_,ri,hr,rfl,hρ,hn,rfl⟩
 have AV:∀q row,q≠i→zA (zA h r none) i (some ⟨c', .own⟩) q=some row→q≠r∧h q=some row:=λq row v4 hq=>by
  rw[AA _ _ _ _ v4]at hq
  by_cases VV:q=r
  ·subst VV;rw[MA]at hq;cases hq
  ·rw[AA _ _ _ _ VV]at hq;exact⟨VV,hq⟩
 have YV:∀b,qA outer (zA ρ i (some ri')) (zA (zA h r none) i (some ⟨c', .own⟩)) b→qA outer ρ h b:=by
  rintro b (nX|⟨q,row,qi,h1,h2,h3,h4,h5⟩)
  ·exact .inl nX
  ·by_cases hq:q=i
   ·subst hq;rw[MA]at h3;cases h3
    grind
   ·rw[AA _ _ _ _ hq]at h3;exact .inr ⟨q,row,qi,(AV q row hq h1).2,h2,h3,h4,h5⟩
 have hv:∀u d,VR w ρ (qA outer ρ h) u d→VR w' (zA ρ i (some ri')) (qA outer (zA ρ i (some ri')) (zA (zA h r none) i (some ⟨c', .own⟩))) u d:=λu d hu=>
  hu.mono hρ' (λb hb _=>hw b λe=>hb (e▸U2)) λb hb=> .inl (YV b hb)
 obtain⟨ri2,h6,_,h7⟩:=hh.rows r _ hr;rw[hρ]at h6;cases h6;refine⟨⟨hh.wx.trans cZ,λb nX ho=>?_,hh.outLt,?_,?_⟩,hv⟩
 ·refine(hw b ?_).trans (hh.old b nX ho);rintro rfl
  rcases(h7 hn).1.2 rfl with h8|h8
  ·omega
  ·exact ho h8
 ·intro q row hq
  by_cases v4:q=i
  ·subst v4;rw[MA]at hq;cases hq;exact⟨ri',MA _ _ _,hc _ hv,λ_=>by rw[hb,KV];exact h7 hn⟩
  ·obtain⟨VV,hq⟩:=AV q row v4 hq;obtain⟨qi,h1,h2,h3⟩:=hh.rows q row hq;refine⟨qi,hρ' q qi h1,h2.keep (λU3=>hw _ ?_) hv,λU3=>by rw[KV];exact h3 U3⟩;intro e;exact VV (hh.inj q r row _ qi ri hq hr h1 hρ U3 hn e)
 ·intro q q' row row' qi qi' h1 h2 h3 h4 h5 h6 h7
  by_cases hq:q=i<;>by_cases YW:q'=i
  ·rw[hq,YW]
  ·subst hq;rw[MA]at h3;cases h3;obtain⟨VV,h2⟩:=AV q' row' YW h2;rw[AA _ _ _ _ YW]at h4;exact absurd (hh.inj q' r row' _ qi' ri h2 hr h4 hρ h6 hn (by rw[←h7,hb])) VV
  ·subst YW;rw[MA]at h4;cases h4;obtain⟨VV,h1⟩:=AV q row hq h1;rw[AA _ _ _ _ hq]at h3;exact absurd (hh.inj q r row _ qi ri h1 hr h3 hρ h5 hn (by rw[h7,hb])) VV
  ·obtain⟨_,h1⟩:=AV q row hq h1;obtain⟨_,h2⟩:=AV q' row' YW h2;rw[AA _ _ _ _ hq]at h3;rw[AA _ _ _ _ YW]at h4;exact hh.inj q q' row row' qi qi' h1 h2 h3 h4 h5 h6 h7
variable {o:Oper} {i:Nat} (hr:bB C w0 outer own ρ st a w)
omit [iA]in
def ztD{n:Nat}(h:n≤maxLen):uE .i64 (n:Int):=by
 unfold maxLen at h;simp only[uE,IntKind.min,IntKind.max,IntKind.signed,IntKind.bits];simp;omega
include hr
def zkB{d:V}{v:Value}{n:Nat}(hv:VR w ρ (qA outer ρ st.h) v d)(hn:ZM st.h d=some n):
  n≤maxLen∧((∃ao cap,v= .slice ao n cap∧n≤cap)∨∃s,d= .str s∧v= .string ⟨s.toArray⟩∧n=s.length):=by
 unfold ZM at hn;split at hn
 ·cases hn;obtain⟨ao,cap,h1,h2,h3,_⟩:=hv.sl_inv
  grind
 ·cases hn;cases hv
  grind
 ·cases hn;obtain⟨h1,h2⟩:=hv.str_inv
  grind
 ·split at hn
  case h_2=>cases hn
  rename_i t l m AV;cases hn;obtain⟨ri,hρ,JV⟩:=zJ hr AV;have JY:ri.n=l.length:=JV.1
  rcases hv.ow_inv hρ with⟨h1,h2,h3,h4⟩|⟨ao,h1,h2,h3⟩
  ·grind
  grind
 ·cases hn;obtain⟨ri,hρ⟩:=hv.ov_row;obtain⟨ao,cap,h1,_,_,h2,h3⟩:=hv.ov_inv hρ
  grind
 ·cases hn
def zwx(args:Array Operand)(argTypes:Array TypeId)(ho:o.op= .call {callee:= .builtin .len,args,argTypes})(hk:oB C i o st some=some st'):EC C.P o a w (yC C w0 outer own i ρ st'):=by
 simp only[oB,ho]at hk;split at hk
 case h_2=>cases hk
 rename_i x t mW z4;split at hk
 case h_2=>cases hk
 rename_i d n hu DV;cases xX:zcY d (opd st.s x)
 case false=>simp[xX]at hk
 simp only[xX,VC]at hk;obtain⟨zZ,hl⟩:=zkB hr (hr.opd x) DV;have e1:=jS mW;have e2:=jS z4;subst e1 e2;refine kC (v:= .int .i64 (n:Int)) (w':=w) ?_ (hr.after (.int _ _ (ztD zZ)) hk)
 rcases hl with⟨ao,cap,h1,_⟩|⟨s,h0,h1,h2⟩
 ·have hd:∃e,d= .slice e:=by
   unfold zcY at xX;split at xX<;>first|exact⟨_,rfl⟩|skip
   ·rename_i s OV;have:=hr.opd x;rw[OV]at this;rw[this.str_inv.1]at h1;cases h1
   ·cases xX
  obtain⟨e,rfl⟩:=hd;simp[execOp,ho,resolve,invoke,builtin,Builtin.len_,yF hu,h1,goInt]
 ·have hd:d= .string:=by
   rw[h0]at xX;unfold zcY at xX
   grind
  subst hd;have oX:(⟨s.toArray⟩:ByteArray).size=s.length:=by simp[ByteArray.size]
  simp[execOp,ho,resolve,invoke,builtin,Builtin.len_,yF hu,h1,h2,oX,goInt]
def zwW(args:Array Operand)(argTypes:Array TypeId)(ho:o.op= .call {callee:= .builtin .min,args,argTypes})(hk:oB C i o st some=some st'):EC C.P o a w (yC C w0 outer own i ρ st'):=by
 simp only[oB,ho]at hk;split at hk
 case h_2=>cases hk
 rename_i k p k' q mW
 by_cases AZ:k=k'
 case neg=>simp[AZ]at hk
 subst AZ;simp only[decide_true,cond_true]at hk;obtain⟨x,xs,G5,h1,h2⟩:=List.map_eq_cons_iff.1 mW;obtain⟨y,ys,R8,h3,h4⟩:=List.map_eq_cons_iff.1 h2;have h5:=List.map_eq_nil_iff.1 h4;subst h5 R8;have e1:=jS G5;subst e1;have hx:=hr.opd x;rw[h1]at hx;have hy:=hr.opd y;rw[h3]at hy;refine kC (v:= .int k (if q<p then q else p)) (w':=w) ?_ (hr.after (.int _ _ (by split;exact hy.int_inv.2;exact hx.int_inv.2)) hk);simp[execOp,ho,resolve,invoke,builtin,Builtin.min_,hx.int_inv.1,hy.int_inv.1,Builtin.min2]
def zw5(args:Array Operand)(argTypes:Array TypeId)(ho:o.op= .call {callee:= .builtin .max,args,argTypes})(hk:oB C i o st some=some st'):EC C.P o a w (yC C w0 outer own i ρ st'):=by
 simp only[oB,ho]at hk;split at hk
 case h_2=>cases hk
 rename_i k p k' q mW
 by_cases AZ:k=k'
 case neg=>simp[AZ]at hk
 subst AZ;simp only[decide_true,cond_true]at hk;obtain⟨x,xs,G5,h1,h2⟩:=List.map_eq_cons_iff.1 mW;obtain⟨y,ys,R8,h3,h4⟩:=List.map_eq_cons_iff.1 h2;have h5:=List.map_eq_nil_iff.1 h4;subst h5 R8;have e1:=jS G5;subst e1;have hx:=hr.opd x;rw[h1]at hx;have hy:=hr.opd y;rw[h3]at hy;refine kC (v:= .int k (if q>p then q else p)) (w':=w) ?_ (hr.after (.int _ _ (by split;exact hy.int_inv.2;exact hx.int_inv.2)) hk);simp[execOp,ho,resolve,invoke,builtin,Builtin.max_,hx.int_inv.1,hy.int_inv.1,Builtin.max2]
end
end Go.D
namespace Go.D
variable [iA]
section
variable {C:Cx} {w0:World} {outer own:Nat→Prop} {ρ:Nat→Option RI} {st st':St} {a:Act} {w:World} {h:Nat→Option rA}
def EO(w:World)(ρ:Nat→Option RI)(bad:Nat→Prop)(t:TN)(l:List (El t))(cs:List Value):Prop:=cs.length=l.length *sz t∧∀i (hi:i<l.length) j,j<sz t→∃u,cs[i *sz t+j]?=some u∧VR w ρ bad u ((enc t l[i]).getD j .undef)
omit [iA]in
def zju{n k m:Nat}(hm:0<m)(h:k<n *m):k / m<n∧k % m<m∧k / m *m+k % m=k:=
 ⟨(Nat.div_lt_iff_lt_mul hm).2 h,Nat.mod_lt _ hm,by rw[Nat.mul_comm];exact Nat.div_add_mod k m⟩
def EO.one{bad:Nat→Prop}{t:TN}{l:List (El t)}{cs:List Value}(h:EO w ρ bad t l cs):∀u∈cs,u.oneCell'=true:=by
 intro u hu;obtain⟨k,hk,rfl⟩:=List.mem_iff_getElem.1 hu;obtain⟨h1,h2,h3⟩:=zju (UO t) (by rw[←h.1];exact hk);obtain⟨u,h4,h5⟩:=h.2 _ h1 _ h2;rw[h3,List.getElem?_eq_getElem hk]at h4;cases h4;exact h5.one (zif _ _ _ h2)
def gO(w:World)(b off n:Nat):List Value:=(List.range n).map λk=>(w.cell? (at_ b (off+k))).getD undef
omit [iA]in
def zig(w:World)(b off n:Nat):(gO w b off n).length=n:=by simp[gO]
omit [iA]in
def zip(w:World)(b off n k:Nat)(hk:k<n):(gO w b off n)[k]?=some ((w.cell? (at_ b (off+k))).getD undef):=by
 simp[gO,hk]
def zjG{bad:Nat→Prop}{t:TN}{l:List (El t)}{b off:Nat}
  (hv:∀i (hi:i<l.length) j,j<sz t→∃u,w.cell? (at_ b (off+i *sz t+j))=some u∧VR w ρ bad u ((enc t l[i]).getD j .undef)):
  EO w ρ bad t l (gO w b off (l.length *sz t))∧∀j u,(gO w b off (l.length *sz t))[j]?=some u→w.cell? ((at_ b off).add j)=some u:=by
 refine⟨⟨zig _ _ _ _,λi hi j hj=>?_⟩,λk u hk=>?_⟩
 ·obtain⟨u,h1,h2⟩:=hv i hi j hj
  have FV:i *sz t+j<l.length *sz t:=by
   have:(i+1) *sz t≤l.length *sz t:=Nat.mul_le_mul_right _ hi;rw[Nat.add_mul,Nat.one_mul]at this;omega
  refine⟨u,?_,h2⟩;rw[zip _ _ _ _ _ FV, ←Nat.add_assoc,h1];rfl
 ·have FV:k<l.length *sz t:=by
   rcases Nat.lt_or_ge k (l.length *sz t)with h|h
   ·exact h
   ·rw[List.getElem?_eq_none (by rw[zig];exact h)]at hk;cases hk
  obtain⟨h1,h2,h3⟩:=zju (UO t) FV;obtain⟨u',h4,_⟩:=hv _ h1 _ h2;rw[Nat.add_assoc,h3]at h4;rw[zip _ _ _ _ _ FV,h4]at hk;rw[BG,h4];exact hk
omit [iA]in
def zin{α:Type}(l:List α)(off len i:Nat)(h:off+len≤l.length)(hi:i<((l.drop off).take len).length):((l.drop off).take len)[i]=l[off+i]'(by simp at hi;omega):=by simp
variable {o:Oper} {i:Nat} (hr:bB C w0 outer own ρ st a w)
include hr
def zkW{tn:TN}{v:Value}{d:V}{m:List (El tn)}(hv:VR w ρ (qA outer ρ st.h) v d)(hm:uV st.h tn d=some m):
  ∃ao cap,v= .slice ao m.length cap∧(m=[]∨∃b off,ao=some (at_ b off)∧
   ∀i (hi:i<m.length) j,j<sz tn→∃u,w.cell? (at_ b (off+i *sz tn+j))=some u∧VR w ρ (qA outer ρ st.h) u ((enc tn m[i]).getD j .undef)):=by
 have mk:∀(ao:Option Addr) (cap:Nat),v= .slice ao m.length cap→(m=[]∨∃b off,ao=some (at_ b off)∧
   ∀i (hi:i<m.length) j,j<sz tn→∃u,w.cell? (at_ b (off+i *sz tn+j))=some u∧VR w ρ (qA outer ρ st.h) u ((enc tn m[i]).getD j .undef))→
   ∃ao cap,v= .slice ao m.length cap∧(m=[]∨∃b off,ao=some (at_ b off)∧
   ∀i (hi:i<m.length) j,j<sz tn→∃u,w.cell? (at_ b (off+i *sz tn+j))=some u∧VR w ρ (qA outer ρ st.h) u ((enc tn m[i]).getD j .undef)):=λao cap h1 h2=>⟨ao,cap,h1,h2⟩
 unfold uV at hm;split at hm
 ·rename_i t' l;split at hm
  case isFalse=>cases hm
  rename_i e1;subst e1;simp only[MM,Option.some.injEq]at hm;subst hm;obtain⟨ao,cap,h1,_,_,h4⟩:=hv.sl_inv;refine mk ao cap h1 ?_
  rcases h4 with h4|⟨b,off,h5,_,h6⟩
  ·exact .inl h4
  ·exact .inr ⟨b,off,h5,h6⟩
 ·cases hm;cases hv;exact mk none 0 rfl (.inl rfl)
 ·rename_i r;split at hm
  case h_2=>cases hm
  rename_i t' l mo AV;split at hm
  case isFalse=>cases hm
  rename_i e1;subst e1;simp only[MM,Option.some.injEq]at hm;subst hm;obtain⟨ri,hρ,JV⟩:=zJ hr AV;have JY:ri.n=l.length:=JV.1
  rcases hv.ow_inv hρ with⟨h1,h2,h3,h4⟩|⟨ao,h1,h2,h3⟩
  ·refine mk _ ri.cap (by rw[←JY];exact h1) ?_
   rcases JV.2 with h5|⟨_,_,_,_,_,h6⟩
   ·exact .inl h5.2
   ·exact .inr ⟨ri.b,0,rfl,λi hi j hj=>by rw[Nat.zero_add];exact h6 i hi j hj⟩
  ·have:l=[]:=List.eq_nil_of_length_eq_zero (by omega);exact mk ao 0 (by rw[this];exact h1) (.inl this)
 ·rename_i r t0 off len;split at hm
  case h_2=>cases hm
  rename_i t' l mo AV
  by_cases ht0:t0=tn
  case neg=>simp[ht0]at hm
  subst ht0;simp only[decide_true,cond_true]at hm;split at hm
  case isFalse=>cases hm
  rename_i e1;subst e1;simp only[MM,Option.some.injEq]at hm;subst hm;obtain⟨ri,hρ,JV⟩:=zJ hr AV;have JY:ri.n=l.length:=JV.1;obtain⟨ao,cap,h1,h2,h3,h4,h5⟩:=hv.ov_inv hρ;have DV:((l.drop off).take len).length=len:=by simp;omega
  refine mk ao cap (by rw[DV];exact h1) ?_
  rcases h3 with⟨rfl,_⟩|⟨rfl,UV,_⟩
  ·exact .inl (by simp)
  ·rcases JV.2 with h5 | ⟨_,_,_,_,_,h6⟩
   ·rw[UV]at h5;cases h5.1
   ·refine .inr ⟨ri.b,_,rfl,λi hi j hj=>?_⟩;rw[zin l off len i (by omega) hi, ←Nat.add_mul];exact h6 (off+i) (by omega) j hj
 ·cases hm
def ztz{P:Program}{t e:TypeId}{tn:TN}{v:Value}{d:V}{m:List (El tn)}(hu:P.underlying t=some (.slice e))(hv:VR w ρ (qA outer ρ st.h) v d)(hm:uV st.h tn d=some m):
  ∃news,Src P (sz tn) t v m.length news w∧EO w ρ (qA outer ρ st.h) tn m news:=by
 obtain⟨ao,cap,rfl,h⟩:=zkW hr hv hm
 rcases h with rfl|⟨b,off,rfl,hc⟩
 ·refine⟨[],?_,⟨by simp,λi hi=>by simp at hi⟩⟩;cases ao with
  | none=>exact Src.ofNil w hu cap
  | some ad=>exact Src.ofSlice w hu ad 0 cap [] (by simp) (λj u h=>by simp at h) (λu h=>by simp at h)
 ·obtain⟨h1,h2⟩:=zjG hc;exact⟨_,Src.ofSlice w hu (at_ b off) m.length cap _ h1.1 h2 h1.one,h1⟩
omit hr in
theorem ziy{bad bad':Nat→Prop}{w':World}{ρ':Nat→Option RI}{t:TN}{l m:List (El t)}{olds news:List Value}(h1:EO w ρ bad t l olds)(h2:EO w ρ bad t m news)
  (hk:∀u d,VR w ρ bad u d→VR w' ρ' bad' u d) {b:Nat}
  (hc:∀j u,(olds++news)[j]?=some u→w'.cell? (at_ b j)=some u):∀i (hi:i<(l++m).length) j,j<sz t→∃u,w'.cell? (at_ b (i *sz t+j))=some u∧VR w' ρ' bad' u ((enc t (l++m)[i]).getD j .undef):=by
 intro i hi j hj
 by_cases PY:i<l.length
 ·obtain⟨u,h3,h4⟩:=h1.2 i PY j hj
  have FV:i *sz t+j<olds.length:=by
   rw[h1.1];have:(i+1) *sz t≤l.length *sz t:=Nat.mul_le_mul_right _ PY;rw[Nat.add_mul,Nat.one_mul]at this;omega
  refine⟨u,hc _ _ (by rw[List.getElem?_append_left FV];exact h3),?_⟩;rw[List.getElem_append_left PY];exact hk _ _ h4
 ·have him:i - l.length<m.length:=by simp at hi;omega
  obtain⟨u,h3,h4⟩:=h2.2 (i - l.length) him j hj
  have sX:olds.length≤i *sz t+j:=by
   rw[h1.1];have:l.length *sz t≤i *sz t:=Nat.mul_le_mul_right _ (by omega);omega
  refine⟨u,hc _ _ ?_,?_⟩
  ·rw[List.getElem?_append_right sX,h1.1]
   have:i *sz t+j - l.length *sz t=(i - l.length) *sz t+j:=by
    have h5:l.length *sz t≤i *sz t:=Nat.mul_le_mul_right _ (by omega);rw[Nat.sub_mul];omega
   rw[this];exact h3
  ·rw[List.getElem_append_right (by omega)];exact hk _ _ h4
def zsD(hC:TF C)(args:Array Operand)(argTypes:Array TypeId)(ho:o.op= .call {callee:= .builtin .append,args,argTypes})(hi:ρ i=none)(hk:oB C i o st some=some st'):
  EC C.P o a w (yC C w0 outer own i ρ st'):=by
 simp only[oB,ho]at hk;split at hk
 case h_2=>cases hk
 rename_i x y t t' mW z4;cases T8:Nat.beq t t'
 case false=>simp[T8]at hk
 have T8:=Nat.eq_of_beq_eq_true T8;subst T8;simp only[Nat.beq_refl,VC]at hk;split at hk
 ·cases hk
 rename_i tn KW;obtain⟨e,he,z3⟩:=Option.bind_eq_some_iff.1 KW
 have hu:C.P.underlying t=some (.slice e):=by
  unfold VO at he;split at he
  ·rename_i h1;cases he;exact h1
  ·cases he
 obtain⟨info,z,NY,hi2,U8,A4,o6⟩:=hC.ok e tn z3;split at hk
 case h_2=>cases hk
 rename_i l ro m yW LY;cases zW:decide (l.length+m.length≤bA)
 case false=>simp[zW]at hk
 simp only[zW,cond_true]at hk;have zW:l.length+m.length≤bA:=of_decide_eq_true zW;obtain⟨news,V9,yX⟩:=ztz hr hu (hr.opd y) LY;have o0:Src C.P info.size t (a.eval y) m.length news w:=by rw[hi2];exact V9
 have e1:=jS mW;have e2:=jS z4;subst e1 e2
 have QV:∀v w',(Builtin.append_ #[t,t] o.type #[a.eval x,a.eval y]).run C.P w= .ok v w'→(execOp a.eval o).run C.P w= .ok (.value v) w':=λv w' h1=>by
  simp[execOp,ho,resolve,invoke,builtin,h1]
 have W9:bA *1024≤140737488355328:=by unfold bA;decide
 have B4:(l.length+m.length) *info.bytes≤140737488355328:=Nat.le_trans (Nat.mul_le_mul zW U8) W9;have hLIM2:bA≤9223372036854775807:=by unfold bA;decide
 -- a new row
 have grown:∀(ao:Option Addr) (cap:Nat) (olds:List Value) (h':Nat→Option rA),a.eval x= .slice ao l.length cap→cap<l.length+m.length→EO w ρ (qA outer ρ st.h) tn l olds→
   (Builtin.firstCells info.size l.length (.slice ao l.length cap)).run C.P w.drew= .ok olds.toArray w.drew→
   (∀r row',h' r=some row'→∃row,st.h r=some row∧row.c=row'.c∧(row'.m.isRo=false→row.m.isRo=false))→
   wF C o.dst {st with h:=h'} i (.arr tn (l++m)) (.ow i) some=some st'→EC C.P o a w (yC C w0 outer own i ρ st'):=by
  intro ao cap olds h' hx XZ holds C4 RV vW
  have zV:=run_append_grow_src (P:=C.P) w t t o.type e info z hu NY A4 ao l.length cap olds C4 (a.eval y) m.length news o0 (by omega)
   (by have:((l.length+m.length:Nat):Int)≤(bA:Nat):=by omega
       omega) (growslice_fits (by omega) B4)
  rw[←hx]at zV;have sX:=grownCap_ge w (l.length+m.length) cap e;have J5:grownCap w (l.length+m.length) cap e≤maxLen:=grownCap_le_maxLen w (l.length+m.length) cap e (by unfold maxLen;omega);obtain⟨W2,W1⟩:=hr.heap.less RV;have LV:bB C w0 outer own ρ {st with h:=h'} a w:=hr.turn W2 W1
  refine kC (QV _ _ zV) (LV.newRow hi ⟨w.heap.size,l.length+m.length,grownCap w (l.length+m.length) cap e,false⟩ (λ_=>rfl) _ (Wx.trans (zlA w) (qV _ _))
   (λb hb=>qU w.drew _ b hb) (λ_=>by simp) (λbad BV=>?_) (λbad=>?_) vW)
  ·generalize zX:((olds++news).toArray++Builtin.zeroCells z.cells (grownCap w (l.length+m.length) cap e - (l.length+m.length)))=cells at BV⊢
   have s6:cells.size=grownCap w (l.length+m.length) cap e *sz tn:=by
    rw[←zX,Array.size_append,size_zeroCells,o6];have h5:(olds++news).toArray.size=(l.length+m.length) *sz tn:=by simp[holds.1,yX.1,Nat.add_mul]
    rw[h5, ←Nat.add_mul];congr 1;omega
   refine⟨by simp, .inr ⟨rfl,zfP (w:=w.drew) (hC.tys e tn z3),sX,J5,λj hj=>⟨World.frozen?_alloc_new _ _ _ _,?_⟩,?_⟩⟩
   ·have:=nO w.drew cells e j (by rw[s6];exact hj);rw[World.size_drew]at this;rw[this];rfl
   ·refine ziy (ρ':=zA ρ i _) (bad':=bad) ⟨holds.1,λi hi j hj=>?_⟩ ⟨yX.1,λi hi j hj=>?_⟩ BV λj u hj=>?_
    ·obtain⟨u,h6,h7⟩:=holds.2 i hi j hj;exact⟨u,h6,W1 _ _ h7⟩
    ·obtain⟨u,h6,h7⟩:=yX.2 i hi j hj;exact⟨u,h6,W1 _ _ h7⟩
    ·have FV:j<(olds++news).length:=by
      rcases Nat.lt_or_ge j (olds++news).length with h|h
      ·exact h
      ·rw[List.getElem?_eq_none h]at hj;cases hj
     have QY:j<cells.size:=by
      rw[←zX,Array.size_append];simp at FV⊢;omega
     have:=nO w.drew cells e j QY;rw[World.size_drew]at this;rw[this,Array.getD_eq_getD_getElem?,Array.getElem?_eq_getElem QY,Option.getD_some, ←hj,List.getElem?_eq_getElem FV];congr 1;subst zX;rw[Array.getElem_append_left (by simpa using FV)];simp
  ·exact .ow i ⟨w.heap.size,l.length+m.length,grownCap w (l.length+m.length) cap e,false⟩ (MA _ _ _) sX J5 rfl
 -- nothing there,nothing appended,or a new row
 have empty:∀(ao:Option Addr) (h':Nat→Option rA),l=[]→a.eval x= .slice ao 0 0→
   (∀r row',h' r=some row'→∃row,st.h r=some row∧row.c=row'.c∧(row'.m.isRo=false→row.m.isRo=false))→
   wF C o.dst {st with h:=h'} i (.arr tn (l++m)) (.ow i) some=some st'→EC C.P o a w (yC C w0 outer own i ρ st'):=by
  intro ao h' hl hx RV vW;subst hl
  by_cases hm:m=[]
  ·subst hm;obtain⟨W2,W1⟩:=hr.heap.less RV;have LV:bB C w0 outer own ρ {st with h:=h'} a w:=hr.turn W2 W1;have N1:news=[]:=List.eq_nil_of_length_eq_zero (by rw[yX.1];simp);subst N1;have zV:=run_append_nothing w t t o.type e info hu NY ao 0 0 (Nat.le_refl _) (a.eval y) o0;rw[←hx]at zV;refine kC (QV _ _ zV) (LV.newRow hi ⟨0,0,0,true⟩ (λh=>by cases h) w (Wx.refl _) (λb hb=>rfl) (λh=>by cases h) (c:= .arr tn ([]++[])) (λbad BV=>⟨rfl, .inl ⟨rfl,rfl⟩⟩) (λbad=>?_) vW);rw[hx];exact .owN i ⟨0,0,0,true⟩ ao (MA _ _ _) rfl rfl
  ·have Z5:0<m.length:=List.length_pos_iff.2 hm;refine grown ao 0 [] h' hx (by simpa using Z5) ⟨by simp,λi hi=>by simp at hi⟩ ?_ RV vW;cases ao with
   | none=>exact run_firstCells_none w.drew info.size 0 0 0
   | some ad=>exact run_firstCells_some w.drew info.size 0 ad 0 0 [] (by simp) (λj v h=>by simp at h)
 have killLess:∀(r:Option Nat) (q:Nat) (row':rA),WO st.h r q=some row'→∃row,st.h q=some row∧row.c=row'.c∧(row'.m.isRo=false→row.m.isRo=false):=by
  intro r q row' h1;cases r with
  | none=>exact⟨row',h1,rfl,id⟩
  | some r=>
   simp only[WO]at h1
   by_cases hq:q=r
   ·subst hq;rw[MA]at h1;cases h1
   ·rw[AA _ _ _ _ hq]at h1;exact⟨row',h1,rfl,id⟩
 -- a row of the call's own,or the beginning of one
 have full:∀(r:Nat) (l0:List (El tn)) (ri:RI) (cap:Nat),st.h r=some ⟨.arr tn l0, .own⟩→ρ r=some ri→ri.nl=false→l=l0.take l.length→l.length≤cap→cap≤ri.cap→
   a.eval x= .slice (some (at_ ri.b 0)) l.length cap→wF C o.dst {st with h:=WO st.h (some r)} i (.arr tn (l++m)) (.ow i) some=some st'→EC C.P o a w (yC C w0 outer own i ρ st'):=by
  intro r l0 ri cap AV hρ UV hl A3 X9 hx vW;have hll0:l.length≤l0.length:=by rw[hl];simp;omega
  obtain⟨_,hρ2,JV,_⟩:=hr.heap.rows r _ AV;rw[hρ]at hρ2;cases hρ2
  rcases JV.2 with h5|⟨_,ce,c1,c2,c3,c4⟩
  ·rw[UV]at h5;cases h5.1
  have holds:=zjG (w:=w) (ρ:=ρ) (bad:=qA outer ρ st.h) (t:=tn) (l:=l) (b:=ri.b) (off:=0) (λi hi j hj=>by
   obtain⟨u,h6,h7⟩:=c4 i (by omega) j hj;refine⟨u,by rw[Nat.zero_add];exact h6,?_⟩
   have:l[i]=l0[i]'(by omega):=by
    have h8:l[i]?=(l0.take l.length)[i]?:=by rw[←hl]
    rw[List.getElem?_eq_getElem hi,List.getElem?_take,if_pos hi,List.getElem?_eq_getElem (by omega)]at h8;exact Option.some.inj h8
   rw[this];exact h7)
  by_cases pX:l.length+m.length≤cap
  ·have hcz:cap *sz tn≤ri.cap *sz tn:=Nat.mul_le_mul_right _ X9;have hrz:(l.length+m.length) *sz tn≤cap *sz tn:=Nat.mul_le_mul_right _ pX;rw[Nat.add_mul]at hrz
   have oW:∀j,j<news.length→(w.cell? ⟨ri.b,0+l.length *info.size+j,none⟩).isSome=true:=λj hj=>by
    rw[hi2,Nat.zero_add];exact(c3 _ (by rw[yX.1]at hj;omega)).2
   have wW:∀j,j<news.length→w.frozen? ⟨ri.b,0+l.length *info.size+j,none⟩=false:=λj hj=>by
    rw[hi2,Nat.zero_add];exact(c3 _ (by rw[yX.1]at hj;omega)).1
   have zV:=run_append_room_src (P:=C.P) w t t o.type e info hu NY ri.b 0 l.length cap (a.eval y) m.length news o0 pX oW wW;rw[show(⟨ri.b,0,none⟩:Addr)=at_ ri.b 0 from rfl, ←hx,hi2,Nat.zero_add]at zV;rw[hi2,Nat.zero_add]at oW;generalize hW:w.setCells ri.b (l.length *sz tn) news=W at zV
   have Y5:=hr.heap.move AV hρ UV hi (ri':=⟨ri.b,l.length+m.length,cap,false⟩) rfl rfl W (by rw[←hW];exact zbj _ _ _ _) (by rw[←hW];exact zaV _ _ _ _)
    (fun b hb=>by rw [← hW];exact zaS _ _ _ _ _ hb) (.arr tn (l++m)) (fun bad BV=>by
     refine⟨by simp, .inr ⟨rfl,by rw[←hW];exact zeI _ _ ce,pX,Nat.le_trans X9 c2,λj hj=>⟨by rw[←hW,World.frozen?_setCells];exact(c3 j (by have:j<cap *sz tn:=hj;omega)).1,?_⟩,?_⟩⟩
     ·by_cases hjj:l.length *sz tn≤j∧j<l.length *sz tn+news.length
      ·have:=World.cell?_setCells_in ri.b news (l.length *sz tn) w oW (j - l.length *sz tn) (by omega);rw[show l.length *sz tn+(j - l.length *sz tn)=j by omega,hW]at this;show(W.cell? ⟨ri.b,j,none⟩).isSome=true
       rw[this];rfl
      ·rw[←hW,World.cell?_setCells_out]
       ·exact(c3 j (by have:j<cap *sz tn:=hj;omega)).2
       ·intro _ _;simp only[at_];omega
     ·refine ziy holds.1 yX BV λj u hj=>?_;have V8:=holds.1.1
      by_cases UW:j<(gO w ri.b 0 (l.length *sz tn)).length
      ·rw[List.getElem?_append_left UW]at hj;have:=holds.2 j u hj;rw[BG,Nat.zero_add]at this;rw[←hW,World.cell?_setCells_out]
       ·exact this
       ·intro _ _;simp only[at_];left;rw[V8]at UW;exact UW
      ·rw[List.getElem?_append_right (by omega),V8]at hj;obtain⟨LZ,rfl⟩:=List.getElem?_eq_some_iff.1 hj;have:=World.cell?_setCells_in ri.b news (l.length *sz tn) w oW (j - l.length *sz tn) LZ;rw[show l.length *sz tn+(j - l.length *sz tn)=j by omega,hW]at this;exact this)
   obtain⟨hh,hv⟩:=Y5
   refine kC (QV _ _ zV) ⟨_,((hr.turn hh hv).put (?_:VR W _ _ _ (.ow i)) vW).1,λr' hn=>AA _ _ _ _ (by rintro rfl;exact hn ⟨Nat.le_refl _,by omega⟩),λq qi hq=>by
    rw[AA];exact hq;rintro rfl;simp[hi]at hq⟩
   exact .ow i ⟨ri.b,l.length+m.length,cap,false⟩ (MA _ _ _) pX (Nat.le_trans X9 c2) rfl
  ·refine grown (some (at_ ri.b 0)) cap _ _ hx (by omega) holds.1 ?_ (killLess (some r)) vW;exact run_firstCells_some w.drew info.size l.length (at_ ri.b 0) l.length cap _ (by rw[holds.1.1,hi2]) (by simpa using holds.2)
 unfold dT at yW;split at yW
 ·rename_i OV;cases yW;have hx:=hr.opd x;rw[OV]at hx;have d4:a.eval x= .slice none 0 0:=by generalize a.eval x=v at hx;cases hx;rfl
  exact empty none st.h rfl d4 (λq row' h1=>⟨row',h1,rfl,id⟩) hk
 ·rename_i r OV;split at yW
  case h_2=>cases yW
  rename_i t' l1 AV;split at yW
  case isFalse=>cases yW
  rename_i e1;subst e1;simp only[MM,Option.some.injEq,Prod.mk.injEq]at yW;obtain⟨rfl,rfl⟩:=yW;obtain⟨ri,hρ,JV⟩:=zJ hr AV;have JY:ri.n=l1.length:=JV.1;have hx:=hr.opd x;rw[OV]at hx
  rcases hx.ow_inv hρ with⟨h1,h2,h3,h4⟩|⟨ao,h1,h2,h3⟩
  ·exact full r l1 ri ri.cap AV hρ h2 (by simp) (by omega) (Nat.le_refl _) (by rw[←JY];exact h1) hk
  ·exact empty ao _ (List.eq_nil_of_length_eq_zero (by omega)) h1 (killLess (some r)) hk
 ·rename_i r t0 len OV;split at yW
  case h_2=>cases yW
  rename_i t' l1 AV;split at yW
  case isFalse=>cases yW
  rename_i e1;subst e1;simp only[MM,Option.some.injEq,Prod.mk.injEq]at yW;obtain⟨rfl,rfl⟩:=yW;obtain⟨ri,hρ,JV⟩:=zJ hr AV;have JY:ri.n=l1.length:=JV.1;have hx:=hr.opd x;rw[OV]at hx;obtain⟨ao,cap,h1,h2,h3,h4,h5⟩:=hx.ov_inv hρ;have DV:(l1.take len).length=len:=by simp;omega
  rcases h3 with⟨rfl,rfl⟩|⟨rfl,UV,hc⟩
  ·exact empty ao _ (by simp) h1 (killLess (some r)) hk
  ·rw[Nat.zero_mul]at h1;exact full r l1 ri cap AV hρ UV (by rw[DV]) (by omega) (by omega) (by rw[DV];exact h1) hk
 ·cases yW
end
end Go.D
namespace Go.D
variable [iA]
section
variable {C:Cx} {w0:World} {outer own:Nat→Prop} {ρ:Nat→Option RI} {st st':St} {a:Act} {w:World} {h:Nat→Option rA}
omit [iA]in
def zqE(s:List UInt8)(p q:Nat):(⟨s.toArray⟩:ByteArray).extract p q=⟨((s.drop p).take (q - p)).toArray⟩:=by
 apply ByteArray.ext;simp[ByteArray.data_extract]
omit [iA]in
def zjm{P:Program}(b:Bool)(len cap:Nat)(lo hi:Option Value)(p q:Nat)(Z1:∀v,lo=some v→∃k,v= .int k (p:Int))(dY:lo=none→p=0)
  (O1:∀v,hi=some v→∃k,v= .int k (q:Int)) (QX:hi=none→q=len) (vX:p≤q) (X8:q≤cap):
  (Instr.sliceBounds b len cap lo hi none).run P w= .ok (p,q,cap) w:=by
 have e1:(q:Int)≤cap:=by omega
 have e2:(p:Int)≤q:=by omega
 cases lo with
 | none=>
  obtain rfl:=dY rfl;cases hi with
  | none=>obtain rfl:=QX rfl;simp[Instr.sliceBounds]
  | some v=>obtain⟨k,rfl⟩:=O1 v rfl;simp[Instr.sliceBounds,Instr.sliceBound,asIntOf,X8]
 | some u=>
  obtain⟨k,rfl⟩:=Z1 u rfl;cases hi with
  | none=>obtain rfl:=QX rfl;simp[Instr.sliceBounds,Instr.sliceBound,asIntOf,vX]
  | some v=>obtain⟨k',rfl⟩:=O1 v rfl;simp[Instr.sliceBounds,Instr.sliceBound,asIntOf,X8,vX]
def zb2(hC:TF C){t e:TypeId}{tn:TN}{ao:Option Addr}{len cap p q:Nat}{lo hi:Option Value}(hu:C.P.underlying t=some (.slice e))(KW:YH C e tn=true)
  (Z1:∀v,lo=some v→∃k,v= .int k (p:Int)) (dY:lo=none→p=0) (O1:∀v,hi=some v→∃k,v= .int k (q:Int)) (QX:hi=none→q=len) (vX:p≤q) (X8:q≤cap):
  (Instr.sliceAt t (.slice ao len cap) lo hi none).run C.P w= .ok (.slice (if cap=p then ao else ao.map (·.add (p *sz tn))) (q - p) (cap - p)) w:=by
 simp[Instr.sliceAt,yF hu,Instr.slice,zjm (P:=C.P) (w:=w) true len cap lo hi p q Z1 dY O1 QX vX X8,CL (zc0 hC KW)]
variable {o:Oper} {i:Nat} (hr:bB C w0 outer own ρ st a w)
include hr
def ztR(hC:TF C)(t:TypeId)(x:Operand)(lo hi mx:Option Operand)(ho:o.op= .slice t x lo hi mx)(hk:oB C i o st some=some st'):EC C.P o a w (yC C w0 outer own i ρ st'):=by
 simp only[oB,ho]at hk;split at hk
 ·cases hk
 ·cases hk
 rename_i d hu;unfold aP at hk;split at hk
 ·cases hk
 rename_i len DV;split at hk
 case h_2=>cases hk
 rename_i pa pb OZ B3;cases hb:(decide (0≤pa)&&decide (pa≤pb)&&decide (pb≤(len:Int)))
 case false=>simp[hb]at hk
 simp only[hb,cond_true]at hk;simp only[Bool.and_eq_true,decide_eq_true_eq]at hb;obtain⟨⟨C3,z0⟩,hb3⟩:=hb;obtain⟨p,rfl⟩:=Int.eq_ofNat_of_zero_le C3;obtain⟨q,rfl⟩:=Int.eq_ofNat_of_zero_le (Int.le_trans C3 z0);have vX:p≤q:=by omega
 have RY:q≤len:=by omega
 have e1:((q:Int) - (p:Int)).toNat=q - p:=by omega
 simp only[Int.toNat_natCast,e1]at hk
 have Z1:∀v,lo.map a.eval=some v→∃k,v= .int k (p:Int):=λv hv=>by
  obtain⟨y,hy,rfl⟩:=Option.map_eq_some_iff.1 hv;subst hy;have:=hr.opd y;simp only[Option.map_some,mT]at OZ;split at OZ
  ·rename_i heq;cases heq
  ·rename_i k n heq;cases OZ;simp only[Option.some.injEq]at heq;rw[heq]at this;exact⟨k,this.int_inv.1⟩
  ·cases OZ
 have dY:lo.map a.eval=none→p=0:=λhv=>by
  have:lo=none:=by simpa using hv
  subst this;simp[mT]at OZ;omega
 have O1:∀v,hi.map a.eval=some v→∃k,v= .int k (q:Int):=λv hv=>by
  obtain⟨y,hy,rfl⟩:=Option.map_eq_some_iff.1 hv;subst hy;have:=hr.opd y;simp only[Option.map_some,mT]at B3;split at B3
  ·rename_i heq;cases heq
  ·rename_i k n heq;cases B3;simp only[Option.some.injEq]at heq;rw[heq]at this;exact⟨k,this.int_inv.1⟩
  ·cases B3
 have QX:hi.map a.eval=none→q=len:=λhv=>by
  have:hi=none:=by simpa using hv
  subst this;simp[mT]at B3;omega
 have hx:=hr.opd x;obtain⟨zZ,hl⟩:=zkB hr hx DV
 have QV:∀v,(Instr.sliceAt t (a.eval x) (lo.map a.eval) (hi.map a.eval) none).run C.P w= .ok v w→(execOp a.eval o).run C.P w= .ok (.value v) w:=λv h1=>by
  simp[execOp,ho,h1]
 split at hk
 ·rename_i e tn l OV;rw[OV]at hx DV;simp only[ZM,Option.some.injEq]at DV;cases KW:YH C e tn
  case false=>simp[KW]at hk
  simp only[KW,VC]at hk;obtain⟨ao,cap,h1,h2,h3,h4⟩:=hx.sl_inv2;rw[DV]at h1 h2;have zV:=zb2 (w:=w) hC hu KW Z1 dY O1 QX vX (Nat.le_trans RY h2) (ao:=ao);rw[←h1]at zV;refine kC (QV _ zV) (hr.after ?_ hk)
  by_cases Y9:q - p=0
  ·rw[Y9,List.take_zero];exact .slE _ _ _ (by omega)
  ·rw[if_neg (by omega)]
   rcases h4 with rfl|⟨b,off,rfl,LY,YV,PV⟩
   ·simp at DV;omega
   ·replace LY:((l.drop p).take (q - p))≠[]→b<iA.base∨LF w b tn:=λ_=>LY
    simp only[Option.map_some,BG];have Y8:((l.drop p).take (q - p)).length=q - p:=by simp;omega
    have:=VR.slC (w:=w) (ρ:=ρ) (bad:=qA outer ρ st.h) tn ((l.drop p).take (q - p)) b (off+p *sz tn) (cap - p)
     (λi j=>(w.cell? (at_ b (off+p *sz tn+i *sz tn+j))).getD undef) YV (by omega) (by omega) LY
     (fun i hi j hj=>by
      obtain⟨u,h5,h6⟩:=PV (p+i) (by omega) j hj;rw[show off+p *sz tn+i *sz tn+j=off+(p+i) *sz tn+j by rw[Nat.add_mul];omega,h5];rfl)
     (fun i hi j hj=>by
      obtain⟨u,h5,h6⟩:=PV (p+i) (by omega) j hj
      rw[show off+p *sz tn+i *sz tn+j=off+(p+i) *sz tn+j by rw[Nat.add_mul];omega,h5,Option.getD_some,
       zin l p (q - p) i (by omega) hi]
      exact h6)
    rw[Y8]at this;exact this
 ·rename_i s OV;rw[OV]at hx DV;simp only[ZM,Option.some.injEq]at DV;obtain⟨h1,h2⟩:=hx.str_inv;have oX:(⟨s.toArray⟩:ByteArray).size=s.length:=by simp[ByteArray.size]
  refine kC (QV (.string ⟨((s.drop p).take (q - p)).toArray⟩) ?_) (hr.after (.str _ (by simp;omega)) hk);rw[h1];have U2:=zjm (P:=C.P) (w:=w) false s.length s.length (lo.map a.eval) (hi.map a.eval) p q Z1 dY O1 (by rw[DV];exact QX) vX (by omega);simp[Instr.sliceAt,yF hu,Instr.slice,oX,U2,zqE]
 ·rename_i e r OV;rw[OV]at hx DV;split at hk
  case h_2=>cases hk
  rename_i tn l m AV;cases KW:YH C e tn
  case false=>simp[KW]at hk
  simp only[KW,VC]at hk;simp only[ZM,AV,Option.some.injEq]at DV;obtain⟨ri,hρ,JV⟩:=zJ hr AV;have JY:ri.n=l.length:=JV.1
  rcases hx.ow_inv hρ with⟨h1,h2,h3,h4⟩|⟨ao,h1,h2,h3⟩
  ·have zV:=zb2 (w:=w) hC hu KW Z1 dY O1 (λh=>by have:=QX h;omega) vX (show q≤ri.cap by omega) (ao:=some (at_ ri.b 0)) (len:=ri.n);rw[←h1]at zV;refine kC (QV _ zV) (hr.after (.ov r tn p (q - p) (ri.cap - p) _ ri hρ (by omega) ?_ (by omega) (by omega)) hk)
   by_cases Z9:ri.cap=p
   ·left;omega
   ·right;rw[if_neg Z9];refine⟨?_,h2,by omega⟩;simp[BG]
  ·have zV:=zb2 (w:=w) hC hu KW Z1 dY O1 (λh=>by have:=QX h;omega) vX (show q≤0 by omega) (ao:=ao) (len:=0);rw[←h1]at zV;exact kC (QV _ zV) (hr.after (.ov r tn p (q - p) (0 - p) _ ri hρ (by omega) (.inl ⟨by omega,by omega⟩) (by omega) (by unfold maxLen;omega)) hk)
 ·rename_i e r tn off len' OV;rw[OV]at hx DV;cases KW:YH C e tn
  case false=>simp[KW]at hk
  simp only[KW,VC]at hk;simp only[ZM,Option.some.injEq]at DV;obtain⟨ri,hρ⟩:=hx.ov_row;obtain⟨ao,cap,h1,h2,h3,h4,h5⟩:=hx.ov_inv hρ;have zV:=zb2 (w:=w) hC hu KW Z1 dY O1 (λh=>by have:=QX h;omega) vX (show q≤cap by omega) (ao:=ao) (len:=len');rw[←h1]at zV;have g1:q - p≤cap - p:=Nat.sub_le_sub_right (Nat.le_trans RY (by rw[←DV];exact h4)) p;have g2:cap - p≤maxLen:=Nat.le_trans (Nat.sub_le _ _) h5
  have g3:off+p+(q - p)≤ri.n:=by
   rw[Nat.add_assoc,Nat.add_sub_cancel' vX];exact Nat.le_trans (Nat.add_le_add_left (by rw[DV];exact RY) off) h2
  refine kC (QV _ zV) (hr.after (.ov r tn (off+p) (q - p) (cap - p) _ ri hρ g3 ?_ g1 g2) hk)
  rcases h3 with⟨h6,h7⟩|⟨rfl,h6,h7⟩
  ·left;omega
  ·by_cases Z9:cap=p
   ·left;omega
   ·right;rw[if_neg Z9];refine⟨?_,h6,by omega⟩;simp[BG,Nat.add_mul]
 ·cases hk
end
end Go.D

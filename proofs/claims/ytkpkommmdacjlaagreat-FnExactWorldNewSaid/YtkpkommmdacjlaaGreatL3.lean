/-
 One operation, continued: numbers, texts, parts of slices.
-/
import Derived.Test.YtkpkommmdacjlaaGreatL2
import Derived.Deep.Upon
set_option linter.all false
namespace Go.D
variable [aA]
omit [aA]in
def zaq(k:IntKind)(n:Int)(m:Nat)(h:FB k n):FB k (n.fdiv (2^m)):=by
 have hp:(0:Int)<2^m:=Int.pow_pos (by decide);rw[Int.fdiv_eq_ediv_of_nonneg _ (Int.le_of_lt hp)];obtain⟨h1,h2⟩:=h;have P5:k.min≤0:=by cases k<;>decide
 have pY:0≤k.max:=by cases k<;>decide
 by_cases hn:0≤n
 ·have a1:=Int.ediv_nonneg hn (Int.le_of_lt hp);have a2:=Int.ediv_le_self (2^m) hn;exact⟨by omega,by omega⟩
 ·have a1:n / 2^m<0:=Int.ediv_neg_of_neg_of_pos (by omega) hp
  have a2:n≤n / 2^m:=by
   rw[Int.le_ediv_iff_mul_le hp];have:1≤(2:Int)^m:=by omega
   have h3:=Int.mul_le_mul_of_nonpos_left (a:=n) (b:=2^m) (c:=1) (by omega) this;simpa using h3
  exact⟨by omega,by omega⟩
omit [aA]in
def zgb(k:IntKind)(n m:Int)(h:FB k n):FB k (n.tmod m):=by
 obtain⟨h1,h2⟩:=h;have P5:k.min≤0:=by cases k<;>decide
 have pY:0≤k.max:=by cases k<;>decide
 have e1:=Int.natAbs_tmod n m;have e2:=Nat.mod_le n.natAbs m.natAbs
 by_cases hn:0≤n
 ·have a1:=Int.tmod_nonneg m hn;exact⟨by omega,by omega⟩
 ·have e:n.tmod m= -((-n).tmod m):=by rw[Int.neg_tmod,Int.neg_neg]
  have a1:=Int.tmod_nonneg (a:= -n) m (by omega);exact⟨by omega,by omega⟩
section
variable {C:Cx} {w0:World} {outer:Nat→Prop} {own:Ow} {ρ:Nat→Option RI} {st st':St} {a:Act} {w:World} {h:Nat→Option gA}
variable {o:Oper} {i:Nat} (hr:AA C w0 outer own ρ st a w)
def zie{bad:Nat→Prop}{op:BinOp}{t:TypeId}{vx vy:Value}{dx dy d:V}(hx:VR w ρ bad vx dx)(hy:VR w ρ bad vy dy)
  (hd:WT op dx dy=some d) (x y:Operand):∃v,VR w ρ bad v d∧((do eqGuard op t x y vx vy;binOp op t vx vy):Sem Value).run C.P w= .ok v w:=by
 unfold WT at hd;split at hd
 ·rename_i k p k' q
  have WV:∀{α:Type} {y z:α},(bif decide (k=k')then some y else none)=some z→k=k'∧y=z:=λh=>by
   by_cases OW:k=k'
   ·simp[OW]at h;exact⟨OW,h⟩
   ·simp[OW]at h
  have OV:FB k p:=by cases hx;assumption
  have vZ:vx= .int k p:=by cases hx;rfl
  have mX:vy= .int k' q:=by cases hy;rfl
  subst vZ mX
  cases op<;>simp only at hd<;>first
   | (obtain⟨rfl,rfl⟩:=WV hd;refine⟨_, .int _ _ (QK _ _),?_⟩;simp[eqGuard,binOp,Op.intArith,Op.intBits];done)
   | (obtain⟨rfl,rfl⟩:=WV hd;refine⟨_, .bool _,?_⟩;simp[eqGuard,binOp,Op.intCmp];done)
   | (split at hd
      ·cases hd
      ·cases hd;rename_i hq;refine⟨_, .int _ _ (by first | exact QK _ _ | exact zaq _ _ _ OV),?_⟩;simp[eqGuard,binOp,Op.shift,hq];done)
   | (cases hd;done)
 ·rename_i p q;have vZ:vx= .string ⟨p.toArray⟩:=by cases hx;rfl
  have mX:vy= .string ⟨q.toArray⟩:=by cases hy;rfl
  subst vZ mX
  cases op<;>first
   | (cases hd;done)
   | (cases hd;refine⟨_, .bool _,?_⟩;simp[eqGuard,binOp,Op.stringOp];done)
 ·cases hd
def ziq{bad:Nat→Prop}{op:BinOp}{t:TypeId}{vx vy:Value}{dx dy:V}{R:Type}{K:V→Option R}{r:R}(hx:VR w ρ bad vx dx)(hy:VR w ρ bad vy dy)
  (hk:wI op dx dy K=some r) (x y:Operand):
  ∃d v,K d=some r∧VR w ρ bad v d∧((do eqGuard op t x y vx vy;binOp op t vx vy):Sem Value).run C.P w= .ok v w:=by
 unfold wI at hk;split at hk
 ·-- quo
  rename_i k p k' q
  by_cases OW:k=k'
  case neg=>simp[OW]at hk
  subst OW;cases hq:(q==0)
  case true=>simp[hq]at hk
  simp only[decide_true,cond_true,hq,cond_false]at hk;cases hx;cases hy;refine⟨_, .int k (k.wrap (p.tdiv q)),hk, .int _ _ (QK _ _),?_⟩;have:q≠0:=by simpa using hq
  simp[eqGuard,binOp,Op.intDiv,this]
 ·rename_i k p k' q
  by_cases OW:k=k'
  case neg=>simp[OW]at hk
  subst OW;cases hq:(q==0)
  case true=>simp[hq]at hk
  simp only[decide_true,cond_true,hq,cond_false]at hk;cases hx;cases hy;refine⟨_, .int k (p.tmod q),hk, .int _ _ (zgb _ _ _ (by assumption)),?_⟩;have:q≠0:=by simpa using hq
  simp[eqGuard,binOp,Op.intDiv,this]
 ·rename_i k p k' q
  by_cases hq:q<0
  case pos=>simp[hq]at hk
  simp only[hq,decide_false,cond_false]at hk;cases hx;cases hy;refine⟨_,_,hk, .int _ _ (QK _ _),?_⟩;simp[eqGuard,binOp,Op.shift,hq]
 ·rename_i k p k' q
  by_cases hq:q<0
  case pos=>simp[hq]at hk
  simp only[hq,decide_false,cond_false]at hk;cases hx;cases hy;refine⟨_,_,hk, .int _ _ (zaq _ _ _ (by assumption)),?_⟩;simp[eqGuard,binOp,Op.shift,hq]
 ·rename_i p q
  by_cases hq:p.length+q.length≤eA
  case neg=>simp[hq]at hk
  simp only[hq,decide_true,cond_true]at hk;cases hx;cases hy;have hl:eA≤1000000000000:=by unfold eA;decide
  refine⟨_, .string ⟨(p++q).toArray⟩,hk, .str _ (by simp[maxLen];omega),?_⟩
  have h1:¬(IntKind.i64.max<((p.length+q.length:Nat):Int)):=by
   simp only[IntKind.max,IntKind.signed,IntKind.bits];simp;omega
  have h2:(p.length:Int)+q.length≤IntKind.i64.max:=by
   simp only[IntKind.max,IntKind.signed,IntKind.bits];simp;omega
  have nX:(⟨p.toArray⟩:ByteArray).size=p.length:=by simp[ByteArray.size]
  have JZ:(⟨q.toArray⟩:ByteArray).size=q.length:=by simp[ByteArray.size]
  simp[eqGuard,binOp,Op.stringOp,ByteArray.mk_append_mk,nX,JZ];simp only[IntKind.max,IntKind.signed,IntKind.bits]at h2;simp at h2;omega
 ·split at hk
  case h_2=>cases hk
  rename_i d hd;obtain⟨v,h1,h2⟩:=zie (w:=w) hx hy hd (t:=t) x y;exact⟨d,v,hk,h1,h2⟩
end
end Go.D
namespace Go.D
variable [aA]
section
variable {C:Cx} {w0:World} {outer:Nat→Prop} {own:Ow} {ρ:Nat→Option RI} {st st':St} {a:Act} {w:World} {h:Nat→Option gA}
omit [aA]in
def zbk(n:Nat){P:Program}{t:TypeId}{k:IntKind}(hu:P.underlying t=some (.int k))(j:IntKind)(x y:Int):(Op.equalIn (n+1) t (.int j x) (.int j y)).run P w= .ok (x==y) w:=by
 rw[Op.equalIn];simp[BD hu]
omit [aA]in
def zaF(n:Nat){P:Program}{t:TypeId}(hu:P.underlying t=some .bool)(x y:Bool):(Op.equalIn (n+1) t (.bool x) (.bool y)).run P w= .ok (x==y) w:=by
 rw[Op.equalIn];simp[BD hu]
omit [aA]in
def QI{P:Program}{t:TypeId}(h1:MC P t=some false){vs:Array Value}{k:Nat}(hk:k<vs.size):(part t vs k).run P w= .ok (vs.getD k undef) w:=by
 rw[Array.getD_eq_getD_getElem?,Array.getElem?_eq_getElem hk];simp[part,JH h1,Array.getElem?_eq_getElem hk]
def LG(n:Nat)(xs ys:Array Value)(f:Field)(_:Option Bool×Unit):Sem (ForInStep (Option Bool×Unit)):=
 if f.name ≠ "_" then do
  let __do_lift ←part f.type xs f.offset;let __do_lift_1 ←part f.type ys f.offset;let __do_lift ←Op.equalIn n f.type __do_lift __do_lift_1
  if(!__do_lift)=true then pure (ForInStep.done (some false,()))
   else pure (ForInStep.yield (none,()))
 else pure (ForInStep.yield (none,()))
def zbS(n:Nat){P:Program}{bad:Nat→Prop}(xs ys:Array Value):∀(fl:List Field) (ks:List Bool) (k:Nat) (dxs dys:List V) (b:Bool),yG P k fl=some ks→KC ks dxs dys=some b→
  k+fl.length≤xs.size→k+fl.length≤ys.size→(∀j (hj:j<dxs.length),VR w ρ bad (xs.getD (k+j) undef) dxs[j])→(∀j (hj:j<dys.length),VR w ρ bad (ys.getD (k+j) undef) dys[j])→
  (forIn fl ((none,()):Option Bool×Unit) (LG (n+1) xs ys)).run P w= .ok (bif b then(none,())else(some false,())) w
 | [],ks,k,dxs,dys,b,hf,he,_,_,_,_=>by
  simp only[yG,Option.some.injEq]at hf;subst hf;cases dxs<;>cases dys<;>simp[KC]at he
  subst he;simp
 | f :: fl,ks,k,dxs,dys,b,hf,he,hx,hy,xY,yY=>by
  simp only[yG]at hf
  cases hb : (f.name != "_" && Nat.beq f.offset k)
  case false=>simp[hb]at hf
  simp only[hb,cond_true]at hf;simp only[Bool.and_eq_true,bne_iff_ne,ne_eq]at hb;obtain⟨PV,xW⟩:=hb;have xW:=Nat.eq_of_beq_eq_true xW;simp only[List.length_cons]at hx hy
  have main:∀(dx dy:V) (dxs' dys':List V) (ks':List Bool) (q b':Bool),dxs=dx :: dxs'→dys=dy :: dys'→yG P (k+1) fl=some ks'→MC P f.type=some false→
    (Op.equalIn (n+1) f.type (xs.getD k undef) (ys.getD k undef)).run P w= .ok q w→KC ks' dxs' dys'=some b'→b=(bif q then b' else false)→
    (forIn (f :: fl) ((none,()):Option Bool×Unit) (LG (n+1) xs ys)).run P w= .ok (bif b then(none,())else(some false,())) w:=λdx dy dxs' dys' ks' q b' L9 M9 AV RV h1 h2 h3=>by
   subst L9 M9;have Q5:=QI (P:=P) (w:=w) RV (show k<xs.size by omega);have R5:=QI (P:=P) (w:=w) RV (show k<ys.size by omega)
   have ih:=zbS n xs ys fl ks' (k+1) dxs' dys' b' AV h2 (by omega) (by omega)
    (λj hj=>by have:=xY (j+1) (by simp;omega);rwa [show k+(j+1)=k+1+j by omega]at this)
    (λj hj=>by have:=yY (j+1) (by simp;omega);rwa [show k+(j+1)=k+1+j by omega]at this)
   rw[List.forIn_cons,Sem.run_bind]
   have hb:(LG (n+1) xs ys f (none,())).run P w= .ok (bif q then ForInStep.yield (none,())else ForInStep.done (some false,())) w:=by
    unfold LG;rw[if_pos PV,xW];simp only[Sem.run_bind,Q5,R5,Result.andThen_ok,h1];cases q<;>simp
   rw[hb,Result.andThen_ok];subst h3;cases q with
   | false=>simp
   | true=>simpa using ih
  split at hf
  ·rename_i ks' hu AV;cases hf;unfold KC at he;split at he
   ·simp_all
   ·simp_all
   ·rename_i ks'' p xs' q ys' h1;cases h1;obtain⟨b',h3,h4⟩:=Option.map_eq_some_iff.1 he;have PW:=xY 0 (by simp);have vX:=yY 0 (by simp);simp only[Nat.add_zero,List.getElem_cons_zero]at PW vX;have e1:xs.getD k undef= .bool p:=by generalize xs.getD k undef=v at PW;cases PW;rfl
    have e2:ys.getD k undef= .bool q:=by generalize ys.getD k undef=v at vX;cases vX;rfl
    exact main _ _ _ _ _ (p==q) b' rfl rfl AV (by simp[MC,hu]) (by rw[e1,e2];exact zaF n hu p q) h3 h4.symm
   ·cases he
  ·rename_i ki ks' hu AV;cases hf;unfold KC at he;split at he
   ·simp_all
   ·rename_i ks'' j p xs' k' q ys' h1;cases h1
    by_cases zY:j=k'
    case neg=>simp[zY]at he
    subst zY;simp only[decide_true,cond_true,Option.map_eq_some_iff]at he;obtain⟨b',h3,h4⟩:=he;have PW:=xY 0 (by simp);have vX:=yY 0 (by simp);simp only[Nat.add_zero,List.getElem_cons_zero]at PW vX;have e1:xs.getD k undef= .int j p:=by generalize xs.getD k undef=v at PW;cases PW;rfl
    have e2:ys.getD k undef= .int j q:=by generalize ys.getD k undef=v at vX;cases vX;rfl
    exact main _ _ _ _ _ (p==q) b' rfl rfl AV (by simp[MC,hu]) (by rw[e1,e2];exact zbk n hu j p q) h3 h4.symm
   ·rename_i h1;cases h1
   ·cases he
  ·cases hf
omit [aA]in
def sR{P:Program}:∀(fl:List Field) (k:Nat) (ks:List Bool),yG P k fl=some ks→ks.length=fl.length
 | [],_,_,h=>by simp[yG]at h;subst h;rfl
 | f :: fl,k,ks,h=>by
  simp only[yG]at h
  cases hb : (f.name != "_" && Nat.beq f.offset k)
  case false=>simp[hb]at h
  simp only[hb,cond_true]at h;split at h
  ·rename_i ks' _ h1;cases h;simp[sR fl _ _ h1]
  ·rename_i ks' _ h1;cases h;simp[sR fl _ _ h1]
  ·cases h
omit [aA]in
def wO:∀(ks:List Bool) (xs ys:List V) (b:Bool),KC ks xs ys=some b→xs.length=ks.length∧ys.length=ks.length
 | [],xs,ys,b,h=>by cases xs<;>cases ys<;>simp[KC]at h;exact⟨rfl,rfl⟩
 | k :: ks,xs,ys,b,h=>by
  unfold KC at h;split at h
  ·rename_i h1;cases h1
  ·rename_i ks' j p xs' k' q ys' h1;cases h1;cases zY:decide (j=k')
   ·simp[zY]at h
   ·simp only[zY,cond_true,Option.map_eq_some_iff]at h;obtain⟨b',h2,_⟩:=h;have:=wO _ _ _ _ h2;simp[this]
  ·rename_i ks' p xs' q ys' h1;cases h1;obtain⟨b',h2,_⟩:=Option.map_eq_some_iff.1 h;have:=wO _ _ _ _ h2;simp[this]
  ·cases h
omit [aA]in
def wR:∀(k1 ks:List Bool) (xs ys:List V) (b:Bool),KC (k1++ks) xs ys=some b→
  ∃b1 b2,KC k1 (xs.take k1.length) (ys.take k1.length)=some b1∧KC ks (xs.drop k1.length) (ys.drop k1.length)=some b2∧b=(bif b1 then b2 else false)
 | [],ks,xs,ys,b,h=>⟨true,b,by simp[KC],by simpa using h,rfl⟩
 | k :: k1,ks,xs,ys,b,h=>by
  rw[List.cons_append]at h;unfold KC at h;split at h
  ·rename_i h1;cases h1
  ·rename_i ks' j p xs' k' q ys' h1;cases h1;cases zY:decide (j=k')
   ·simp[zY]at h
   ·simp only[zY,cond_true,Option.map_eq_some_iff]at h;obtain⟨b',h2,h3⟩:=h;obtain⟨b1,b2,e1,e2,e3⟩:=wR _ _ _ _ _ h2;refine⟨bif p==q then b1 else false,b2,?_,by simpa using e2,?_⟩
    ·simp only[List.length_cons,List.take_succ_cons,KC,zY,cond_true,e1,Option.map_some]
    ·rw[←h3,e3];cases(p==q)<;>cases b1<;>rfl
  ·rename_i ks' p xs' q ys' h1;cases h1;obtain⟨b',h2,h3⟩:=Option.map_eq_some_iff.1 h;obtain⟨b1,b2,e1,e2,e3⟩:=wR _ _ _ _ _ h2;refine⟨bif p==q then b1 else false,b2,?_,by simpa using e2,?_⟩
   ·simp only[List.length_cons,List.take_succ_cons,KC,e1,Option.map_some]
   ·rw[←h3,e3];cases(p==q)<;>cases b1<;>rfl
  ·cases h
omit [aA]in
def za1{P:Program}{t:TypeId}(h1:MC P t=some true){n:Nat}(h2:BC P t=some n){vs:Array Value}{k:Nat}(hk:k+n≤vs.size):
  (part t vs k).run P w= .ok (.agg (vs.extract k (k+n))) w:=by
 have:¬vs.size<k+n:=by omega
 simp[part,JH h1,YF h2]
def zfy(n:Nat){P:Program}{bad:Nat→Prop}{t:TypeId}{gs:Array Field}(hu:P.underlying t=some (.struct gs))(hZ:P.stoodInHeld t=false)(xs ys:Array Value)(ks:List Bool)(dxs dys:List V)(b:Bool)
  (hf:yG P 0 gs.toList=some ks) (he:KC ks dxs dys=some b) (hx:dxs.length=xs.size) (hy:dys.length=ys.size)
  (xY:∀j (hj:j<dxs.length),VR w ρ bad (xs.getD j undef) dxs[j]) (yY:∀j (hj:j<dys.length),VR w ρ bad (ys.getD j undef) dys[j]):
  (Op.equalIn (n+2) t (.agg xs) (.agg ys)).run P w= .ok b w:=by
 have tV:=sR _ _ _ hf;obtain⟨l1,l2⟩:=wO _ _ _ _ he;have LY:=zbS n (P:=P) (w:=w) xs ys gs.toList ks 0 dxs dys b hf he (by omega) (by omega) (by simpa using xY) (by simpa using yY);rw[Op.equalIn];simp only[Sem.run_bind,BD hu,Result.andThen_ok,run_program,hZ,Bool.false_eq_true,if_false];rw[←Array.forIn_toList];change ((forIn gs.toList ((none,()):Option Bool×Unit) (LG (n+1) xs ys)).run P w).andThen _=_;rw[LY,Result.andThen_ok];cases b<;>simp
def zaU(n:Nat){P:Program}{bad:Nat→Prop}(xs ys:Array Value):∀(fl:List Field) (ks:List Bool) (k:Nat) (dxs dys:List V) (b:Bool),HH P k fl=some ks→KC ks dxs dys=some b→
  k+dxs.length≤xs.size→k+dys.length≤ys.size→(∀j (hj:j<dxs.length),VR w ρ bad (xs.getD (k+j) undef) dxs[j])→(∀j (hj:j<dys.length),VR w ρ bad (ys.getD (k+j) undef) dys[j])→
  (forIn fl ((none,()):Option Bool×Unit) (LG (n+2) xs ys)).run P w= .ok (bif b then(none,())else(some false,())) w
 | [],ks,k,dxs,dys,b,hf,he,_,_,_,_=>by
  simp only[HH,Option.some.injEq]at hf;subst hf;cases dxs<;>cases dys<;>simp[KC]at he
  subst he;simp
 | f :: fl,ks,k,dxs,dys,b,hf,he,hx,hy,xY,yY=>by
  simp only[HH]at hf
  cases hb : (f.name != "_" && Nat.beq f.offset k)
  case false=>simp[hb]at hf
  simp only[hb,cond_true]at hf;simp only[Bool.and_eq_true,bne_iff_ne,ne_eq]at hb;obtain⟨PV,xW⟩:=hb;have xW:=Nat.eq_of_beq_eq_true xW
  have main:∀(m:Nat) (ks':List Bool) (q b':Bool) (px py:Value),HH P (k+m) fl=some ks'→m≤dxs.length→m≤dys.length→
    (part f.type xs k).run P w= .ok px w→(part f.type ys k).run P w= .ok py w→
    (Op.equalIn (n+2) f.type px py).run P w= .ok q w→KC ks' (dxs.drop m) (dys.drop m)=some b'→b=(bif q then b' else false)→
    (forIn (f :: fl) ((none,()):Option Bool×Unit) (LG (n+2) xs ys)).run P w= .ok (bif b then(none,())else(some false,())) w:=λm ks' q b' px py AV cX D1 Q5 R5 h1 h2 h3=>by
   have ih:=zaU n xs ys fl ks' (k+m) (dxs.drop m) (dys.drop m) b' AV h2 (by simp;omega) (by simp;omega)
    (λj hj=>by have:=xY (m+j) (by simp at hj;omega);rw[List.getElem_drop];rwa [show k+(m+j)=k+m+j by omega]at this)
    (λj hj=>by have:=yY (m+j) (by simp at hj;omega);rw[List.getElem_drop];rwa [show k+(m+j)=k+m+j by omega]at this)
   rw[List.forIn_cons,Sem.run_bind]
   have hb:(LG (n+2) xs ys f (none,())).run P w= .ok (bif q then ForInStep.yield (none,())else ForInStep.done (some false,())) w:=by
    unfold LG;rw[if_pos PV,xW];simp only[Sem.run_bind,Q5,R5,Result.andThen_ok,h1];cases q<;>simp
   rw[hb,Result.andThen_ok];subst h3;cases q with
   | false=>simp
   | true=>simpa using ih
  split at hf
  ·rename_i hu;split at hf
   case h_2=>cases hf
   rename_i ks' AV;cases hf;unfold KC at he;split at he
   ·simp_all
   ·simp_all
   ·rename_i ks'' p xs' q ys' h1;cases h1;obtain⟨b',h3,h4⟩:=Option.map_eq_some_iff.1 he;have PW:=xY 0 (by simp);have vX:=yY 0 (by simp);simp only[Nat.add_zero,List.getElem_cons_zero]at PW vX;have e1:xs.getD k undef= .bool p:=by generalize xs.getD k undef=v at PW;cases PW;rfl
    have e2:ys.getD k undef= .bool q:=by generalize ys.getD k undef=v at vX;cases vX;rfl
    have RV:MC P f.type=some false:=by simp[MC,hu]
    simp only[List.length_cons]at hx hy;exact main 1 ks' (p==q) b' _ _ AV (by simp) (by simp) (QI RV (show k<xs.size by omega)) (QI RV (show k<ys.size by omega)) (by rw[e1,e2];exact zaF (n+1) hu p q) (by simpa using h3) h4.symm
   ·cases he
  ·rename_i ki hu;split at hf
   case h_2=>cases hf
   rename_i ks' AV;cases hf;unfold KC at he;split at he
   ·simp_all
   ·rename_i ks'' j p xs' k' q ys' h1;cases h1
    by_cases zY:j=k'
    case neg=>simp[zY]at he
    subst zY;simp only[decide_true,cond_true,Option.map_eq_some_iff]at he;obtain⟨b',h3,h4⟩:=he;have PW:=xY 0 (by simp);have vX:=yY 0 (by simp);simp only[Nat.add_zero,List.getElem_cons_zero]at PW vX;have e1:xs.getD k undef= .int j p:=by generalize xs.getD k undef=v at PW;cases PW;rfl
    have e2:ys.getD k undef= .int j q:=by generalize ys.getD k undef=v at vX;cases vX;rfl
    have RV:MC P f.type=some false:=by simp[MC,hu]
    simp only[List.length_cons]at hx hy;exact main 1 ks' (p==q) b' _ _ AV (by simp) (by simp) (QI RV (show k<xs.size by omega)) (QI RV (show k<ys.size by omega)) (by rw[e1,e2];exact zbk (n+1) hu j p q) (by simpa using h3) h4.symm
   ·rename_i h1;cases h1
   ·cases he
  ·rename_i gs hu;split at hf
   case h_2=>cases hf
   rename_i k1 KZ;cases hg:(!(P.stoodInHeld f.type)&&decide (BC P f.type=some k1.length))
   case false=>simp[hg]at hf
   simp only[hg,cond_true]at hf;simp only[Bool.and_eq_true,Bool.not_eq_true',decide_eq_true_eq]at hg;split at hf
   case h_2=>cases hf
   rename_i ks' AV;cases hf;obtain⟨b1,b2,e1,e2,e3⟩:=wR _ _ _ _ _ he;obtain⟨l1,l2⟩:=wO _ _ _ _ he;simp only[List.length_append]at l1 l2;have RV:MC P f.type=some true:=by simp[MC,hu]
   refine main k1.length ks' b1 b2 _ _ AV (by omega) (by omega) (za1 RV hg.2 (by omega)) (za1 RV hg.2 (by omega)) ?_ e2 e3;refine zfy n (ρ:=ρ) (bad:=bad) hu hg.1 _ _ k1 _ _ b1 KZ e1 (by simp;omega) (by simp;omega) (λj hj=>?_) (λj hj=>?_)
   ·have:=xY j (by simp at hj;omega);rw[List.getElem_take];rw[Array.getD_eq_getD_getElem?]at this⊢;have hq:k+j<xs.size:=by simp at hj;omega
    rw[Array.getElem?_extract_of_lt (by simp at hj;omega)];simpa[Array.getElem?_eq_getElem hq]using this
   ·have:=yY j (by simp at hj;omega);rw[List.getElem_take];rw[Array.getD_eq_getD_getElem?]at this⊢;have hq:k+j<ys.size:=by simp at hj;omega
    rw[Array.getElem?_extract_of_lt (by simp at hj;omega)];simpa[Array.getElem?_eq_getElem hq]using this
  ·cases hf
variable {o:Oper} {i:Nat} (hr:AA C w0 outer own ρ st a w)
include hr
def zho(op:BinOp)(t t':TypeId)(x y:Operand)(ho:o.op= .binOp op t x y t')(hk:OA C i o st some=some st'):yB C.P o a w (tB C w0 outer own i ρ st'):=by
 simp only[OA,ho]at hk;have hx:=hr.opd x;have hy:=hr.opd y;split at hk
 ·rename_i dxs dys h1 h2;rw[h1]at hx;rw[h2]at hy;split at hk
  case h_2=>cases hk
  rename_i ks oW;split at hk
  case h_2=>cases hk
  rename_i b hb;unfold oV at oW;split at oW
  case h_2=>cases oW
  rename_i fs hu;cases hg:(!(C.P.stoodInHeld t)&&!(C.P.eqGuardType C.P.depth t))
  case false=>simp[hg]at oW
  simp only[hg,cond_true]at oW;simp only[Bool.and_eq_true,Bool.not_eq_true']at hg;cases OV:a.eval x<;>rw[OV]at hx<;>cases hx
  cases LZ:a.eval y<;>rw[LZ]at hy<;>cases hy
  rename_i xs E1 vZ ys v4 mX;have LY:=zaU 9997 (P:=C.P) (w:=w) xs ys fs.toList ks 0 dxs dys b oW hb (by omega) (by omega) (by simpa using vZ) (by simpa using mX)
  have heq:(Op.equal t (.agg xs) (.agg ys)).run C.P w= .ok b w:=by
   unfold Op.equal Op.maxDepth;rw[Op.equalIn];simp only[Sem.run_bind,BD hu,Result.andThen_ok,run_program,hg.1,Bool.false_eq_true,if_false];rw[←Array.forIn_toList];change ((forIn fs.toList ((none,()):Option Bool×Unit) (LG 9999 xs ys)).run C.P w).andThen _=_;rw[LY,Result.andThen_ok];cases b<;>simp
  have B0:∀op',(eqGuard op' t x y (.agg xs) (.agg ys)).run C.P w= .ok () w:=λop'=>by
   unfold eqGuard;split<;>simp[hg.2]
  cases op<;>first
   | (cases hk;done)
   | (refine bB (w':=w) ?_ (hr.after (.bool _) hk)
      simp[execOp,ho,OV,LZ,B0,binOp,heq];done)
 ·rename_i p q h1 h2;rw[h1]at hx;rw[h2]at hy;split at hk
  case h_2=>cases hk
  rename_i hu;cases OV:a.eval x<;>rw[OV]at hx<;>cases hx
  cases LZ:a.eval y<;>rw[LZ]at hy<;>cases hy
  have heq:(Op.equal t (.bool p) (.bool q)).run C.P w= .ok (p==q) w:=by
   unfold Op.equal Op.maxDepth;rw[Op.equalIn];simp[BD hu]
  cases op<;>first
   | (cases hk;done)
   | (refine bB (w':=w) ?_ (hr.after (.bool _) hk)
      simp[execOp,ho,OV,LZ,eqGuard,binOp,heq];done)
 ·rename_i b h1 h2;rw[h1]at hx;rw[h2]at hy;split at hk
  case h_2=>cases hk
  rename_i hu
  have heq:(Op.equal t (a.eval x) .nilIface).run C.P w= .ok b w:=by
   unfold Op.equal Op.maxDepth;cases OV:a.eval x<;>rw[OV]at hx<;>cases hx<;>rw[Op.equalIn]<;>simp[BD hu]
  cases LZ:a.eval (.const _)<;>rw[LZ]at hy<;>cases hy
  cases OV:a.eval x<;>rw[OV]at hx heq<;>cases hx<;>cases op<;>first
   | (cases hk;done)
   | (refine bB (w':=w) ?_ (hr.after (.bool _) hk)
      simp[execOp,ho,OV,LZ,eqGuard,binOp,heq];done)
 ·obtain⟨d,v,h3,h4,h5⟩:=ziq (C:=C) hx hy hk (t:=t) x y;refine bB (v:=v) (w':=w) ?_ (hr.after h4 h3)
  have S5:((eqGuard op t x y (a.eval x) (a.eval y)).run C.P w).andThen (λ_ w'=>(binOp op t (a.eval x) (a.eval y)).run C.P w')= .ok v w:=by
   rw[←Sem.run_bind];exact h5
  simp only[execOp,ho,Sem.run_bind,Sem.run_pure];rw[S5];rfl
end
end Go.D
namespace Go.D
variable [aA]
section
variable {C:Cx} {w0:World} {outer:Nat→Prop} {own:Ow} {ρ:Nat→Option RI} {st st':St} {a:Act} {w:World} {h:Nat→Option gA}
def VR.ow_inv{bad:Nat→Prop}{v:Value}{r:Nat}{ri:RI}(h:VR w ρ bad v (.ow r))(hρ:ρ r=some ri):
  (v= .slice (some (iA ri.b 0)) ri.n ri.cap∧ri.nl=false∧ri.n≤ri.cap∧ri.cap≤maxLen)∨(∃ao,v= .slice ao 0 0∧ri.nl=true∧ri.n=0):=by
 cases h with
 | ow _ ri' h1 h2 h3 h4=>rw[hρ]at h1;cases h1;exact .inl ⟨rfl,h4,h2,h3⟩
 | owN _ ri' ao h1 h2 h3=>rw[hρ]at h1;cases h1;exact .inr ⟨ao,rfl,h3,h2⟩
def VR.ov_inv{bad:Nat→Prop}{v:Value}{r off len:Nat}{t:TN}{ri:RI}(h:VR w ρ bad v (.ov r t off len))(hρ:ρ r=some ri):
  ∃ao cap,v= .slice ao len cap∧off+len≤ri.n∧(len=0∧cap=0∨ao=some (iA ri.b (off *sz t))∧ri.nl=false∧off+cap≤ri.cap)∧len≤cap∧cap≤maxLen:=by
 cases h with
 | ov _ _ _ _ cap ao ri' h1 h2 h3 h4 h5=>rw[hρ]at h1;cases h1;exact⟨ao,cap,rfl,h2,h3,h4,h5⟩
def VR.ov_row{bad:Nat→Prop}{v:Value}{r off len:Nat}{t:TN}(h:VR w ρ bad v (.ov r t off len)):∃ri,ρ r=some ri:=by
 cases h with
 | ov _ _ _ _ cap ao ri' h1 h2 h3 h4 h5=>exact⟨_,h1⟩
def VR.bp_inv{bad:Nat→Prop}{v:Value}{r off:Nat}(h:VR w ρ bad v (.bp r off)):∃ri,ρ r=some ri∧v= .pointer (some (iA ri.b off))∧ri.nl=false:=by
 cases h with
 | bp _ _ ri h1 h2=>exact⟨ri,h1,rfl,h2⟩
def VR.sl_inv{bad:Nat→Prop}{v:Value}{t:TN}{l:List (El t)}(h:VR w ρ bad v (.sl t l)):
  ∃ao cap,v= .slice ao l.length cap∧l.length≤cap∧cap≤maxLen∧(l=[]∨∃b off,ao=some (iA b off)∧¬bad b∧
   ∀i (hi:i<l.length) j,j<sz t→∃u,w.cell? (iA b (off+i *sz t+j))=some u∧VR w ρ bad u ((enc t l[i]).getD j .undef)):=by
 cases h with
 | slE _ ao cap h=>exact⟨ao,cap,rfl,Nat.zero_le _,h, .inl rfl⟩
 | slC _ _ b off cap u hb hl hc he hu hv=>exact⟨_,cap,rfl,hl,hc, .inr ⟨b,off,rfl,hb,λi hi j hj=>⟨_,hu i hi j hj,hv i hi j hj⟩⟩⟩
def VR.sl_inv2{bad:Nat→Prop}{v:Value}{t:TN}{l:List (El t)}(h:VR w ρ bad v (.sl t l)):
  ∃ao cap,v= .slice ao l.length cap∧l.length≤cap∧cap≤maxLen∧(l=[]∨∃b off,ao=some (iA b off)∧(b<aA.base∨ID w b t)∧¬bad b∧
   ∀i (hi:i<l.length) j,j<sz t→∃u,w.cell? (iA b (off+i *sz t+j))=some u∧VR w ρ bad u ((enc t l[i]).getD j .undef)):=by
 cases h with
 | slE _ ao cap h=>exact⟨ao,cap,rfl,Nat.zero_le _,h, .inl rfl⟩
 | slC _ _ b off cap u hb hl hc he hu hv=>
  by_cases h0:l=[]
  ·exact⟨_,cap,rfl,hl,hc, .inl h0⟩
  ·exact⟨_,cap,rfl,hl,hc, .inr ⟨b,off,rfl,he h0,hb,λi hi j hj=>⟨_,hu i hi j hj,hv i hi j hj⟩⟩⟩
def VR.int_inv{bad:Nat→Prop}{v:Value}{k:IntKind}{n:Int}(h:VR w ρ bad v (.int k n)):v= .int k n∧FB k n:=by
 cases h with
 | int _ _ h=>exact⟨rfl,h⟩
def VR.str_inv{bad:Nat→Prop}{v:Value}{s:List UInt8}(h:VR w ρ bad v (.str s)):v= .string ⟨s.toArray⟩∧s.length≤maxLen:=by
 cases h with
 | str _ h=>exact⟨rfl,h⟩
def aQ{e:TypeId}{t:TN}(hC:VC C)(h:nF C e t=true):BC C.P e=some (sz t):=by
 unfold nF at h;split at h
 ·rename_i t' h1;have:t'=t:=by simpa using h
  subst this;obtain⟨i,z,h2,h3,_⟩:=hC.ok e t' h1;simp[BC,h2,h3]
 ·cases h
omit [aA]in
def zaj{α:Type}{l:List α}{n:Int}{x:α}(h:vA l n=some x):0≤n∧∃hk:n.toNat<l.length,l[n.toNat]=x:=by
 unfold vA at h;split at h
 ·rename_i h0;obtain⟨h1,h2⟩:=List.getElem?_eq_some_iff.1 h;exact⟨h0,h1,h2⟩
 ·cases h
omit [aA]in
def UR{t e:TypeId}{s:Nat}{b off len cap:Nat}{k:IntKind}{n:Int}(hu:C.P.underlying t=some (.slice e))(hs:BC C.P e=some s)(h0:0≤n)(h1:n<(len:Int)):
  (Instr.indexAt t (.slice (some (iA b off)) len cap) (.int k n)).run C.P w= .ok (.pointer (some (iA b (off+n.toNat *s)))) w:=by
 simp[Instr.indexAt,asIntOf,BD hu,h0,h1,YF hs,uD]
omit [aA]in
def CS{R:Type}{f:Nat→Option R}{i:Int}{r:R}:∀(n k:Nat),fG f i k n=some r→∃j,i=((k+j:Nat):Int)∧j<n∧f (k+j)=some r
 | 0,k,h=>by simp[fG]at h
 | n+1,k,h=>by
  simp only[fG]at h;cases hb:(i==(k:Int))
  ·simp only[hb,cond_false]at h;obtain⟨j,h1,h2,h3⟩:=CS n (k+1) h;exact⟨j+1,by rw[h1];congr 1;omega,by omega,by rw[show k+(j+1)=k+1+j by omega];exact h3⟩
  ·simp only[hb,cond_true]at h;exact⟨0,by simpa using hb,by omega,by simpa using h⟩
variable {o:Oper} {i:Nat} (hr:AA C w0 outer own ρ st a w)
include hr
def zep(hC:VC C)(t:TypeId)(x y:Operand)(ho:o.op= .indexAddr t x y)(hk:OA C i o st some=some st'):yB C.P o a w (tB C w0 outer own i ρ st'):=by
 simp only[OA,ho]at hk;have hx:=hr.opd x;have hy:=hr.opd y;split at hk
 case h_2=>cases hk
 rename_i kk n C2;rw[C2]at hy;have mX:=hy.int_inv.1;split at hk
 ·rename_i e t' l hu HV;rw[HV]at hx;cases jW:nF C e t'
  case false=>simp[jW]at hk
  simp only[jW,iB,Option.bind_eq_some_iff]at hk;obtain⟨z,hz,hk⟩:=hk;obtain⟨h0,vV,rfl⟩:=zaj hz;have xV:=aQ hC jW;obtain⟨ao,cap,OV,_,_,hl⟩:=hx.sl_inv
  rcases hl with rfl | ⟨b,off,rfl,hb,wV⟩
  ·simp at vV
  ·refine bB (v:= .pointer (some (iA b (off+n.toNat *sz t')))) (w':=w) ?_ (hr.after ?_ hk)
   ·simp[execOp,ho,OV,mX,UR hu xV h0 (show n<(l.length:Int) by omega)]
   ·have:=VR.fp (w:=w) (ρ:=ρ) (bad:=bA outer ρ st.h) (enc t' l[n.toNat]) 0 b (off+n.toNat *sz t') (λj=>(w.cell? (iA b (off+n.toNat *sz t'+j))).getD undef) (by rw[WA];exact xF _) hb
     (fun j hj=>by
      rw[WA]at hj;obtain⟨u,h1,_⟩:=wV _ vV j hj;rw[h1];rfl)
     (fun j hj=>by
      obtain⟨u,h1,h2⟩:=wV _ vV j (by rw[←WA t' l[n.toNat]];exact hj);rw[h1,Option.getD_some];rwa [vE _ _ _ hj]at h2)
    rwa [Nat.add_zero]at this
 ·rename_i e r hu HV;rw[HV]at hx;split at hk
  case h_2=>cases hk
  rename_i t' l m sV;cases jW:nF C e t'
  case false=>simp[jW]at hk
  simp only[jW,iB]at hk;cases hb:(decide (0≤n)&&decide (n<(l.length:Int)))
  case false=>simp[hb]at hk
  simp only[hb,cond_true]at hk;simp only[Bool.and_eq_true,decide_eq_true_eq]at hb;have xV:=aQ hC jW;obtain⟨ri,hρ,FV⟩:=jG hr sV;have RX:ri.n=l.length:=FV.1
  rcases hx.ow_inv hρ with⟨OV,CV,_,_⟩ | ⟨ao,OV,CV,C0⟩
  ·have qV:=UR (w:=w) (cap:=ri.cap) (b:=ri.b) (off:=0) (k:=kk) hu xV hb.1 (show n<(ri.n:Int) by omega);refine bB (v:= .pointer (some (iA ri.b (0+n.toNat *sz t')))) (w':=w) ?_ (hr.after ?_ hk)
   ·simp[execOp,ho,OV,mX,qV]
   ·rw[Nat.zero_add];exact .ep _ _ _ 0 _ hρ CV
  ·omega
 ·rename_i e r t' off len hu HV;rw[HV]at hx;cases jW:nF C e t'
  case false=>simp[jW]at hk
  simp only[jW,iB]at hk;cases hb:(decide (0≤n)&&decide (n<(len:Int)))
  case false=>simp[hb]at hk
  simp only[hb,cond_true]at hk;simp only[Bool.and_eq_true,decide_eq_true_eq]at hb;have xV:=aQ hC jW;obtain⟨ri,hρ⟩:=hx.ov_row;obtain⟨ao,cap,OV,_,N9,_,_⟩:=hx.ov_inv hρ
  rcases N9 with⟨h0,_⟩ | ⟨rfl,CV,_⟩
  ·omega
  ·have qV:=UR (w:=w) (cap:=cap) (b:=ri.b) (off:=off *sz t') (k:=kk) hu xV hb.1 hb.2;refine bB (v:= .pointer (some (iA ri.b (off *sz t'+n.toNat *sz t')))) (w':=w) ?_ (hr.after ?_ hk)
   ·simp[execOp,ho,OV,mX,qV]
   ·rw[←Nat.add_mul];exact .ep _ _ _ 0 _ hρ CV
 ·rename_i m e r o1 hu HV;rw[HV]at hx;split at hk
  case h_2=>cases hk
  rename_i xV;obtain⟨j,vW,MV,hk⟩:=CS _ _ hk;rw[Nat.zero_add]at vW hk;obtain⟨ri,hρ,OV,CV⟩:=hx.bp_inv;refine bB (v:= .pointer (some (iA ri.b (o1+j)))) (w':=w) ?_ (hr.after (.bp _ _ _ hρ CV) hk);have h0:0≤n:=by omega
  have h1:n<(m:Int):=by omega
  have h2:n.toNat=j:=by omega
  simp[execOp,ho,OV,mX,Instr.indexAt,asIntOf,BD hu,Instr.sureAddr,h0,h1,YF xV,uD,h2]
 ·cases hk
def zgN(t:TypeId)(x y:Operand)(ho:o.op= .index t x y)(hk:OA C i o st some=some st'):yB C.P o a w (tB C w0 outer own i ρ st'):=by
 simp only[OA,ho]at hk;have hx:=hr.opd x;have hy:=hr.opd y;split at hk
 ·rename_i kk n s C2 hu HV;rw[HV]at hx;rw[C2]at hy;have mX:=hy.int_inv.1;obtain⟨OV,rY⟩:=hx.str_inv;obtain⟨z,hz,hk⟩:=Option.bind_eq_some_iff.1 hk;obtain⟨h0,vV,rfl⟩:=zaj hz;refine bB (v:= .int .u8 (s[n.toNat].toNat:Int)) (w':=w) ?_ (hr.after (.int _ _ ?_) hk)
  ·have h1:n.toNat<(⟨s.toArray⟩:ByteArray).size:=by simpa[ByteArray.size]using vV
   simp[execOp,ho,OV,mX,Instr.index,asIntOf,BD hu,h0,ByteArray.getElem?_lt' _ _ h1];rfl
  ·have:=s[n.toNat].toNat_lt;simp only[FB,IntKind.min,IntKind.max,IntKind.signed,IntKind.bits];simp;omega
 ·rename_i kk n m e cs C2 hu HV;rw[HV]at hx;rw[C2]at hy;have mX:=hy.int_inv.1;split at hk
  case h_2=>cases hk
  rename_i xV RV;obtain⟨j,vW,MV,hk⟩:=CS _ _ hk;rw[Nat.zero_add]at vW hk;split at hk
  case h_2=>cases hk
  rename_i c r' hd
  have vV:j<cs.length:=by
   rcases Nat.lt_or_ge j cs.length with h | h
   ·exact h
   ·rw[List.drop_eq_nil_of_le h]at hd;cases hd
  have pZ:cs[j]=c:=by
   rw[List.drop_eq_getElem_cons vV]at hd;exact(List.cons.inj hd).1
  cases OV:a.eval x<;>rw[OV]at hx<;>cases hx
  rename_i vs hs hv;have h3:=hv j vV;rw[pZ]at h3;have h0:0≤n:=by omega
  have h1:n<(m:Int):=by omega
  have h2:n.toNat=j:=by omega
  refine bB (v:=vs.getD j undef) (w':=w) ?_ (hr.after h3 hk);simp[execOp,ho,OV,mX,Instr.index,asIntOf,BD hu,h0,h1,YF xV,h2,QI (P:=C.P) (w:=w) RV (show j<vs.size by omega)]
 ·cases hk
end
end Go.D
namespace Go.D
variable [aA]
section
variable {C:Cx} {w0:World} {outer:Nat→Prop} {own:Ow} {ρ:Nat→Option RI} {st st':St} {a:Act} {w:World} {h:Nat→Option gA}
omit [aA]in
def PK{α:Type}{xs:Array α}{l:List α}(h:xs.toList=l):xs=l.toArray:=by subst h;simp
def qS{r i:Nat}{c c':dD}{m m':cB}{ri ri':RI}(hr:h r=some ⟨c,m⟩)(hm:m.isRo=false)(hρ:ρ r=some ri)(hb:ri'.nl=false→ri'.b=ri.b∧ri.nl=false){b:Nat}
  (uV:bA outer (cA ρ i (some ri')) (cA (cA h r none) i (some ⟨c',m'⟩)) b):bA outer ρ h b:=by
 rcases uV with NV | ⟨q,row,qi,h1,h2,h3,h4,h5⟩
 ·exact .inl NV
 ·by_cases hq:q=i
  ·subst hq;rw[tA]at h3;cases h3;obtain⟨e1,e2⟩:=hb h4;exact .inr ⟨r,_,ri,hr,hm,hρ,e2,by rw[←h5,e1]⟩
  ·rw[kA _ _ _ _ hq]at h3 h1
   by_cases zV:q=r
   ·subst zV;rw[tA]at h1;cases h1
   ·rw[kA _ _ _ _ zV]at h1;exact .inr ⟨q,row,qi,h1,h2,h3,h4,h5⟩
def EA.move(hh:EA w0 outer own ρ h w){r i:Nat}{c:dD}{m:cB}{ri ri':RI}(hr:h r=some ⟨c,m⟩)(hm:m.isRo=false)(hρ:ρ r=some ri)(hn:ri.nl=false)(hi:ρ i=none)
  (hb:ri'.b=ri.b) (S7:ri'.nl=false) (w':World)
  (lW:Wx w w') (xV:w'.heap.size=w.heap.size) (hw:∀b,b≠ri.b→w'.heap[b]?=w.heap[b]?) (c':dD)
  (hc:∀bad,(∀u d,VR w ρ (bA outer ρ h) u d→VR w' (cA ρ i (some ri')) bad u d)→uC w' (cA ρ i (some ri')) bad ri' c'):
  EA w0 outer own (cA ρ i (some ri')) (cA (cA h r none) i (some ⟨c', .own⟩)) w'∧
   ∀u d,VR w ρ (bA outer ρ h) u d→VR w' (cA ρ i (some ri')) (bA outer (cA ρ i (some ri')) (cA (cA h r none) i (some ⟨c', .own⟩))) u d:=by
 have hir:i≠r:=by rintro rfl;simp[hρ]at hi
 have hρ':∀q qi,ρ q=some qi→cA ρ i (some ri') q=some qi:=λq qi hq=>by
  rw[kA];exact hq;rintro rfl;simp[hi]at hq
 have DY:bA outer ρ h ri.b:= .inr ⟨r,_,ri,hr,hm,hρ,hn,rfl⟩
 have sV:∀q row,q≠i→cA (cA h r none) i (some ⟨c', .own⟩) q=some row→q≠r∧h q=some row:=λq row OX hq=>by
  rw[kA _ _ _ _ OX]at hq
  by_cases zV:q=r
  ·subst zV;rw[tA]at hq;cases hq
  ·rw[kA _ _ _ _ zV]at hq;exact⟨zV,hq⟩
 have uV:∀b,bA outer (cA ρ i (some ri')) (cA (cA h r none) i (some ⟨c', .own⟩)) b→bA outer ρ h b:=by
  rintro b (NV | ⟨q,row,qi,h1,h2,h3,h4,h5⟩)
  ·exact .inl NV
  ·by_cases hq:q=i
   ·subst hq;rw[tA]at h3;cases h3;rw[←h5,hb];exact DY
   ·rw[kA _ _ _ _ hq]at h3;exact .inr ⟨q,row,qi,(sV q row hq h1).2,h2,h3,h4,h5⟩
 have hv:∀u d,VR w ρ (bA outer ρ h) u d→VR w' (cA ρ i (some ri')) (bA outer (cA ρ i (some ri')) (cA (cA h r none) i (some ⟨c', .own⟩))) u d:=λu d hu=>
  hu.mono hρ' (λb hb _=>hw b λe=>hb (e▸DY)) λb hb=> .inl (uV b hb)
 obtain⟨ri2,h6,_,h7⟩:=hh.rows r _ hr;rw[hρ]at h6;cases h6;refine⟨⟨hh.wx.trans lW,λb NV ho=>?_,hh.outLt,?_,?_,?_⟩,hv⟩
 rotate_right
 ·refine hh.dep.keep (λq t l m' qi h1 LW h2 h3=>?_) (λb hb _=>hw b λe=>hb (e▸DY)) (λb hb=> .inl (uV b hb)) λ_ h=>h
  by_cases hq:q=i
  ·subst hq;rw[tA]at h1;cases h1;cases LW
  ·obtain⟨zV,h4⟩:=sV q _ hq h1;rw[kA _ _ _ _ hq]at h2;exact⟨q,m',h4,LW,h2,hw _ λe=>zV (hh.inj q r _ _ qi ri h4 hr h2 hρ h3 hn e)⟩
 ·refine(hw b ?_).trans (hh.old b NV ho);rintro rfl
  rcases(h7 hn).1.2 hm with h8 | h8
  ·omega
  ·exact ho h8
 ·intro q row hq
  by_cases OX:q=i
  ·subst OX;rw[tA]at hq;cases hq;exact⟨ri',tA _ _ _,hc _ hv,λ_=>by rw[hb,xV];exact⟨⟨(h7 hn).1.1,λ_=>(h7 hn).1.2 hm⟩,(h7 hn).2⟩⟩
  ·obtain⟨zV,hq⟩:=sV q row OX hq;obtain⟨qi,h1,h2,h3⟩:=hh.rows q row hq;refine⟨qi,hρ' q qi h1,h2.keep (λZZ=>hw _ ?_) hv,λZZ=>by rw[xV];exact h3 ZZ⟩;intro e;exact zV (hh.inj q r row _ qi ri hq hr h1 hρ ZZ hn e)
 ·intro q q' row row' qi qi' h1 h2 h3 h4 h5 h6 h7
  by_cases hq:q=i<;>by_cases MW:q'=i
  ·rw[hq,MW]
  ·subst hq;rw[tA]at h3;cases h3;obtain⟨zV,h2⟩:=sV q' row' MW h2;rw[kA _ _ _ _ MW]at h4;exact absurd (hh.inj q' r row' _ qi' ri h2 hr h4 hρ h6 hn (by rw[←h7,hb])) zV
  ·subst MW;rw[tA]at h4;cases h4;obtain⟨zV,h1⟩:=sV q row hq h1;rw[kA _ _ _ _ hq]at h3;exact absurd (hh.inj q r row _ qi ri h1 hr h3 hρ h5 hn (by rw[h7,hb])) zV
  ·obtain⟨_,h1⟩:=sV q row hq h1;obtain⟨_,h2⟩:=sV q' row' MW h2;rw[kA _ _ _ _ hq]at h3;rw[kA _ _ _ _ MW]at h4;exact hh.inj q q' row row' qi qi' h1 h2 h3 h4 h5 h6 h7
variable {o:Oper} {i:Nat} (hr:AA C w0 outer own ρ st a w)
omit [aA]in
def zgk{n:Nat}(h:n≤maxLen):FB .i64 (n:Int):=by
 unfold maxLen at h;simp only[FB,IntKind.min,IntKind.max,IntKind.signed,IntKind.bits];simp;omega
include hr
def zaY{d:V}{v:Value}{n:Nat}(hv:VR w ρ (bA outer ρ st.h) v d)(hn:bI st.h d=some n):
  n≤maxLen∧((∃ao cap,v= .slice ao n cap∧n≤cap)∨∃s,d= .str s∧v= .string ⟨s.toArray⟩∧n=s.length):=by
 unfold bI at hn;split at hn
 ·cases hn;obtain⟨ao,cap,h1,h2,h3,_⟩:=hv.sl_inv;exact⟨Nat.le_trans h2 h3, .inl ⟨ao,cap,h1,h2⟩⟩
 ·cases hn;cases hv;exact⟨Nat.zero_le _, .inl ⟨none,0,rfl,Nat.le_refl _⟩⟩
 ·cases hn;obtain⟨h1,h2⟩:=hv.str_inv;exact⟨h2, .inr ⟨_,rfl,h1,rfl⟩⟩
 ·split at hn
  case h_2=>cases hn
  rename_i t l m sV;cases hn;obtain⟨ri,hρ,FV⟩:=jG hr sV;have RX:ri.n=l.length:=FV.1
  rcases hv.ow_inv hρ with⟨h1,h2,h3,h4⟩ | ⟨ao,h1,h2,h3⟩
  ·rw[←RX];exact⟨Nat.le_trans h3 h4, .inl ⟨_,_,h1,h3⟩⟩
  ·rw[←RX,h3];exact⟨Nat.zero_le _, .inl ⟨_,_,h1,Nat.le_refl _⟩⟩
 ·cases hn;obtain⟨ri,hρ⟩:=hv.ov_row;obtain⟨ao,cap,h1,_,_,h2,h3⟩:=hv.ov_inv hρ;exact⟨Nat.le_trans h2 h3, .inl ⟨ao,cap,h1,h2⟩⟩
 ·cases hn
def ziB(args:Array Operand)(argTypes:Array TypeId)(ho:o.op= .call {callee:= .builtin .len,args,argTypes})(hk:OA C i o st some=some st'):yB C.P o a w (tB C w0 outer own i ρ st'):=by
 simp only[OA,ho]at hk;split at hk
 case h_2=>cases hk
 rename_i x t QV D0;split at hk
 case h_2=>cases hk
 rename_i d n hu tV;cases yW:YP d (opd st.s x)
 case false=>simp[yW]at hk
 simp only[yW,iB]at hk;obtain⟨pY,hl⟩:=zaY hr (hr.opd x) tV;have e1:=PK QV;have e2:=PK D0;subst e1 e2;refine bB (v:= .int .i64 (n:Int)) (w':=w) ?_ (hr.after (.int _ _ (zgk pY)) hk)
 rcases hl with⟨ao,cap,h1,_⟩ | ⟨s,h0,h1,h2⟩
 ·have hd:∃e,d= .slice e:=by
   unfold YP at yW;split at yW<;>first | exact⟨_,rfl⟩ | skip
   ·rename_i s HV;have:=hr.opd x;rw[HV]at this;rw[this.str_inv.1]at h1;cases h1
   ·cases yW
  obtain⟨e,rfl⟩:=hd;simp[execOp,ho,resolve,invoke,builtin,Builtin.len_,BD hu,h1,goInt]
 ·have hd:d= .string:=by
   rw[h0]at yW;unfold YP at yW;split at yW<;>first | rfl | (rename_i hh;cases hh) | cases yW
  subst hd;have nX:(⟨s.toArray⟩:ByteArray).size=s.length:=by simp[ByteArray.size]
  simp[execOp,ho,resolve,invoke,builtin,Builtin.len_,BD hu,h1,h2,nX,goInt]
def ziR(args:Array Operand)(argTypes:Array TypeId)(ho:o.op= .call {callee:= .builtin .min,args,argTypes})(hk:OA C i o st some=some st'):yB C.P o a w (tB C w0 outer own i ρ st'):=by
 simp only[OA,ho]at hk;split at hk
 case h_2=>cases hk
 rename_i k p k' q QV
 by_cases OW:k=k'
 case neg=>simp[OW]at hk
 subst OW;simp only[decide_true,cond_true]at hk;obtain⟨x,xs,E1,h1,h2⟩:=List.map_eq_cons_iff.1 QV;obtain⟨y,ys,v4,h3,h4⟩:=List.map_eq_cons_iff.1 h2;have h5:=List.map_eq_nil_iff.1 h4;subst h5 v4;have e1:=PK E1;subst e1;have hx:=hr.opd x;rw[h1]at hx;have hy:=hr.opd y;rw[h3]at hy;refine bB (v:= .int k (if q<p then q else p)) (w':=w) ?_ (hr.after (.int _ _ (by split;exact hy.int_inv.2;exact hx.int_inv.2)) hk);simp[execOp,ho,resolve,invoke,builtin,Builtin.min_,hx.int_inv.1,hy.int_inv.1,Builtin.min2]
def ziZ(args:Array Operand)(argTypes:Array TypeId)(ho:o.op= .call {callee:= .builtin .max,args,argTypes})(hk:OA C i o st some=some st'):yB C.P o a w (tB C w0 outer own i ρ st'):=by
 simp only[OA,ho]at hk;split at hk
 case h_2=>cases hk
 rename_i k p k' q QV
 by_cases OW:k=k'
 case neg=>simp[OW]at hk
 subst OW;simp only[decide_true,cond_true]at hk;obtain⟨x,xs,E1,h1,h2⟩:=List.map_eq_cons_iff.1 QV;obtain⟨y,ys,v4,h3,h4⟩:=List.map_eq_cons_iff.1 h2;have h5:=List.map_eq_nil_iff.1 h4;subst h5 v4;have e1:=PK E1;subst e1;have hx:=hr.opd x;rw[h1]at hx;have hy:=hr.opd y;rw[h3]at hy;refine bB (v:= .int k (if q>p then q else p)) (w':=w) ?_ (hr.after (.int _ _ (by split;exact hy.int_inv.2;exact hx.int_inv.2)) hk);simp[execOp,ho,resolve,invoke,builtin,Builtin.max_,hx.int_inv.1,hy.int_inv.1,Builtin.max2]
end
end Go.D
namespace Go.D
variable [aA]
section
variable {C:Cx} {w0:World} {outer:Nat→Prop} {own:Ow} {ρ:Nat→Option RI} {st st':St} {a:Act} {w:World} {h:Nat→Option gA}
def SI(w:World)(ρ:Nat→Option RI)(bad:Nat→Prop)(t:TN)(l:List (El t))(cs:List Value):Prop:=
 cs.length=l.length *sz t∧∀i (hi:i<l.length) j,j<sz t→∃u,cs[i *sz t+j]?=some u∧VR w ρ bad u ((enc t l[i]).getD j .undef)
omit [aA]in
def iV{n k m:Nat}(hm:0<m)(h:k<n *m):k / m<n∧k % m<m∧k / m *m+k % m=k:=
 ⟨(Nat.div_lt_iff_lt_mul hm).2 h,Nat.mod_lt _ hm,by rw[Nat.mul_comm];exact Nat.div_add_mod k m⟩
def SI.one{bad:Nat→Prop}{t:TN}{l:List (El t)}{cs:List Value}(h:SI w ρ bad t l cs):∀u∈cs,u.oneCell'=true:=by
 intro u hu;obtain⟨k,hk,rfl⟩:=List.mem_iff_getElem.1 hu;obtain⟨h1,h2,h3⟩:=iV (xF t) (by rw[←h.1];exact hk);obtain⟨u,h4,h5⟩:=h.2 _ h1 _ h2;rw[h3,List.getElem?_eq_getElem hk]at h4;cases h4;exact h5.one (nU _ _ _ h2)
def VF(w:World)(b off n:Nat):List Value:=(List.range n).map λk=>(w.cell? (iA b (off+k))).getD undef
omit [aA]in
def ZN(w:World)(b off n:Nat):(VF w b off n).length=n:=by simp[VF]
omit [aA]in
def pU(w:World)(b off n k:Nat)(hk:k<n):(VF w b off n)[k]?=some ((w.cell? (iA b (off+k))).getD undef):=by
 simp[VF,hk]
def zab{bad:Nat→Prop}{t:TN}{l:List (El t)}{b off:Nat}
  (hv:∀i (hi:i<l.length) j,j<sz t→∃u,w.cell? (iA b (off+i *sz t+j))=some u∧VR w ρ bad u ((enc t l[i]).getD j .undef)):
  SI w ρ bad t l (VF w b off (l.length *sz t))∧∀j u,(VF w b off (l.length *sz t))[j]?=some u→w.cell? ((iA b off).add j)=some u:=by
 refine⟨⟨ZN _ _ _ _,λi hi j hj=>?_⟩,λk u hk=>?_⟩
 ·obtain⟨u,h1,h2⟩:=hv i hi j hj
  have vV:i *sz t+j<l.length *sz t:=by
   have:(i+1) *sz t≤l.length *sz t:=Nat.mul_le_mul_right _ hi;rw[Nat.add_mul,Nat.one_mul]at this;omega
  refine⟨u,?_,h2⟩;rw[pU _ _ _ _ _ vV, ←Nat.add_assoc,h1];rfl
 ·have vV:k<l.length *sz t:=by
   rcases Nat.lt_or_ge k (l.length *sz t)with h | h
   ·exact h
   ·rw[List.getElem?_eq_none (by rw[ZN];exact h)]at hk;cases hk
  obtain⟨h1,h2,h3⟩:=iV (xF t) vV;obtain⟨u',h4,_⟩:=hv _ h1 _ h2;rw[Nat.add_assoc,h3]at h4;rw[pU _ _ _ _ _ vV,h4]at hk;rw[uD,h4];exact hk
omit [aA]in
def oU{α:Type}(l:List α)(off len i:Nat)(h:off+len≤l.length)(hi:i<((l.drop off).take len).length):((l.drop off).take len)[i]=l[off+i]'(by simp at hi;omega):=by simp
variable {o:Oper} {i:Nat} (hr:AA C w0 outer own ρ st a w)
include hr
def zbd{tn:TN}{v:Value}{d:V}{m:List (El tn)}(hv:VR w ρ (bA outer ρ st.h) v d)(hm:zL st.h tn d=some m):
  ∃ao cap,v= .slice ao m.length cap∧(m=[]∨∃b off,ao=some (iA b off)∧
   ∀i (hi:i<m.length) j,j<sz tn→∃u,w.cell? (iA b (off+i *sz tn+j))=some u∧VR w ρ (bA outer ρ st.h) u ((enc tn m[i]).getD j .undef)):=by
 have mk:∀(ao:Option Addr) (cap:Nat),v= .slice ao m.length cap→(m=[]∨∃b off,ao=some (iA b off)∧
   ∀i (hi:i<m.length) j,j<sz tn→∃u,w.cell? (iA b (off+i *sz tn+j))=some u∧VR w ρ (bA outer ρ st.h) u ((enc tn m[i]).getD j .undef))→
   ∃ao cap,v= .slice ao m.length cap∧(m=[]∨∃b off,ao=some (iA b off)∧
   ∀i (hi:i<m.length) j,j<sz tn→∃u,w.cell? (iA b (off+i *sz tn+j))=some u∧VR w ρ (bA outer ρ st.h) u ((enc tn m[i]).getD j .undef)):=λao cap h1 h2=>⟨ao,cap,h1,h2⟩
 unfold zL at hm;split at hm
 ·rename_i t' l;split at hm
  case isFalse=>cases hm
  rename_i e1;subst e1;simp only[XF,Option.some.injEq]at hm;subst hm;obtain⟨ao,cap,h1,_,_,h4⟩:=hv.sl_inv;refine mk ao cap h1 ?_
  rcases h4 with h4 | ⟨b,off,h5,_,h6⟩
  ·exact .inl h4
  ·exact .inr ⟨b,off,h5,h6⟩
 ·cases hm;cases hv;exact mk none 0 rfl (.inl rfl)
 ·rename_i r;split at hm
  case h_2=>cases hm
  rename_i t' l mo sV;split at hm
  case isFalse=>cases hm
  rename_i e1;subst e1;simp only[XF,Option.some.injEq]at hm;subst hm;obtain⟨ri,hρ,FV⟩:=jG hr sV;have RX:ri.n=l.length:=FV.1
  rcases hv.ow_inv hρ with⟨h1,h2,h3,h4⟩ | ⟨ao,h1,h2,h3⟩
  ·refine mk _ ri.cap (by rw[←RX];exact h1) ?_
   rcases FV.2 with h5 | ⟨_,_,_,_,_,h6⟩
   ·exact .inl h5.2
   ·exact .inr ⟨ri.b,0,rfl,λi hi j hj=>by rw[Nat.zero_add];exact h6 i hi j hj⟩
  ·have:l=[]:=List.eq_nil_of_length_eq_zero (by omega);exact mk ao 0 (by rw[this];exact h1) (.inl this)
 ·rename_i r t0 off len;split at hm
  case h_2=>cases hm
  rename_i t' l mo sV
  by_cases MY:t0=tn
  case neg=>simp[MY]at hm
  subst MY;simp only[decide_true,cond_true]at hm;split at hm
  case isFalse=>cases hm
  rename_i e1;subst e1;simp only[XF,Option.some.injEq]at hm;subst hm;obtain⟨ri,hρ,FV⟩:=jG hr sV;have RX:ri.n=l.length:=FV.1;obtain⟨ao,cap,h1,h2,h3,h4,h5⟩:=hv.ov_inv hρ;have tV:((l.drop off).take len).length=len:=by simp;omega
  refine mk ao cap (by rw[tV];exact h1) ?_
  rcases h3 with⟨rfl,_⟩ | ⟨rfl,CV,_⟩
  ·exact .inl (by simp)
  ·rcases FV.2 with h5 | ⟨_,_,_,_,_,h6⟩
   ·rw[CV]at h5;cases h5.1
   ·refine .inr ⟨ri.b,_,rfl,λi hi j hj=>?_⟩;rw[oU l off len i (by omega) hi, ←Nat.add_mul];exact h6 (off+i) (by omega) j hj
 ·cases hm
def zgh{P:Program}{t e:TypeId}{tn:TN}{v:Value}{d:V}{m:List (El tn)}(hu:P.underlying t=some (.slice e))(hv:VR w ρ (bA outer ρ st.h) v d)(hm:zL st.h tn d=some m):
  ∃news,Src P (sz tn) t v m.length news w∧SI w ρ (bA outer ρ st.h) tn m news∧
   (m=[]∨∃b off cap,v= .slice (some (iA b off)) m.length cap∧∀k,k<m.length *sz tn→news[k]?=w.cell? (iA b (off+k))):=by
 obtain⟨ao,cap,rfl,h⟩:=zbd hr hv hm
 rcases h with rfl | ⟨b,off,rfl,hc⟩
 ·refine⟨[],?_,⟨by simp,λi hi=>by simp at hi⟩, .inl rfl⟩;cases ao with
  | none=>exact Src.ofNil w hu cap
  | some ad=>exact Src.ofSlice w hu ad 0 cap [] (by simp) (λj u h=>by simp at h) (λu h=>by simp at h)
 ·obtain⟨h1,h2⟩:=zab hc;refine⟨_,Src.ofSlice w hu (iA b off) m.length cap _ h1.1 h2 h1.one,h1, .inr ⟨b,off,cap,rfl,λk hk=>?_⟩⟩;have FX:k<(VF w b off (m.length *sz tn)).length:=by rw[ZN];exact hk
  have:=h2 k _ (List.getElem?_eq_getElem FX);rw[uD]at this;rw[this,List.getElem?_eq_getElem FX]
omit hr in
theorem tU{bad bad':Nat→Prop}{w':World}{ρ':Nat→Option RI}{t:TN}{l m:List (El t)}{olds news:List Value}(h1:SI w ρ bad t l olds)(h2:SI w ρ bad t m news)
  (hk:∀u d,VR w ρ bad u d→VR w' ρ' bad' u d) {b:Nat}
  (hc:∀j u,(olds++news)[j]?=some u→w'.cell? (iA b j)=some u):∀i (hi:i<(l++m).length) j,j<sz t→∃u,w'.cell? (iA b (i *sz t+j))=some u∧VR w' ρ' bad' u ((enc t (l++m)[i]).getD j .undef):=by
 intro i hi j hj
 by_cases D2:i<l.length
 ·obtain⟨u,h3,h4⟩:=h1.2 i D2 j hj
  have vV:i *sz t+j<olds.length:=by
   rw[h1.1];have:(i+1) *sz t≤l.length *sz t:=Nat.mul_le_mul_right _ D2;rw[Nat.add_mul,Nat.one_mul]at this;omega
  refine⟨u,hc _ _ (by rw[List.getElem?_append_left vV];exact h3),?_⟩;rw[List.getElem_append_left D2];exact hk _ _ h4
 ·have O9:i - l.length<m.length:=by simp at hi;omega
  obtain⟨u,h3,h4⟩:=h2.2 (i - l.length) O9 j hj
  have GW:olds.length≤i *sz t+j:=by
   rw[h1.1];have:l.length *sz t≤i *sz t:=Nat.mul_le_mul_right _ (by omega);omega
  refine⟨u,hc _ _ ?_,?_⟩
  ·rw[List.getElem?_append_right GW,h1.1]
   have:i *sz t+j - l.length *sz t=(i - l.length) *sz t+j:=by
    have h5:l.length *sz t≤i *sz t:=Nat.mul_le_mul_right _ (by omega);rw[Nat.sub_mul];omega
   rw[this];exact h3
  ·rw[List.getElem_append_right (by omega)];exact hk _ _ h4
omit hr in
omit [aA]in
def vT{h:Nat→Option gA}{x y:V}(ha:PF h x y=true):∃r2 c,y= .ow r2∧h r2=some ⟨c, .tre⟩∧(x= .nil∨∃r c',x= .ow r∧h r=some ⟨c', .tre⟩∧r≠r2):=by
 unfold PF at ha;split at ha
 case h_2=>cases ha
 rename_i r2;split at ha
 case h_2=>cases ha
 rename_i c hc;refine⟨r2,c,rfl,hc,?_⟩;split at ha
 ·exact .inl rfl
 ·rename_i r;split at ha
  case h_2=>cases ha
  rename_i c' bX;refine .inr ⟨r,c',rfl,bX,λe=>?_⟩;subst e;simp at ha
 ·cases ha
def zft(hC:VC C)(args:Array Operand)(argTypes:Array TypeId)(ho:o.op= .call {callee:= .builtin .append,args,argTypes})(hi:ρ i=none)(hk:OA C i o st some=some st'):
  yB C.P o a w (tB C w0 outer own i ρ st'):=by
 simp only[OA,ho]at hk;split at hk
 case h_2=>cases hk
 rename_i x y t t' QV D0;cases z4:Nat.beq t t'
 case false=>simp[z4]at hk
 have z4:=Nat.eq_of_beq_eq_true z4;subst z4;simp only[Nat.beq_refl,iB]at hk;split at hk
 ·cases hk
 rename_i tn jW;obtain⟨e,he,MZ⟩:=Option.bind_eq_some_iff.1 jW
 have hu:C.P.underlying t=some (.slice e):=by
  unfold hJ at he;split at he
  ·rename_i h1;cases he;exact h1
  ·cases he
 obtain⟨info,z,NW,hi2,F1,wZ,NZ⟩:=hC.ok e tn MZ;split at hk
 case h_2=>cases hk
 rename_i l ro m LV EW;cases aW:decide (l.length+m.length≤eA)
 case false=>simp[aW]at hk
 simp only[aW,cond_true]at hk;have aW:l.length+m.length≤eA:=of_decide_eq_true aW;obtain⟨news,T5,HW,E0⟩:=zgh hr hu (hr.opd y) EW;have NY:Src C.P info.size t (a.eval y) m.length news w:=by rw[hi2];exact T5
 have e1:=PK QV;have e2:=PK D0;subst e1 e2
 have BV:∀v w',(Builtin.append_ #[t,t] o.type #[a.eval x,a.eval y]).run C.P w= .ok v w'→(execOp a.eval o).run C.P w= .ok (.value v) w':=λv w' h1=>by
  simp[execOp,ho,resolve,invoke,builtin,h1]
 have U5:eA *1024≤140737488355328:=by unfold eA;decide
 have F0:(l.length+m.length) *info.bytes≤140737488355328:=Nat.le_trans (Nat.mul_le_mul aW F1) U5;have T7:eA≤9223372036854775807:=by unfold eA;decide
 let EvX:Option Nat→List Value→Nat→Prop:=λro olds B=>B=w.heap.size∧(l=[]∨∃r ri,ro=some r∧ρ r=some ri∧ri.nl=false∧∀k,k<l.length *sz tn→olds[k]?=w.cell? (iA ri.b k))∨
  ∃r ri,ro=some r∧ρ r=some ri∧ri.nl=false∧ri.b=B∧∀k,k<l.length *sz tn→olds[k]?=w.cell? (iA ri.b k)
 let Ev:cB→(Nat→Option gA)→Prop:=λmd h'=>md= .own∨md= .tre∧∀(B:Nat) (olds:List Value) (W:World) (ri':RI),ri'.b=B→olds.length=l.length *sz tn→EvX ro olds B→(∀c,c≠B→c<w.heap.size→W.heap[c]?=w.heap[c]?)→
  (∀(j:Nat) (u:Value),(olds++news)[j]?=some u→W.cell? (iA B j)=some u)→(∀b,bA outer (cA ρ i (some ri')) (cA h' i (some ⟨.arr tn (l++m), .tre⟩)) b→bA outer ρ st.h b∨w.heap.size≤b)→
  pB W (bA outer (cA ρ i (some ri')) (cA h' i (some ⟨.arr tn (l++m), .tre⟩))) (XC w0 own) (cA ρ i (some ri')) (cA h' i (some ⟨.arr tn (l++m), .tre⟩))
 have lessBad:∀(h':Nat→Option gA),(∀r row',h' r=some row'→∃row,st.h r=some row∧row.c=row'.c∧(row'.m.isRo=false→row.m.isRo=false)∧(row'.m.isTre=true→row.m.isTre=true))→∀b,bA outer ρ h' b→bA outer ρ st.h b:=λh' hl b hb=>
  hb.mono λq row' h1 h2=>by obtain⟨row,e1,_,e2,_⟩:=hl q row' h1;exact⟨row,e1,e2 h2⟩
 -- a new row
 have grown:∀(ao:Option Addr) (cap:Nat) (olds:List Value) (h':Nat→Option gA) (md:cB),Ev md h'→EvX ro olds w.heap.size→a.eval x= .slice ao l.length cap→cap<l.length+m.length→SI w ρ (bA outer ρ st.h) tn l olds→
   (Builtin.firstCells info.size l.length (.slice ao l.length cap)).run C.P w.drew= .ok olds.toArray w.drew→
   (∀r row',h' r=some row'→∃row,st.h r=some row∧row.c=row'.c∧(row'.m.isRo=false→row.m.isRo=false)∧(row'.m.isTre=true→row.m.isTre=true))→
   yD C o.dst {st with h:=h'} i (.arr tn (l++m)) (.ow i) some md=some st'→yB C.P o a w (tB C w0 outer own i ρ st'):=by
  intro ao cap olds h' md wX V5 hx tX holds G0 yV SV
  have qV:=run_append_grow_src (P:=C.P) w t t o.type e info z hu NW wZ ao l.length cap olds G0 (a.eval y) m.length news NY (by omega)
   (by have:((l.length+m.length:Nat):Int)≤(eA:Nat):=by omega
       omega) (growslice_fits (by omega) F0)
  rw[←hx]at qV;have GW:=grownCap_ge w (l.length+m.length) cap e;have GZ:grownCap w (l.length+m.length) cap e≤maxLen:=grownCap_le_maxLen w (l.length+m.length) cap e (by unfold maxLen;omega);obtain⟨uZ,FY⟩:=hr.heap.less yV;have tW:AA C w0 outer own ρ {st with h:=h'} a w:=hr.turn uZ FY
  refine bB (BV _ _ qV) (tW.newRowM hi ⟨w.heap.size,l.length+m.length,grownCap w (l.length+m.length) cap e,false⟩ (λ_=>rfl) _ (Wx.trans (zbP w) (vL _ _))
   (λb hb=>VG w.drew _ b hb) (λ_=>by simp) md (λbad fX=>?_) (λbad=>?_) ?_ SV)
  ·generalize IV:((olds++news).toArray++Builtin.zeroCells z.cells (grownCap w (l.length+m.length) cap e - (l.length+m.length)))=cells at fX⊢
   have E2:cells.size=grownCap w (l.length+m.length) cap e *sz tn:=by
    rw[←IV,Array.size_append,size_zeroCells,NZ];have h5:(olds++news).toArray.size=(l.length+m.length) *sz tn:=by simp[holds.1,HW.1,Nat.add_mul]
    rw[h5, ←Nat.add_mul];congr 1;omega
   refine⟨by simp, .inr ⟨rfl,mS (w:=w.drew) (hC.tys e tn MZ),GW,GZ,λj hj=>⟨World.frozen?_alloc_new _ _ _ _,?_⟩,?_⟩⟩
   ·have:=zG w.drew cells e j (by rw[E2];exact hj);rw[World.size_drew]at this;rw[this];rfl
   ·refine tU (ρ':=cA ρ i _) (bad':=bad) ⟨holds.1,λi hi j hj=>?_⟩ ⟨HW.1,λi hi j hj=>?_⟩ fX λj u hj=>?_
    ·obtain⟨u,h6,h7⟩:=holds.2 i hi j hj;exact⟨u,h6,FY _ _ h7⟩
    ·obtain⟨u,h6,h7⟩:=HW.2 i hi j hj;exact⟨u,h6,FY _ _ h7⟩
    ·have vV:j<(olds++news).length:=by
      rcases Nat.lt_or_ge j (olds++news).length with h | h
      ·exact h
      ·rw[List.getElem?_eq_none h]at hj;cases hj
     have KW:j<cells.size:=by
      rw[←IV,Array.size_append];simp at vV⊢;omega
     have:=zG w.drew cells e j KW;rw[World.size_drew]at this;rw[this,Array.getD_eq_getD_getElem?,Array.getElem?_eq_getElem KW,Option.getD_some, ←hj,List.getElem?_eq_getElem vV];congr 1;subst IV;rw[Array.getElem_append_left (by simpa using vV)];simp
  ·exact .ow i ⟨w.heap.size,l.length+m.length,grownCap w (l.length+m.length) cap e,false⟩ (tA _ _ _) GW GZ rfl
  ·rcases wX with h | ⟨h,wX⟩
   ·exact .inl h
   refine .inr ⟨h,λuV=>wX w.heap.size olds _ _ rfl holds.1 V5 (λc _ hc=>VG w.drew _ c hc) (λj u hj=>?_) λb hb=>(uV b hb).imp (lessBad h' yV b) id⟩
   have vV:j<(olds++news).length:=by
    rcases Nat.lt_or_ge j (olds++news).length with h | h
    ·exact h
    ·rw[List.getElem?_eq_none h]at hj;cases hj
   have KW:j<((olds++news).toArray++Builtin.zeroCells z.cells (grownCap w (l.length+m.length) cap e - (l.length+m.length))).size:=by
    rw[Array.size_append];simp at vV⊢;omega
   have:=zG w.drew _ e j KW;rw[World.size_drew]at this;rw[this,Array.getD_eq_getD_getElem?,Array.getElem?_eq_getElem KW,Option.getD_some, ←hj,List.getElem?_eq_getElem vV];congr 1;rw[Array.getElem_append_left (by simpa using vV)];simp
 -- nothing there,nothing appended,or a new row
 have empty:∀(ao:Option Addr) (h':Nat→Option gA) (md:cB),Ev md h'→l=[]→a.eval x= .slice ao 0 0→
   (∀r row',h' r=some row'→∃row,st.h r=some row∧row.c=row'.c∧(row'.m.isRo=false→row.m.isRo=false)∧(row'.m.isTre=true→row.m.isTre=true))→
   yD C o.dst {st with h:=h'} i (.arr tn (l++m)) (.ow i) some md=some st'→yB C.P o a w (tB C w0 outer own i ρ st'):=by
  intro ao h' md wX hl hx yV SV;subst hl
  by_cases hm:m=[]
  ·subst hm;obtain⟨uZ,FY⟩:=hr.heap.less yV;have tW:AA C w0 outer own ρ {st with h:=h'} a w:=hr.turn uZ FY;have C0:news=[]:=List.eq_nil_of_length_eq_zero (by rw[HW.1];simp);subst C0;have qV:=run_append_nothing w t t o.type e info hu NW ao 0 0 (Nat.le_refl _) (a.eval y) NY;rw[←hx]at qV;refine bB (BV _ _ qV) (tW.newRowM hi ⟨0,0,0,true⟩ (λh=>by cases h) w (Wx.refl _) (λb hb=>rfl) (λh=>by cases h) (c:= .arr tn ([]++[])) md (λbad fX=>⟨rfl, .inl ⟨rfl,rfl⟩⟩) (λbad=>?_) (wX.imp id λh=>⟨h.1,λuV=>?_⟩) SV)
   ·rw[hx];exact .owN i ⟨0,0,0,true⟩ ao (tA _ _ _) rfl rfl
   ·refine uZ.dep.keep (λq t1 l1 m1 qi e1 em e2 e3=>?_) (λ_ _ _=>rfl) uV λ_ h=>h
    by_cases hq:q=i
    ·subst hq;rw[tA]at e2;cases e2;cases e3
    ·rw[kA _ _ _ _ hq]at e1 e2;exact⟨q,m1,e1,em,e2,rfl⟩
  ·have Y1:0<m.length:=List.length_pos_iff.2 hm;refine grown ao 0 [] h' md wX (.inl ⟨rfl, .inl rfl⟩) hx (by simpa using Y1) ⟨by simp,λi hi=>by simp at hi⟩ ?_ yV SV;cases ao with
   | none=>exact run_firstCells_none w.drew info.size 0 0 0
   | some ad=>exact run_firstCells_some w.drew info.size 0 ad 0 0 [] (by simp) (λj v h=>by simp at h)
 have killLess:∀(r:Option Nat) (q:Nat) (row':gA),VD st.h r q=some row'→∃row,st.h q=some row∧row.c=row'.c∧(row'.m.isRo=false→row.m.isRo=false)∧(row'.m.isTre=true→row.m.isTre=true):=by
  intro r q row' h1;cases r with
  | none=>exact⟨row',h1,rfl,id,id⟩
  | some r=>
   simp only[VD]at h1
   by_cases hq:q=r
   ·subst hq;rw[tA]at h1;cases h1
   ·rw[kA _ _ _ _ hq]at h1;exact⟨row',h1,rfl,id,id⟩
 -- a row of the call's own,or the beginning of one
 have full:∀(r:Nat) (l0:List (El tn)) (m0:cB) (ri:RI) (cap:Nat),st.h r=some ⟨.arr tn l0,m0⟩→m0.isRo=false→ρ r=some ri→ri.nl=false→l=l0.take l.length→l.length≤cap→cap≤ri.cap→
   a.eval x= .slice (some (iA ri.b 0)) l.length cap→∀(h':Nat→Option gA) (md:cB),ro=some r→Ev md h'→(∀q row',h' q=some row'→∃row,VD st.h (some r) q=some row∧row.c=row'.c∧(row'.m.isRo=false→row.m.isRo=false)∧(row'.m.isTre=true→row.m.isTre=true))→
   yD C o.dst {st with h:=h'} i (.arr tn (l++m)) (.ow i) some md=some st'→yB C.P o a w (tB C w0 outer own i ρ st'):=by
  intro r l0 m0 ri cap sV iZ hρ CV hl OZ W5 hx h' md F2 wX yV SV;have P9:l.length≤l0.length:=by rw[hl];simp;omega
  obtain⟨_,hρ2,FV,_⟩:=hr.heap.rows r _ sV;rw[hρ]at hρ2;cases hρ2
  rcases FV.2 with h5 | ⟨_,ce,c1,c2,c3,c4⟩
  ·rw[CV]at h5;cases h5.1
  have holds:=zab (w:=w) (ρ:=ρ) (bad:=bA outer ρ st.h) (t:=tn) (l:=l) (b:=ri.b) (off:=0) (λi hi j hj=>by
   obtain⟨u,h6,h7⟩:=c4 i (by omega) j hj;refine⟨u,by rw[Nat.zero_add];exact h6,?_⟩
   have:l[i]=l0[i]'(by omega):=by
    have h8:l[i]?=(l0.take l.length)[i]?:=by rw[←hl]
    rw[List.getElem?_eq_getElem hi,List.getElem?_take,if_pos hi,List.getElem?_eq_getElem (by omega)]at h8;exact Option.some.inj h8
   rw[this];exact h7)
  have PZ:∀k,k<l.length *sz tn→(VF w ri.b 0 (l.length *sz tn))[k]?=w.cell? (iA ri.b k):=λk hk=>by
   have FX:k<(VF w ri.b 0 (l.length *sz tn)).length:=by rw[ZN];exact hk
   have:=holds.2 k _ (List.getElem?_eq_getElem FX);rw[uD,Nat.zero_add]at this;rw[this,List.getElem?_eq_getElem FX]
  have H0:∀q row',h' q=some row'→∃row,st.h q=some row∧row.c=row'.c∧(row'.m.isRo=false→row.m.isRo=false)∧(row'.m.isTre=true→row.m.isTre=true):=λq row' hq=>by
   obtain⟨row,e1,e2,e3,e4⟩:=yV q row' hq;obtain⟨row2,f1,f2,f3,f4⟩:=killLess (some r) q row e1;exact⟨row2,f1,f2.trans e2,λh=>f3 (e3 h),λh=>f4 (e4 h)⟩
  by_cases iY:l.length+m.length≤cap
  ·have hcz:cap *sz tn≤ri.cap *sz tn:=Nat.mul_le_mul_right _ W5;have Q9:(l.length+m.length) *sz tn≤cap *sz tn:=Nat.mul_le_mul_right _ iY;rw[Nat.add_mul]at Q9
   have UV:∀j,j<news.length→(w.cell? ⟨ri.b,0+l.length *info.size+j,none⟩).isSome=true:=λj hj=>by
    rw[hi2,Nat.zero_add];exact(c3 _ (by rw[HW.1]at hj;omega)).2
   have KV:∀j,j<news.length→w.frozen? ⟨ri.b,0+l.length *info.size+j,none⟩=false:=λj hj=>by
    rw[hi2,Nat.zero_add];exact(c3 _ (by rw[HW.1]at hj;omega)).1
   have qV:=run_append_room_src (P:=C.P) w t t o.type e info hu NW ri.b 0 l.length cap (a.eval y) m.length news NY iY UV KV;rw[show(⟨ri.b,0,none⟩:Addr)=iA ri.b 0 from rfl, ←hx,hi2,Nat.zero_add]at qV;rw[hi2,Nat.zero_add]at UV;generalize hW:w.setCells ri.b (l.length *sz tn) news=W at qV
   have U7:∀(j:Nat) (u:Value),(VF w ri.b 0 (l.length *sz tn)++news)[j]?=some u→W.cell? (iA ri.b j)=some u:=λj u hj=>by
    have A4:=holds.1.1
    by_cases fW:j<(VF w ri.b 0 (l.length *sz tn)).length
    ·rw[List.getElem?_append_left fW]at hj;have:=holds.2 j u hj;rw[uD,Nat.zero_add]at this;rw[←hW,World.cell?_setCells_out]
     ·exact this
     ·intro _ _;simp only[iA];left;rw[A4]at fW;exact fW
    ·rw[List.getElem?_append_right (by omega),A4]at hj;obtain⟨SX,rfl⟩:=List.getElem?_eq_some_iff.1 hj;have:=World.cell?_setCells_in ri.b news (l.length *sz tn) w UV (j - l.length *sz tn) SX;rw[show l.length *sz tn+(j - l.length *sz tn)=j by omega,hW]at this;exact this
   have V1:=hr.heap.move sV iZ hρ CV hi (ri':=⟨ri.b,l.length+m.length,cap,false⟩) rfl rfl W (by rw[←hW];exact tO _ _ _ _) (by rw[←hW];exact aO _ _ _ _)
    (fun b hb=>by rw [← hW];exact GJ _ _ _ _ _ hb) (.arr tn (l++m)) (fun bad fX=>by
     refine⟨by simp, .inr ⟨rfl,by rw[←hW];exact uR _ _ ce,iY,Nat.le_trans W5 c2,λj hj=>⟨by rw[←hW,World.frozen?_setCells];exact(c3 j (by have:j<cap *sz tn:=hj;omega)).1,?_⟩,?_⟩⟩
     ·by_cases J9:l.length *sz tn≤j∧j<l.length *sz tn+news.length
      ·have:=World.cell?_setCells_in ri.b news (l.length *sz tn) w UV (j - l.length *sz tn) (by omega);rw[show l.length *sz tn+(j - l.length *sz tn)=j by omega,hW]at this;show(W.cell? ⟨ri.b,j,none⟩).isSome=true
       rw[this];rfl
      ·rw[←hW,World.cell?_setCells_out]
       ·exact(c3 j (by have:j<cap *sz tn:=hj;omega)).2
       ·intro _ _;simp only[iA];omega
     ·exact tU holds.1 HW fX U7)
   obtain⟨hh,hv⟩:=V1
   have key:EA w0 outer own (cA ρ i (some ⟨ri.b,l.length+m.length,cap,false⟩)) (cA h' i (some ⟨.arr tn (l++m),md⟩)) W∧
     ∀u d,VR w ρ (bA outer ρ st.h) u d→VR W (cA ρ i (some ⟨ri.b,l.length+m.length,cap,false⟩)) (bA outer (cA ρ i (some ⟨ri.b,l.length+m.length,cap,false⟩)) (cA h' i (some ⟨.arr tn (l++m),md⟩))) u d:=by
    obtain⟨g1,g2⟩:=hh.less (h':=cA h' i (some ⟨.arr tn (l++m), .own⟩)) (λq row' hq=>by
     by_cases OX:q=i
     ·subst OX;rw[tA]at hq;cases hq;exact⟨_,tA _ _ _,rfl,id,id⟩
     ·rw[kA _ _ _ _ OX]at hq⊢;exact yV q row' hq)
    rcases wX with rfl | ⟨rfl,wX⟩
    ·exact⟨g1,λu d hu=>g2 _ _ (hv u d hu)⟩
    ·have g3:=g1.turn (m':= .tre) (tA _ _ _) rfl λuV=>by
      rw[GG]at uV⊢;refine wX ri.b _ W _ rfl holds.1.1 (.inr ⟨r,ri,F2,hρ,CV,rfl,PZ⟩) (λc hc _=>by rw[←hW];exact GJ _ _ _ _ _ hc) U7 λb hb=> .inl ?_;have OY:=uV b hb;refine qS (c':= .arr tn (l++m)) (m':= .own) (i:=i) (ri':=⟨ri.b,l.length+m.length,cap,false⟩) sV iZ hρ (λ_=>⟨rfl,CV⟩) (OY.mono λq row' h1 h2=>?_)
      by_cases OX:q=i
      ·subst OX;exact⟨_,tA _ _ _,rfl⟩
      ·rw[kA _ _ _ _ OX]at h1⊢;obtain⟨row,e1,_,e2,_⟩:=yV q row' h1;exact⟨row,e1,e2 h2⟩
     rw[GG]at g3;exact⟨g3.1,λu d hu=>g3.2 _ _ (g2 _ _ (hv u d hu))⟩
   obtain⟨hh,hv⟩:=key
   refine bB (BV _ _ qV) ⟨_,((hr.turn hh hv).put (?_:VR W _ _ _ (.ow i)) SV).1,λr' hn=>kA _ _ _ _ (by rintro rfl;exact hn ⟨Nat.le_refl _,by omega⟩),λq qi hq=>by
    rw[kA];exact hq;rintro rfl;simp[hi]at hq⟩
   exact .ow i ⟨ri.b,l.length+m.length,cap,false⟩ (tA _ _ _) iY (Nat.le_trans W5 c2) rfl
  ·refine grown (some (iA ri.b 0)) cap _ _ md wX (.inl ⟨rfl, .inr ⟨r,ri,F2,hρ,CV,PZ⟩⟩) hx (by omega) holds.1 ?_ H0 SV;exact run_firstCells_some w.drew info.size l.length (iA ri.b 0) l.length cap _ (by rw[holds.1.1,hi2]) (by simpa using holds.2)
 -- what is known of the new row
 have HX:Ev (zD (PF st.h (opd st.s x) (opd st.s y))) (CI (PF st.h (opd st.s x) (opd st.s y)) (VD st.h ro) (opd st.s y)):=by
  cases xZ:PF st.h (opd st.s x) (opd st.s y)
  ·exact .inl rfl
  refine .inr ⟨rfl,λB olds W ri' hB MX rZ mW wV uV=>?_⟩;obtain⟨r2,c,mX,AY,vZ⟩:=vT xZ
  have X5:ro=none∧l=[]∨∃r,ro=some r∧st.h r=some ⟨.arr tn l, .tre⟩∧r≠r2:=by
   rcases vZ with PW | ⟨r,c',PW,QZ,HZ⟩
   ·rw[PW]at LV;simp[kH]at LV;exact .inl ⟨LV.2.symm,LV.1⟩
   ·rw[PW]at LV;simp only[kH,QZ]at LV;cases c' with
    | box=>simp at LV
    | arr t' l1=>
     simp only[show cB.isOwn .tre=true from rfl,cond_true]at LV;split at LV
     case isFalse=>cases LV
     rename_i e1;subst e1;simp only[XF,Option.some.injEq,Prod.mk.injEq]at LV;obtain⟨rfl,rfl⟩:=LV;exact .inr ⟨r,rfl,QZ,HZ⟩
  have Z3:st.h r2=some ⟨.arr tn m, .tre⟩:=by
   rw[mX]at EW;simp only[zL,AY]at EW;cases c with
   | box=>simp at EW
   | arr t' l1=>
    simp only at EW;split at EW
    case isFalse=>cases EW
    rename_i e1;subst e1;simp only[XF,Option.some.injEq]at EW;subst EW;exact AY
  obtain⟨rj,hρj,Y5,_⟩:=hr.heap.rows r2 _ Z3;have V7:=hr.opd y;rw[mX]at V7
  have R9:m=[]∨rj.nl=false∧∀k,k<m.length *sz tn→news[k]?=w.cell? (iA rj.b k):=by
   rcases E0 with h | ⟨b,off,cap,e1,e2⟩
   ·exact .inl h
   ·rcases V7.ow_inv hρj with⟨h1,h2,_⟩ | ⟨ao,h1,h2,h3⟩
    ·rw[e1]at h1;injection h1 with h1 _ _
     injection h1 with h1
     have hb:b=rj.b:=congrArg Addr.block h1;have ho:off=0:=congrArg Addr.off h1;subst hb ho;exact .inr ⟨h2,λk hk=>by rw[e2 k hk,Nat.zero_add]⟩
    ·exact .inl (List.eq_nil_of_length_eq_zero (by have:=Y5.1;omega))
  have hx:l=[]∨∃r ri,ro=some r∧r≠r2∧st.h r=some ⟨.arr tn l, .tre⟩∧ρ r=some ri∧ri.nl=false∧∀k,k<l.length *sz tn→olds[k]?=w.cell? (iA ri.b k):=by
   have:l=[]∨∃r ri,ro=some r∧ρ r=some ri∧ri.nl=false∧∀k,k<l.length *sz tn→olds[k]?=w.cell? (iA ri.b k):=by
    rcases rZ with⟨_,h⟩ | ⟨r,ri,h1,h2,h3,_,h4⟩
    ·exact h
    ·exact .inr ⟨r,ri,h1,h2,h3,h4⟩
   rcases this with h | ⟨r,ri,h1,h2,h3,h4⟩
   ·exact .inl h
   ·rcases X5 with⟨e,_⟩ | ⟨r',e,e2,e3⟩
    ·rw[h1]at e;cases e
    ·rw[h1]at e;cases e;exact .inr ⟨r,ri,h1,e3,e2,h2,h3,h4⟩
  have Z5:∀h:Nat→Option gA,CI true h (opd st.s y)=cA h r2 ((h r2).map λrow=>{row with m:= .own}):=λh=>by rw[mX];rfl
  rw[Z5]at uV⊢;refine pB.append (r2:=r2) (ro:=ro) (rj:=rj) hr.heap hi hB hx Z3 hρj R9 MX HW.1 (λq t1 l1 m1 hq cX=>?_) (λhc=>?_) (λq row qi g1 g2 g3 g4=>?_) mW wV uV
  ·by_cases PY:q=r2
   ·subst PY;rw[tA]at hq;obtain⟨row,_,e⟩:=Option.map_eq_some_iff.1 hq;have:=congrArg gA.m e;simp only at this;subst this;cases cX
   ·rw[kA _ _ _ _ PY]at hq;cases ro with
    | none=>exact⟨⟨m1,hq,cX⟩,by simp,PY⟩
    | some r=>
     simp only[VD]at hq
     by_cases zV:q=r
     ·subst zV;rw[tA]at hq;cases hq
     ·rw[kA _ _ _ _ zV]at hq;exact⟨⟨m1,hq,cX⟩,by simpa using λe=>zV e.symm,PY⟩
  ·rcases rZ with⟨h,_⟩ | ⟨r,ri,h1,h2,h3,h4,_⟩
   ·have:=hc.lt;omega
   ·rcases X5 with⟨e,_⟩ | ⟨r',e,e2,e3⟩
    ·rw[h1]at e;cases e
    ·rw[h1]at e;cases e;rw[←h4];exact .inr ⟨r,_,ri,e2,rfl,h2,h3,rfl⟩
  ·rcases rZ with⟨h,_⟩ | ⟨r,ri,h1,h2,h3,h4,_⟩
   ·obtain⟨ri1,k1,_,k2⟩:=hr.heap.rows q row g1;rw[g2]at k1;cases k1;have:=(k2 g3).2;omega
   ·rcases X5 with⟨e,_⟩ | ⟨r',e,e2,e3⟩
    ·rw[h1]at e;cases e
    ·rw[h1]at e;cases e;intro e;have:=hr.heap.inj q r row _ qi ri g1 e2 g2 h2 g3 h3 (e.trans h4.symm);subst this;exact g4 h1
 have yV:∀(q:Nat) (row':gA),CI (PF st.h (opd st.s x) (opd st.s y)) (VD st.h ro) (opd st.s y) q=some row'→∃row,VD st.h ro q=some row∧row.c=row'.c∧(row'.m.isRo=false→row.m.isRo=false)∧(row'.m.isTre=true→row.m.isTre=true):=λq row' hq=>by
  cases xZ:PF st.h (opd st.s x) (opd st.s y)
  ·rw[xZ]at hq;exact⟨row',hq,rfl,id,id⟩
  ·obtain⟨r2,c,mX,AY,_⟩:=vT xZ;rw[xZ,mX]at hq;have hq:cA (VD st.h ro) r2 ((VD st.h ro r2).map λrow=>{row with m:= .own}) q=some row':=hq
   by_cases PY:q=r2
   ·subst PY;rw[tA]at hq;obtain⟨row,e1,e2⟩:=Option.map_eq_some_iff.1 hq;subst e2;obtain⟨row2,f1,f2,f3,_⟩:=killLess ro q row e1;rw[AY]at f1;refine⟨row,e1,rfl,λ_=>?_,λh=>by cases h⟩;cases JY:ro with
    | none=>rw[JY]at e1;simp only[VD]at e1;rw[AY]at e1;cases e1;rfl
    | some r=>
     rw[JY]at e1;simp only[VD]at e1
     by_cases zV:q=r
     ·subst zV;rw[tA]at e1;cases e1
     ·rw[kA _ _ _ _ zV,AY]at e1;cases e1;rfl
   ·rw[kA _ _ _ _ PY]at hq;exact⟨row',hq,rfl,id,id⟩
 have TX:∀(q:Nat) (row':gA),CI (PF st.h (opd st.s x) (opd st.s y)) (VD st.h ro) (opd st.s y) q=some row'→∃row,st.h q=some row∧row.c=row'.c∧(row'.m.isRo=false→row.m.isRo=false)∧(row'.m.isTre=true→row.m.isTre=true):=λq row' hq=>by
  obtain⟨row,e1,e2,e3,e4⟩:=yV q row' hq;obtain⟨row2,f1,f2,f3,f4⟩:=killLess ro q row e1;exact⟨row2,f1,f2.trans e2,λh=>f3 (e3 h),λh=>f4 (e4 h)⟩
 unfold kH at LV;split at LV
 ·rename_i HV;cases LV;have hx:=hr.opd x;rw[HV]at hx;have vZ:a.eval x= .slice none 0 0:=by generalize a.eval x=v at hx;cases hx;rfl
  exact empty none _ _ HX rfl vZ TX hk
 ·rename_i r HV;split at LV
  case h_2=>cases LV
  rename_i t' l1 m0 sV;cases iZ:m0.isOwn
  case false=>simp[iZ]at LV
  simp only[iZ,cond_true]at LV;split at LV
  case isFalse=>cases LV
  rename_i e1;subst e1;simp only[XF,Option.some.injEq,Prod.mk.injEq]at LV;obtain⟨rfl,rfl⟩:=LV;obtain⟨ri,hρ,FV⟩:=jG hr sV;have RX:ri.n=l1.length:=FV.1;have hx:=hr.opd x;rw[HV]at hx
  rcases hx.ow_inv hρ with⟨h1,h2,h3,h4⟩ | ⟨ao,h1,h2,h3⟩
  ·exact full r l1 m0 ri ri.cap sV (CN iZ) hρ h2 (by simp) (by omega) (Nat.le_refl _) (by rw[←RX];exact h1) _ _ rfl HX yV hk
  ·exact empty ao _ _ HX (List.eq_nil_of_length_eq_zero (by omega)) h1 TX hk
 ·rename_i r t0 len HV;split at LV
  case h_2=>cases LV
  rename_i t' l1 m0 sV;cases iZ:m0.isOwn
  case false=>simp[iZ]at LV
  simp only[iZ,cond_true]at LV;split at LV
  case isFalse=>cases LV
  rename_i e1;subst e1;simp only[XF,Option.some.injEq,Prod.mk.injEq]at LV;obtain⟨rfl,rfl⟩:=LV;obtain⟨ri,hρ,FV⟩:=jG hr sV;have RX:ri.n=l1.length:=FV.1;have hx:=hr.opd x;rw[HV]at hx;obtain⟨ao,cap,h1,h2,h3,h4,h5⟩:=hx.ov_inv hρ;have tV:(l1.take len).length=len:=by simp;omega
  rcases h3 with⟨rfl,rfl⟩ | ⟨rfl,CV,hc⟩
  ·exact empty ao _ _ HX (by simp) h1 TX hk
  ·rw[Nat.zero_mul]at h1;exact full r l1 m0 ri cap sV (CN iZ) hρ CV (by rw[tV]) (by omega) (by omega) (by rw[tV];exact h1) _ _ rfl HX yV hk
 ·cases LV
end
end Go.D
namespace Go.D
variable [aA]
section
variable {C:Cx} {w0:World} {outer:Nat→Prop} {own:Ow} {ρ:Nat→Option RI} {st st':St} {a:Act} {w:World} {h:Nat→Option gA}
omit [aA]in
def zei(s:List UInt8)(p q:Nat):(⟨s.toArray⟩:ByteArray).extract p q=⟨((s.drop p).take (q - p)).toArray⟩:=by
 apply ByteArray.ext;simp[ByteArray.data_extract]
omit [aA]in
def YU{P:Program}(b:Bool)(len cap:Nat)(lo hi:Option Value)(p q:Nat)(MX:∀v,lo=some v→∃k,v= .int k (p:Int))(xX:lo=none→p=0)
  (jZ:∀v,hi=some v→∃k,v= .int k (q:Int)) (gX:hi=none→q=len) (QW:p≤q) (B4:q≤cap):
  (Instr.sliceBounds b len cap lo hi none).run P w= .ok (p,q,cap) w:=by
 have e1:(q:Int)≤cap:=by omega
 have e2:(p:Int)≤q:=by omega
 cases lo with
 | none=>
  obtain rfl:=xX rfl;cases hi with
  | none=>obtain rfl:=gX rfl;simp[Instr.sliceBounds]
  | some v=>obtain⟨k,rfl⟩:=jZ v rfl;simp[Instr.sliceBounds,Instr.sliceBound,asIntOf,B4]
 | some u=>
  obtain⟨k,rfl⟩:=MX u rfl;cases hi with
  | none=>obtain rfl:=gX rfl;simp[Instr.sliceBounds,Instr.sliceBound,asIntOf,QW]
  | some v=>obtain⟨k',rfl⟩:=jZ v rfl;simp[Instr.sliceBounds,Instr.sliceBound,asIntOf,B4,QW]
def YO(hC:VC C){t e:TypeId}{tn:TN}{ao:Option Addr}{len cap p q:Nat}{lo hi:Option Value}(hu:C.P.underlying t=some (.slice e))(jW:nF C e tn=true)
  (MX:∀v,lo=some v→∃k,v= .int k (p:Int)) (xX:lo=none→p=0) (jZ:∀v,hi=some v→∃k,v= .int k (q:Int)) (gX:hi=none→q=len) (QW:p≤q) (B4:q≤cap):
  (Instr.sliceAt t (.slice ao len cap) lo hi none).run C.P w= .ok (.slice (if cap=p then ao else ao.map (·.add (p *sz tn))) (q - p) (cap - p)) w:=by
 simp[Instr.sliceAt,BD hu,Instr.slice,YU (P:=C.P) (w:=w) true len cap lo hi p q MX xX jZ gX QW B4,YF (aQ hC jW)]
variable {o:Oper} {i:Nat} (hr:AA C w0 outer own ρ st a w)
include hr
def zgw(hC:VC C)(t:TypeId)(x:Operand)(lo hi mx:Option Operand)(ho:o.op= .slice t x lo hi mx)(hk:OA C i o st some=some st'):yB C.P o a w (tB C w0 outer own i ρ st'):=by
 simp only[OA,ho]at hk;split at hk
 ·cases hk
 ·cases hk
 rename_i d hu;unfold nJ at hk;split at hk
 ·cases hk
 rename_i len tV;split at hk
 case h_2=>cases hk
 rename_i pa pb I2 RZ;cases hb:(decide (0≤pa)&&decide (pa≤pb)&&decide (pb≤(len:Int)))
 case false=>simp[hb]at hk
 simp only[hb,cond_true]at hk;simp only[Bool.and_eq_true,decide_eq_true_eq]at hb;obtain⟨⟨I0,OY⟩,W7⟩:=hb;obtain⟨p,rfl⟩:=Int.eq_ofNat_of_zero_le I0;obtain⟨q,rfl⟩:=Int.eq_ofNat_of_zero_le (Int.le_trans I0 OY);have QW:p≤q:=by omega
 have UX:q≤len:=by omega
 have e1:((q:Int) - (p:Int)).toNat=q - p:=by omega
 simp only[Int.toNat_natCast,e1]at hk
 have MX:∀v,lo.map a.eval=some v→∃k,v= .int k (p:Int):=λv hv=>by
  obtain⟨y,hy,rfl⟩:=Option.map_eq_some_iff.1 hv;subst hy;have:=hr.opd y;simp only[Option.map_some,EL]at I2;split at I2
  ·rename_i heq;cases heq
  ·rename_i k n heq;cases I2;simp only[Option.some.injEq]at heq;rw[heq]at this;exact⟨k,this.int_inv.1⟩
  ·cases I2
 have xX:lo.map a.eval=none→p=0:=λhv=>by
  have:lo=none:=by simpa using hv
  subst this;simp[EL]at I2;omega
 have jZ:∀v,hi.map a.eval=some v→∃k,v= .int k (q:Int):=λv hv=>by
  obtain⟨y,hy,rfl⟩:=Option.map_eq_some_iff.1 hv;subst hy;have:=hr.opd y;simp only[Option.map_some,EL]at RZ;split at RZ
  ·rename_i heq;cases heq
  ·rename_i k n heq;cases RZ;simp only[Option.some.injEq]at heq;rw[heq]at this;exact⟨k,this.int_inv.1⟩
  ·cases RZ
 have gX:hi.map a.eval=none→q=len:=λhv=>by
  have:hi=none:=by simpa using hv
  subst this;simp[EL]at RZ;omega
 have hx:=hr.opd x;obtain⟨pY,hl⟩:=zaY hr hx tV
 have BV:∀v,(Instr.sliceAt t (a.eval x) (lo.map a.eval) (hi.map a.eval) none).run C.P w= .ok v w→(execOp a.eval o).run C.P w= .ok (.value v) w:=λv h1=>by
  simp[execOp,ho,h1]
 split at hk
 ·rename_i e tn l HV;rw[HV]at hx tV;simp only[bI,Option.some.injEq]at tV;cases jW:nF C e tn
  case false=>simp[jW]at hk
  simp only[jW,iB]at hk;obtain⟨ao,cap,h1,h2,h3,h4⟩:=hx.sl_inv2;rw[tV]at h1 h2;have qV:=YO (w:=w) hC hu jW MX xX jZ gX QW (Nat.le_trans UX h2) (ao:=ao);rw[←h1]at qV;refine bB (BV _ qV) (hr.after ?_ hk)
  by_cases o6:q - p=0
  ·rw[o6,List.take_zero];exact .slE _ _ _ (by omega)
  ·rw[if_neg (by omega)]
   rcases h4 with rfl | ⟨b,off,rfl,EW,uV,wV⟩
   ·simp at tV;omega
   ·replace EW:((l.drop p).take (q - p))≠[]→b<aA.base∨ID w b tn:=λ_=>EW
    simp only[Option.map_some,uD];have C4:((l.drop p).take (q - p)).length=q - p:=by simp;omega
    have:=VR.slC (w:=w) (ρ:=ρ) (bad:=bA outer ρ st.h) tn ((l.drop p).take (q - p)) b (off+p *sz tn) (cap - p)
     (λi j=>(w.cell? (iA b (off+p *sz tn+i *sz tn+j))).getD undef) uV (by omega) (by omega) EW
     (fun i hi j hj=>by
      obtain⟨u,h5,h6⟩:=wV (p+i) (by omega) j hj;rw[show off+p *sz tn+i *sz tn+j=off+(p+i) *sz tn+j by rw[Nat.add_mul];omega,h5];rfl)
     (fun i hi j hj=>by
      obtain⟨u,h5,h6⟩:=wV (p+i) (by omega) j hj
      rw[show off+p *sz tn+i *sz tn+j=off+(p+i) *sz tn+j by rw[Nat.add_mul];omega,h5,Option.getD_some,
       oU l p (q - p) i (by omega) hi]
      exact h6)
    rw[C4]at this;exact this
 ·rename_i s HV;rw[HV]at hx tV;simp only[bI,Option.some.injEq]at tV;obtain⟨h1,h2⟩:=hx.str_inv;have nX:(⟨s.toArray⟩:ByteArray).size=s.length:=by simp[ByteArray.size]
  refine bB (BV (.string ⟨((s.drop p).take (q - p)).toArray⟩) ?_) (hr.after (.str _ (by simp;omega)) hk);rw[h1];have DY:=YU (P:=C.P) (w:=w) false s.length s.length (lo.map a.eval) (hi.map a.eval) p q MX xX jZ (by rw[tV];exact gX) QW (by omega);simp[Instr.sliceAt,BD hu,Instr.slice,nX,DY,zei]
 ·rename_i e r HV;rw[HV]at hx tV;split at hk
  case h_2=>cases hk
  rename_i tn l m sV;cases jW:nF C e tn
  case false=>simp[jW]at hk
  simp only[jW,iB]at hk;simp only[bI,sV,Option.some.injEq]at tV;obtain⟨ri,hρ,FV⟩:=jG hr sV;have RX:ri.n=l.length:=FV.1
  rcases hx.ow_inv hρ with⟨h1,h2,h3,h4⟩ | ⟨ao,h1,h2,h3⟩
  ·have qV:=YO (w:=w) hC hu jW MX xX jZ (λh=>by have:=gX h;omega) QW (show q≤ri.cap by omega) (ao:=some (iA ri.b 0)) (len:=ri.n);rw[←h1]at qV;refine bB (BV _ qV) (hr.after (.ov r tn p (q - p) (ri.cap - p) _ ri hρ (by omega) ?_ (by omega) (by omega)) hk)
   by_cases s6:ri.cap=p
   ·left;omega
   ·right;rw[if_neg s6];refine⟨?_,h2,by omega⟩;simp[uD]
  ·have qV:=YO (w:=w) hC hu jW MX xX jZ (λh=>by have:=gX h;omega) QW (show q≤0 by omega) (ao:=ao) (len:=0);rw[←h1]at qV;exact bB (BV _ qV) (hr.after (.ov r tn p (q - p) (0 - p) _ ri hρ (by omega) (.inl ⟨by omega,by omega⟩) (by omega) (by unfold maxLen;omega)) hk)
 ·rename_i e r tn off len' HV;rw[HV]at hx tV;cases jW:nF C e tn
  case false=>simp[jW]at hk
  simp only[jW,iB]at hk;simp only[bI,Option.some.injEq]at tV;obtain⟨ri,hρ⟩:=hx.ov_row;obtain⟨ao,cap,h1,h2,h3,h4,h5⟩:=hx.ov_inv hρ;have qV:=YO (w:=w) hC hu jW MX xX jZ (λh=>by have:=gX h;omega) QW (show q≤cap by omega) (ao:=ao) (len:=len');rw[←h1]at qV;have g1:q - p≤cap - p:=Nat.sub_le_sub_right (Nat.le_trans UX (by rw[←tV];exact h4)) p;have g2:cap - p≤maxLen:=Nat.le_trans (Nat.sub_le _ _) h5
  have g3:off+p+(q - p)≤ri.n:=by
   rw[Nat.add_assoc,Nat.add_sub_cancel' QW];exact Nat.le_trans (Nat.add_le_add_left (by rw[tV];exact UX) off) h2
  refine bB (BV _ qV) (hr.after (.ov r tn (off+p) (q - p) (cap - p) _ ri hρ g3 ?_ g1 g2) hk)
  rcases h3 with⟨h6,h7⟩ | ⟨rfl,h6,h7⟩
  ·left;omega
  ·by_cases s6:cap=p
   ·left;omega
   ·right;rw[if_neg s6];refine⟨?_,h6,by omega⟩;simp[uD,Nat.add_mul]
 ·cases hk
end
end Go.D

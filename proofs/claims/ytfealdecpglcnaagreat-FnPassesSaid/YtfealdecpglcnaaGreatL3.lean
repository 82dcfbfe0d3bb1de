/-
 One operation, continued: numbers, texts, parts of slices.
-/
import Derived.Test.YtfealdecpglcnaaGreatL2
import Derived.Deep.Upon
set_option linter.all false
namespace Go.D
variable [jA]
omit [jA]in
def zjO(k:IntKind)(n:Int)(m:Nat)(h:sE k n):sE k (n.fdiv (2^m)):=by
 have hp:(0:Int)<2^m:=Int.pow_pos (by decide);rw[Int.fdiv_eq_ediv_of_nonneg _ (Int.le_of_lt hp)];obtain⟨h1,h2⟩:=h;have s9:k.min≤0:=by cases k<;>decide
 have zZ:0≤k.max:=by cases k<;>decide
 by_cases hn:0≤n
 ·have a1:=Int.ediv_nonneg hn (Int.le_of_lt hp);have a2:=Int.ediv_le_self (2^m) hn;exact⟨by omega,by omega⟩
 ·have a1:n / 2^m<0:=Int.ediv_neg_of_neg_of_pos (by omega) hp
  have a2:n≤n / 2^m:=by
   rw[Int.le_ediv_iff_mul_le hp];have:1≤(2:Int)^m:=by omega
   have h3:=Int.mul_le_mul_of_nonpos_left (a:=n) (b:=2^m) (c:=1) (by omega) this;simpa using h3
  exact⟨by omega,by omega⟩
omit [jA]in
def zsZ(k:IntKind)(n m:Int)(h:sE k n):sE k (n.tmod m):=by
 obtain⟨h1,h2⟩:=h;have s9:k.min≤0:=by cases k<;>decide
 have zZ:0≤k.max:=by cases k<;>decide
 have e1:=Int.natAbs_tmod n m;have e2:=Nat.mod_le n.natAbs m.natAbs
 by_cases hn:0≤n
 ·have a1:=Int.tmod_nonneg m hn;exact⟨by omega,by omega⟩
 ·have e:n.tmod m= -((-n).tmod m):=by rw[Int.neg_tmod,Int.neg_neg]
  have a1:=Int.tmod_nonneg (a:= -n) m (by omega);exact⟨by omega,by omega⟩
section
variable {C:Cx} {w0:World} {outer own:Nat→Prop} {ρ:Nat→Option RI} {st st':St} {a:Act} {w:World} {h:Nat→Option tA}
variable {o:Oper} {i:Nat} (hr:bB C w0 outer own ρ st a w)
def zu9{bad:Nat→Prop}{op:BinOp}{t:TypeId}{vx vy:Value}{dx dy d:V}(hx:VR w ρ bad vx dx)(hy:VR w ρ bad vy dy)
  (hd:zgK op dx dy=some d) (x y:Operand):∃v,VR w ρ bad v d∧((do eqGuard op t x y vx vy;binOp op t vx vy):Sem Value).run C.P w= .ok v w:=by
 unfold zgK at hd;split at hd
 ·rename_i k p k' q
  have U2:∀{α:Type} {y z:α},(bif decide (k=k')then some y else none)=some z→k=k'∧y=z:=λh=>by
   grind
  have nW:sE k p:=by cases hx;assumption
  have V3:vx= .int k p:=by cases hx;rfl
  have mZ:vy= .int k' q:=by cases hy;rfl
  subst V3 mZ
  cases op<;>simp only at hd<;>first
   | (obtain⟨rfl,rfl⟩:=U2 hd;refine⟨_, .int _ _ (HR _ _),?_⟩;simp[eqGuard,binOp,Op.intArith,Op.intBits];done)
   | (obtain⟨rfl,rfl⟩:=U2 hd;refine⟨_, .bool _,?_⟩;simp[eqGuard,binOp,Op.intCmp];done)
   | (split at hd
      ·cases hd
      ·cases hd;rename_i hq;refine⟨_, .int _ _ (by first | exact HR _ _ | exact zjO _ _ _ nW),?_⟩;simp[eqGuard,binOp,Op.shift,hq];done)
   | (cases hd;done)
 ·rename_i p q;have V3:vx= .string ⟨p.toArray⟩:=by cases hx;rfl
  have mZ:vy= .string ⟨q.toArray⟩:=by cases hy;rfl
  subst V3 mZ
  cases op<;>first
   | (cases hd;done)
   | (cases hd;refine⟨_, .bool _,?_⟩;simp[eqGuard,binOp,Op.stringOp];done)
 ·cases hd
def zvs{bad:Nat→Prop}{op:BinOp}{t:TypeId}{vx vy:Value}{dx dy:V}{R:Type}{K:V→Option R}{r:R}(hx:VR w ρ bad vx dx)(hy:VR w ρ bad vy dy)
  (hk:JM op dx dy K=some r) (x y:Operand):
  ∃d v,K d=some r∧VR w ρ bad v d∧((do eqGuard op t x y vx vy;binOp op t vx vy):Sem Value).run C.P w= .ok v w:=by
 unfold JM at hk;split at hk
 ·-- quo
  rename_i k p k' q
  by_cases AZ:k=k'
  case neg=>simp[AZ]at hk
  subst AZ;cases hq:(q==0)
  case true=>simp[hq]at hk
  simp only[decide_true,cond_true,hq,cond_false]at hk;cases hx;cases hy;refine⟨_, .int k (k.wrap (p.tdiv q)),hk, .int _ _ (HR _ _),?_⟩;have:q≠0:=by simpa using hq
  simp[eqGuard,binOp,Op.intDiv,this]
 ·rename_i k p k' q
  by_cases AZ:k=k'
  case neg=>simp[AZ]at hk
  subst AZ;cases hq:(q==0)
  case true=>simp[hq]at hk
  simp only[decide_true,cond_true,hq,cond_false]at hk;cases hx;cases hy;refine⟨_, .int k (p.tmod q),hk, .int _ _ (zsZ _ _ _ (by assumption)),?_⟩;have:q≠0:=by simpa using hq
  simp[eqGuard,binOp,Op.intDiv,this]
 ·rename_i k p k' q
  by_cases hq:q<0
  case pos=>simp[hq]at hk
  simp only[hq,decide_false,cond_false]at hk;cases hx;cases hy;refine⟨_,_,hk, .int _ _ (HR _ _),?_⟩;simp[eqGuard,binOp,Op.shift,hq]
 ·rename_i k p k' q
  by_cases hq:q<0
  case pos=>simp[hq]at hk
  simp only[hq,decide_false,cond_false]at hk;cases hx;cases hy;refine⟨_,_,hk, .int _ _ (zjO _ _ _ (by assumption)),?_⟩;simp[eqGuard,binOp,Op.shift,hq]
 ·rename_i p q
  by_cases hq:p.length+q.length≤bA
  case neg=>simp[hq]at hk
  simp only[hq,decide_true,cond_true]at hk;cases hx;cases hy;have hl:bA≤1000000000000:=by unfold bA;decide
  refine⟨_, .string ⟨(p++q).toArray⟩,hk, .str _ (by simp[maxLen];omega),?_⟩
  have h1:¬(IntKind.i64.max<((p.length+q.length:Nat):Int)):=by
   simp only[IntKind.max,IntKind.signed,IntKind.bits];simp;omega
  have h2:(p.length:Int)+q.length≤IntKind.i64.max:=by
   grind
  have zX:(⟨p.toArray⟩:ByteArray).size=p.length:=by simp[ByteArray.size]
  have t5:(⟨q.toArray⟩:ByteArray).size=q.length:=by simp[ByteArray.size]
  simp[eqGuard,binOp,Op.stringOp,ByteArray.mk_append_mk,zX,t5]
  grind
 ·split at hk
  case h_2=>cases hk
  rename_i d hd;obtain⟨v,h1,h2⟩:=zu9 (w:=w) hx hy hd (t:=t) x y;exact⟨d,v,hk,h1,h2⟩
end
end Go.D
namespace Go.D
variable [jA]
section
variable {C:Cx} {w0:World} {outer own:Nat→Prop} {ρ:Nat→Option RI} {st st':St} {a:Act} {w:World} {h:Nat→Option tA}
omit [jA]in
def zkG(n:Nat){P:Program}{t:TypeId}{k:IntKind}(hu:P.underlying t=some (.int k))(j:IntKind)(x y:Int):(Op.equalIn (n+1) t (.int j x) (.int j y)).run P w= .ok (x==y) w:=by
 rw[Op.equalIn];simp[tF hu]
omit [jA]in
def zj3(n:Nat){P:Program}{t:TypeId}(hu:P.underlying t=some .bool)(x y:Bool):(Op.equalIn (n+1) t (.bool x) (.bool y)).run P w= .ok (x==y) w:=by
 rw[Op.equalIn];simp[tF hu]
omit [jA]in
def ZN{P:Program}{t:TypeId}(h1:bF P t=some false){vs:Array Value}{k:Nat}(hk:k<vs.size):(part t vs k).run P w= .ok (vs.getD k undef) w:=by
 rw[Array.getD_eq_getD_getElem?,Array.getElem?_eq_getElem hk];simp[part,CR h1,Array.getElem?_eq_getElem hk]
def bK(n:Nat)(xs ys:Array Value)(f:Field)(_:Option Bool×Unit):Sem (ForInStep (Option Bool×Unit)):=
 if f.name ≠ "_" then do
  let __do_lift ←part f.type xs f.offset;let __do_lift_1 ←part f.type ys f.offset;let __do_lift ←Op.equalIn n f.type __do_lift __do_lift_1
  if(!__do_lift)=true then pure (ForInStep.done (some false,()))
   else pure (ForInStep.yield (none,()))
 else pure (ForInStep.yield (none,()))
def zlc(n:Nat){P:Program}{bad:Nat→Prop}(xs ys:Array Value):∀(fl:List Field) (ks:List Bool) (k:Nat) (dxs dys:List V) (b:Bool),KJ P k fl=some ks→pE ks dxs dys=some b→
  k+fl.length≤xs.size→k+fl.length≤ys.size→(∀j (hj:j<dxs.length),VR w ρ bad (xs.getD (k+j) undef) dxs[j])→(∀j (hj:j<dys.length),VR w ρ bad (ys.getD (k+j) undef) dys[j])→
  (forIn fl ((none,()):Option Bool×Unit) (bK (n+1) xs ys)).run P w= .ok (bif b then(none,())else(some false,())) w
 | [],ks,k,dxs,dys,b,hf,he,_,_,_,_=>by
  simp only[KJ,Option.some.injEq]at hf;subst hf;cases dxs<;>cases dys<;>simp[pE]at he
  subst he;simp
 | f :: fl,ks,k,dxs,dys,b,hf,he,hx,hy,SZ,TZ=>by
  simp only[KJ]at hf
  cases hb : (f.name != "_" && Nat.beq f.offset k)
  case false=>simp[hb]at hf
  simp only[hb,cond_true]at hf;simp only[Bool.and_eq_true,bne_iff_ne,ne_eq]at hb;obtain⟨JW,mY⟩:=hb;have mY:=Nat.eq_of_beq_eq_true mY;simp only[List.length_cons]at hx hy
  have main:∀(dx dy:V) (dxs' dys':List V) (ks':List Bool) (q b':Bool),dxs=dx :: dxs'→dys=dy :: dys'→KJ P (k+1) fl=some ks'→bF P f.type=some false→
    (Op.equalIn (n+1) f.type (xs.getD k undef) (ys.getD k undef)).run P w= .ok q w→pE ks' dxs' dys'=some b'→b=(bif q then b' else false)→
    (forIn (f :: fl) ((none,()):Option Bool×Unit) (bK (n+1) xs ys)).run P w= .ok (bif b then(none,())else(some false,())) w:=λdx dy dxs' dys' ks' q b' hdx hdy WV yW h1 h2 h3=>by
   subst hdx hdy;have t9:=ZN (P:=P) (w:=w) yW (show k<xs.size by omega);have u9:=ZN (P:=P) (w:=w) yW (show k<ys.size by omega)
   have ih:=zlc n xs ys fl ks' (k+1) dxs' dys' b' WV h2 (by omega) (by omega)
    (λj hj=>by have:=SZ (j+1) (by simp;omega);rwa [show k+(j+1)=k+1+j by omega]at this)
    (λj hj=>by have:=TZ (j+1) (by simp;omega);rwa [show k+(j+1)=k+1+j by omega]at this)
   rw[List.forIn_cons,Sem.run_bind]
   have hb:(bK (n+1) xs ys f (none,())).run P w= .ok (bif q then ForInStep.yield (none,())else ForInStep.done (some false,())) w:=by
    unfold bK;rw[if_pos JW,mY];simp only[Sem.run_bind,t9,u9,Result.andThen_ok,h1];cases q<;>simp
   rw[hb,Result.andThen_ok];subst h3;cases q with
   | false=>simp
   | true=>simpa using ih
  split at hf
  ·rename_i ks' hu WV;cases hf;unfold pE at he;split at he
   ·simp_all
   ·simp_all
   ·rename_i ks'' p xs' q ys' h1;cases h1;obtain⟨b',h3,h4⟩:=Option.map_eq_some_iff.1 he;have ZX:=SZ 0 (by simp);have tY:=TZ 0 (by simp);simp only[Nat.add_zero,List.getElem_cons_zero]at ZX tY;have e1:xs.getD k undef= .bool p:=by generalize xs.getD k undef=v at ZX;cases ZX;rfl
    have e2:ys.getD k undef= .bool q:=by generalize ys.getD k undef=v at tY;cases tY;rfl
    exact main _ _ _ _ _ (p==q) b' rfl rfl WV (by simp[bF,hu]) (by rw[e1,e2];exact zj3 n hu p q) h3 h4.symm
   ·cases he
  ·rename_i ki ks' hu WV;cases hf;unfold pE at he;split at he
   ·simp_all
   ·rename_i ks'' j p xs' k' q ys' h1;cases h1
    by_cases SY:j=k'
    case neg=>simp[SY]at he
    subst SY;simp only[decide_true,cond_true,Option.map_eq_some_iff]at he;obtain⟨b',h3,h4⟩:=he;have ZX:=SZ 0 (by simp);have tY:=TZ 0 (by simp);simp only[Nat.add_zero,List.getElem_cons_zero]at ZX tY;have e1:xs.getD k undef= .int j p:=by generalize xs.getD k undef=v at ZX;cases ZX;rfl
    have e2:ys.getD k undef= .int j q:=by generalize ys.getD k undef=v at tY;cases tY;rfl
    exact main _ _ _ _ _ (p==q) b' rfl rfl WV (by simp[bF,hu]) (by rw[e1,e2];exact zkG n hu j p q) h3 h4.symm
   ·rename_i h1;cases h1
   ·cases he
  ·cases hf
omit [jA]in
def zeg{P:Program}:∀(fl:List Field) (k:Nat) (ks:List Bool),KJ P k fl=some ks→ks.length=fl.length
 | [],_,_,h=>by simp[KJ]at h;subst h;rfl
 | f :: fl,k,ks,h=>by
  simp only[KJ]at h
  cases hb : (f.name != "_" && Nat.beq f.offset k)
  case false=>simp[hb]at h
  simp only[hb,cond_true]at h;split at h
  ·rename_i ks' _ h1;cases h;simp[zeg fl _ _ h1]
  ·rename_i ks' _ h1;cases h;simp[zeg fl _ _ h1]
  ·cases h
omit [jA]in
def za6:∀(ks:List Bool) (xs ys:List V) (b:Bool),pE ks xs ys=some b→xs.length=ks.length∧ys.length=ks.length
 | [],xs,ys,b,h=>by cases xs<;>cases ys<;>simp[pE]at h;exact⟨rfl,rfl⟩
 | k :: ks,xs,ys,b,h=>by
  unfold pE at h;split at h
  ·rename_i h1;cases h1
  ·rename_i ks' j p xs' k' q ys' h1;cases h1;cases SY:decide (j=k')
   ·simp[SY]at h
   ·simp only[SY,cond_true,Option.map_eq_some_iff]at h;obtain⟨b',h2,_⟩:=h;have:=za6 _ _ _ _ h2;simp[this]
  ·rename_i ks' p xs' q ys' h1;cases h1;obtain⟨b',h2,_⟩:=Option.map_eq_some_iff.1 h;have:=za6 _ _ _ _ h2;simp[this]
  ·cases h
omit [jA]in
def zeo:∀(k1 ks:List Bool) (xs ys:List V) (b:Bool),pE (k1++ks) xs ys=some b→
  ∃b1 b2,pE k1 (xs.take k1.length) (ys.take k1.length)=some b1∧pE ks (xs.drop k1.length) (ys.drop k1.length)=some b2∧b=(bif b1 then b2 else false)
 | [],ks,xs,ys,b,h=>⟨true,b,by simp[pE],by simpa using h,rfl⟩
 | k :: k1,ks,xs,ys,b,h=>by
  rw[List.cons_append]at h;unfold pE at h;split at h
  ·rename_i h1;cases h1
  ·rename_i ks' j p xs' k' q ys' h1;cases h1;cases SY:decide (j=k')
   ·simp[SY]at h
   ·simp only[SY,cond_true,Option.map_eq_some_iff]at h;obtain⟨b',h2,h3⟩:=h;obtain⟨b1,b2,e1,e2,e3⟩:=zeo _ _ _ _ _ h2;refine⟨bif p==q then b1 else false,b2,?_,by simpa using e2,?_⟩
    ·simp only[List.length_cons,List.take_succ_cons,pE,SY,cond_true,e1,Option.map_some]
    ·rw[←h3,e3];cases(p==q)<;>cases b1<;>rfl
  ·rename_i ks' p xs' q ys' h1;cases h1;obtain⟨b',h2,h3⟩:=Option.map_eq_some_iff.1 h;obtain⟨b1,b2,e1,e2,e3⟩:=zeo _ _ _ _ _ h2;refine⟨bif p==q then b1 else false,b2,?_,by simpa using e2,?_⟩
   ·simp only[List.length_cons,List.take_succ_cons,pE,e1,Option.map_some]
   ·rw[←h3,e3];cases(p==q)<;>cases b1<;>rfl
  ·cases h
omit [jA]in
def zkm{P:Program}{t:TypeId}(h1:bF P t=some true){n:Nat}(h2:oF P t=some n){vs:Array Value}{k:Nat}(hk:k+n≤vs.size):
  (part t vs k).run P w= .ok (.agg (vs.extract k (k+n))) w:=by
 have:¬vs.size<k+n:=by omega
 simp[part,CR h1,PK h2]
def zso(n:Nat){P:Program}{bad:Nat→Prop}{t:TypeId}{gs:Array Field}(hu:P.underlying t=some (.struct gs))(B1:P.stoodInHeld t=false)(xs ys:Array Value)(ks:List Bool)(dxs dys:List V)(b:Bool)
  (hf:KJ P 0 gs.toList=some ks) (he:pE ks dxs dys=some b) (hx:dxs.length=xs.size) (hy:dys.length=ys.size)
  (SZ:∀j (hj:j<dxs.length),VR w ρ bad (xs.getD j undef) dxs[j]) (TZ:∀j (hj:j<dys.length),VR w ρ bad (ys.getD j undef) dys[j]):
  (Op.equalIn (n+2) t (.agg xs) (.agg ys)).run P w= .ok b w:=by
 have LV:=zeg _ _ _ hf;obtain⟨l1,l2⟩:=za6 _ _ _ _ he;have o0:=zlc n (P:=P) (w:=w) xs ys gs.toList ks 0 dxs dys b hf he (by omega) (by omega) (by simpa using SZ) (by simpa using TZ);rw[Op.equalIn];simp only[Sem.run_bind,tF hu,Result.andThen_ok,run_program,B1,Bool.false_eq_true,if_false];rw[←Array.forIn_toList];change ((forIn gs.toList ((none,()):Option Bool×Unit) (bK (n+1) xs ys)).run P w).andThen _=_;rw[o0,Result.andThen_ok];cases b<;>simp
def zkf(n:Nat){P:Program}{bad:Nat→Prop}(xs ys:Array Value):∀(fl:List Field) (ks:List Bool) (k:Nat) (dxs dys:List V) (b:Bool),LL P k fl=some ks→pE ks dxs dys=some b→
  k+dxs.length≤xs.size→k+dys.length≤ys.size→(∀j (hj:j<dxs.length),VR w ρ bad (xs.getD (k+j) undef) dxs[j])→(∀j (hj:j<dys.length),VR w ρ bad (ys.getD (k+j) undef) dys[j])→
  (forIn fl ((none,()):Option Bool×Unit) (bK (n+2) xs ys)).run P w= .ok (bif b then(none,())else(some false,())) w
 | [],ks,k,dxs,dys,b,hf,he,_,_,_,_=>by
  simp only[LL,Option.some.injEq]at hf;subst hf;cases dxs<;>cases dys<;>simp[pE]at he
  subst he;simp
 | f :: fl,ks,k,dxs,dys,b,hf,he,hx,hy,SZ,TZ=>by
  simp only[LL]at hf
  cases hb : (f.name != "_" && Nat.beq f.offset k)
  case false=>simp[hb]at hf
  simp only[hb,cond_true]at hf;simp only[Bool.and_eq_true,bne_iff_ne,ne_eq]at hb;obtain⟨JW,mY⟩:=hb;have mY:=Nat.eq_of_beq_eq_true mY
  have main:∀(m:Nat) (ks':List Bool) (q b':Bool) (px py:Value),LL P (k+m) fl=some ks'→m≤dxs.length→m≤dys.length→
    (part f.type xs k).run P w= .ok px w→(part f.type ys k).run P w= .ok py w→
    (Op.equalIn (n+2) f.type px py).run P w= .ok q w→pE ks' (dxs.drop m) (dys.drop m)=some b'→b=(bif q then b' else false)→
    (forIn (f :: fl) ((none,()):Option Bool×Unit) (bK (n+2) xs ys)).run P w= .ok (bif b then(none,())else(some false,())) w:=λm ks' q b' px py WV hm1 W3 t9 u9 h1 h2 h3=>by
   have ih:=zkf n xs ys fl ks' (k+m) (dxs.drop m) (dys.drop m) b' WV h2 (by simp;omega) (by simp;omega)
    (λj hj=>by have:=SZ (m+j) (by simp at hj;omega);rw[List.getElem_drop];rwa [show k+(m+j)=k+m+j by omega]at this)
    (λj hj=>by have:=TZ (m+j) (by simp at hj;omega);rw[List.getElem_drop];rwa [show k+(m+j)=k+m+j by omega]at this)
   rw[List.forIn_cons,Sem.run_bind]
   have hb:(bK (n+2) xs ys f (none,())).run P w= .ok (bif q then ForInStep.yield (none,())else ForInStep.done (some false,())) w:=by
    unfold bK;rw[if_pos JW,mY];simp only[Sem.run_bind,t9,u9,Result.andThen_ok,h1];cases q<;>simp
   rw[hb,Result.andThen_ok];subst h3;cases q with
   | false=>simp
   | true=>simpa using ih
  split at hf
  ·rename_i hu;split at hf
   case h_2=>cases hf
   rename_i ks' WV;cases hf;unfold pE at he;split at he
   ·simp_all
   ·simp_all
   ·rename_i ks'' p xs' q ys' h1;cases h1;obtain⟨b',h3,h4⟩:=Option.map_eq_some_iff.1 he;have ZX:=SZ 0 (by simp);have tY:=TZ 0 (by simp);simp only[Nat.add_zero,List.getElem_cons_zero]at ZX tY;have e1:xs.getD k undef= .bool p:=by generalize xs.getD k undef=v at ZX;cases ZX;rfl
    have e2:ys.getD k undef= .bool q:=by generalize ys.getD k undef=v at tY;cases tY;rfl
    have yW:bF P f.type=some false:=by simp[bF,hu]
    simp only[List.length_cons]at hx hy;exact main 1 ks' (p==q) b' _ _ WV (by simp) (by simp) (ZN yW (show k<xs.size by omega)) (ZN yW (show k<ys.size by omega)) (by rw[e1,e2];exact zj3 (n+1) hu p q) (by simpa using h3) h4.symm
   ·cases he
  ·rename_i ki hu;split at hf
   case h_2=>cases hf
   rename_i ks' WV;cases hf;unfold pE at he;split at he
   ·simp_all
   ·rename_i ks'' j p xs' k' q ys' h1;cases h1
    by_cases SY:j=k'
    case neg=>simp[SY]at he
    subst SY;simp only[decide_true,cond_true,Option.map_eq_some_iff]at he;obtain⟨b',h3,h4⟩:=he;have ZX:=SZ 0 (by simp);have tY:=TZ 0 (by simp);simp only[Nat.add_zero,List.getElem_cons_zero]at ZX tY;have e1:xs.getD k undef= .int j p:=by generalize xs.getD k undef=v at ZX;cases ZX;rfl
    have e2:ys.getD k undef= .int j q:=by generalize ys.getD k undef=v at tY;cases tY;rfl
    have yW:bF P f.type=some false:=by simp[bF,hu]
    simp only[List.length_cons]at hx hy;exact main 1 ks' (p==q) b' _ _ WV (by simp) (by simp) (ZN yW (show k<xs.size by omega)) (ZN yW (show k<ys.size by omega)) (by rw[e1,e2];exact zkG (n+1) hu j p q) (by simpa using h3) h4.symm
   ·rename_i h1;cases h1
   ·cases he
  ·rename_i gs hu;split at hf
   case h_2=>cases hf
   rename_i k1 BZ;cases hg:(!(P.stoodInHeld f.type)&&decide (oF P f.type=some k1.length))
   case false=>simp[hg]at hf
   simp only[hg,cond_true]at hf;simp only[Bool.and_eq_true,Bool.not_eq_true',decide_eq_true_eq]at hg;split at hf
   case h_2=>cases hf
   rename_i ks' WV;cases hf;obtain⟨b1,b2,e1,e2,e3⟩:=zeo _ _ _ _ _ he;obtain⟨l1,l2⟩:=za6 _ _ _ _ he;simp only[List.length_append]at l1 l2;have yW:bF P f.type=some true:=by simp[bF,hu]
   refine main k1.length ks' b1 b2 _ _ WV (by omega) (by omega) (zkm yW hg.2 (by omega)) (zkm yW hg.2 (by omega)) ?_ e2 e3;refine zso n (ρ:=ρ) (bad:=bad) hu hg.1 _ _ k1 _ _ b1 BZ e1 (by simp;omega) (by simp;omega) (λj hj=>?_) (λj hj=>?_)
   ·have:=SZ j (by simp at hj;omega);rw[List.getElem_take];rw[Array.getD_eq_getD_getElem?]at this⊢;have hq:k+j<xs.size:=by simp at hj;omega
    rw[Array.getElem?_extract_of_lt (by simp at hj;omega)];simpa[Array.getElem?_eq_getElem hq]using this
   ·have:=TZ j (by simp at hj;omega);rw[List.getElem_take];rw[Array.getD_eq_getD_getElem?]at this⊢;have hq:k+j<ys.size:=by simp at hj;omega
    rw[Array.getElem?_extract_of_lt (by simp at hj;omega)];simpa[Array.getElem?_eq_getElem hq]using this
  ·cases hf
variable {o:Oper} {i:Nat} (hr:bB C w0 outer own ρ st a w)
include hr
def zuh(op:BinOp)(t t':TypeId)(x y:Operand)(ho:o.op= .binOp op t x y t')(hk:rB C i o st some=some st'):KC C.P o a w (DC C w0 outer own i ρ st'):=by
 simp only[rB,ho]at hk;have hx:=hr.opd x;have hy:=hr.opd y;split at hk
 ·rename_i dxs dys h1 h2;rw[h1]at hx;rw[h2]at hy;split at hk
  case h_2=>cases hk
  rename_i ks kY;split at hk
  case h_2=>cases hk
  rename_i b hb;unfold zjm at kY;split at kY
  case h_2=>cases kY
  rename_i fs hu;cases hg:(!(C.P.stoodInHeld t)&&!(C.P.eqGuardType C.P.depth t))
  case false=>simp[hg]at kY
  simp only[hg,cond_true]at kY;simp only[Bool.and_eq_true,Bool.not_eq_true']at hg;cases nW:a.eval x<;>rw[nW]at hx<;>cases hx
  cases V2:a.eval y<;>rw[V2]at hy<;>cases hy
  rename_i xs v5 V3 ys z8 mZ;have o0:=zkf 9997 (P:=C.P) (w:=w) xs ys fs.toList ks 0 dxs dys b kY hb (by omega) (by omega) (by simpa using V3) (by simpa using mZ)
  have heq:(Op.equal t (.agg xs) (.agg ys)).run C.P w= .ok b w:=by
   unfold Op.equal Op.maxDepth;rw[Op.equalIn];simp only[Sem.run_bind,tF hu,Result.andThen_ok,run_program,hg.1,Bool.false_eq_true,if_false];rw[←Array.forIn_toList];change ((forIn fs.toList ((none,()):Option Bool×Unit) (bK 9999 xs ys)).run C.P w).andThen _=_;rw[o0,Result.andThen_ok];cases b<;>simp
  have X3:∀op',(eqGuard op' t x y (.agg xs) (.agg ys)).run C.P w= .ok () w:=λop'=>by
   unfold eqGuard;split<;>simp[hg.2]
  cases op<;>first
   | (cases hk;done)
   | (refine lC (w':=w) ?_ (hr.after (.bool _) hk)
      simp[execOp,ho,nW,V2,X3,binOp,heq];done)
 ·rename_i p q h1 h2;rw[h1]at hx;rw[h2]at hy;split at hk
  case h_2=>cases hk
  rename_i hu;cases nW:a.eval x<;>rw[nW]at hx<;>cases hx
  cases V2:a.eval y<;>rw[V2]at hy<;>cases hy
  have heq:(Op.equal t (.bool p) (.bool q)).run C.P w= .ok (p==q) w:=by
   unfold Op.equal Op.maxDepth;rw[Op.equalIn];simp[tF hu]
  cases op<;>first
   | (cases hk;done)
   | (refine lC (w':=w) ?_ (hr.after (.bool _) hk)
      simp[execOp,ho,nW,V2,eqGuard,binOp,heq];done)
 ·rename_i b h1 h2;rw[h1]at hx;rw[h2]at hy;split at hk
  case h_2=>cases hk
  rename_i hu
  have heq:(Op.equal t (a.eval x) .nilIface).run C.P w= .ok b w:=by
   unfold Op.equal Op.maxDepth;cases nW:a.eval x<;>rw[nW]at hx<;>cases hx<;>rw[Op.equalIn]<;>simp[tF hu]
  cases V2:a.eval (.const _)<;>rw[V2]at hy<;>cases hy
  cases nW:a.eval x<;>rw[nW]at hx heq<;>cases hx<;>cases op<;>first
   | (cases hk;done)
   | (refine lC (w':=w) ?_ (hr.after (.bool _) hk)
      simp[execOp,ho,nW,V2,eqGuard,binOp,heq];done)
 ·obtain⟨d,v,h3,h4,h5⟩:=zvs (C:=C) hx hy hk (t:=t) x y;refine lC (v:=v) (w':=w) ?_ (hr.after h4 h3)
  have v9:((eqGuard op t x y (a.eval x) (a.eval y)).run C.P w).andThen (λ_ w'=>(binOp op t (a.eval x) (a.eval y)).run C.P w')= .ok v w:=by
   rw[←Sem.run_bind];exact h5
  simp only[execOp,ho,Sem.run_bind,Sem.run_pure];rw[v9];rfl
end
end Go.D
namespace Go.D
variable [jA]
section
variable {C:Cx} {w0:World} {outer own:Nat→Prop} {ρ:Nat→Option RI} {st st':St} {a:Act} {w:World} {h:Nat→Option tA}
def VR.ow_inv{bad:Nat→Prop}{v:Value}{r:Nat}{ri:RI}(h:VR w ρ bad v (.ow r))(hρ:ρ r=some ri):
  (v= .slice (some (at_ ri.b 0)) ri.n ri.cap∧ri.nl=false∧ri.n≤ri.cap∧ri.cap≤maxLen)∨(∃ao,v= .slice ao 0 0∧ri.nl=true∧ri.n=0):=by
 cases h with
 | ow _ ri' h1 h2 h3 h4=>rw[hρ]at h1;cases h1;exact .inl ⟨rfl,h4,h2,h3⟩
 | owN _ ri' ao h1 h2 h3=>rw[hρ]at h1;cases h1;exact .inr ⟨ao,rfl,h3,h2⟩
def VR.ov_inv{bad:Nat→Prop}{v:Value}{r off len:Nat}{t:TN}{ri:RI}(h:VR w ρ bad v (.ov r t off len))(hρ:ρ r=some ri):
  ∃ao cap,v= .slice ao len cap∧off+len≤ri.n∧(len=0∧cap=0∨ao=some (at_ ri.b (off *sz t))∧ri.nl=false∧off+cap≤ri.cap)∧len≤cap∧cap≤maxLen:=by
 cases h with
 | ov _ _ _ _ cap ao ri' h1 h2 h3 h4 h5=>rw[hρ]at h1;cases h1;exact⟨ao,cap,rfl,h2,h3,h4,h5⟩
def VR.ov_row{bad:Nat→Prop}{v:Value}{r off len:Nat}{t:TN}(h:VR w ρ bad v (.ov r t off len)):∃ri,ρ r=some ri:=by
 cases h with
 | ov _ _ _ _ cap ao ri' h1 h2 h3 h4 h5=>exact⟨_,h1⟩
def VR.bp_inv{bad:Nat→Prop}{v:Value}{r off:Nat}(h:VR w ρ bad v (.bp r off)):∃ri,ρ r=some ri∧v= .pointer (some (at_ ri.b off))∧ri.nl=false:=by
 cases h with
 | bp _ _ ri h1 h2=>exact⟨ri,h1,rfl,h2⟩
def VR.sl_inv{bad:Nat→Prop}{v:Value}{t:TN}{l:List (El t)}(h:VR w ρ bad v (.sl t l)):
  ∃ao cap,v= .slice ao l.length cap∧l.length≤cap∧cap≤maxLen∧(l=[]∨∃b off,ao=some (at_ b off)∧¬bad b∧
   ∀i (hi:i<l.length) j,j<sz t→∃u,w.cell? (at_ b (off+i *sz t+j))=some u∧VR w ρ bad u ((enc t l[i]).getD j .undef)):=by
 cases h with
 | slE _ ao cap h=>exact⟨ao,cap,rfl,Nat.zero_le _,h, .inl rfl⟩
 | slC _ _ b off cap u hb hl hc he hu hv=>exact⟨_,cap,rfl,hl,hc, .inr ⟨b,off,rfl,hb,λi hi j hj=>⟨_,hu i hi j hj,hv i hi j hj⟩⟩⟩
def VR.sl_inv2{bad:Nat→Prop}{v:Value}{t:TN}{l:List (El t)}(h:VR w ρ bad v (.sl t l)):
  ∃ao cap,v= .slice ao l.length cap∧l.length≤cap∧cap≤maxLen∧(l=[]∨∃b off,ao=some (at_ b off)∧(b<jA.base∨DF w b t)∧¬bad b∧
   ∀i (hi:i<l.length) j,j<sz t→∃u,w.cell? (at_ b (off+i *sz t+j))=some u∧VR w ρ bad u ((enc t l[i]).getD j .undef)):=by
 cases h with
 | slE _ ao cap h=>exact⟨ao,cap,rfl,Nat.zero_le _,h, .inl rfl⟩
 | slC _ _ b off cap u hb hl hc he hu hv=>
  grind
def VR.int_inv{bad:Nat→Prop}{v:Value}{k:IntKind}{n:Int}(h:VR w ρ bad v (.int k n)):v= .int k n∧sE k n:=by
 cases h with
 | int _ _ h=>exact⟨rfl,h⟩
def VR.str_inv{bad:Nat→Prop}{v:Value}{s:List UInt8}(h:VR w ρ bad v (.str s)):v= .string ⟨s.toArray⟩∧s.length≤maxLen:=by
 cases h with
 | str _ h=>exact⟨rfl,h⟩
def zcJ{e:TypeId}{t:TN}(hC:LF C)(h:FH C e t=true):oF C.P e=some (sz t):=by
 unfold FH at h;split at h
 ·rename_i t' h1;have:t'=t:=by simpa using h
  subst this;obtain⟨i,z,h2,h3,_⟩:=hC.ok e t' h1;simp[oF,h2,h3]
 ·cases h
omit [jA]in
def zjE{α:Type}{l:List α}{n:Int}{x:α}(h:kA l n=some x):0≤n∧∃hk:n.toNat<l.length,l[n.toNat]=x:=by
 unfold kA at h
 grind
omit [jA]in
def ze1{t e:TypeId}{s:Nat}{b off len cap:Nat}{k:IntKind}{n:Int}(hu:C.P.underlying t=some (.slice e))(hs:oF C.P e=some s)(h0:0≤n)(h1:n<(len:Int)):
  (Instr.indexAt t (.slice (some (at_ b off)) len cap) (.int k n)).run C.P w= .ok (.pointer (some (at_ b (off+n.toNat *s)))) w:=by
 simp[Instr.indexAt,asIntOf,tF hu,h0,h1,PK hs,jG]
omit [jA]in
def zfq{R:Type}{f:Nat→Option R}{i:Int}{r:R}:∀(n k:Nat),UI f i k n=some r→∃j,i=((k+j:Nat):Int)∧j<n∧f (k+j)=some r
 | 0,k,h=>by simp[UI]at h
 | n+1,k,h=>by
  simp only[UI]at h;cases hb:(i==(k:Int))
  ·simp only[hb,cond_false]at h;obtain⟨j,h1,h2,h3⟩:=zfq n (k+1) h;exact⟨j+1,by rw[h1];congr 1;omega,by omega,by rw[show k+(j+1)=k+1+j by omega];exact h3⟩
  ·simp only[hb,cond_true]at h;exact⟨0,by simpa using hb,by omega,by simpa using h⟩
variable {o:Oper} {i:Nat} (hr:bB C w0 outer own ρ st a w)
include hr
def zqQ(hC:LF C)(t:TypeId)(x y:Operand)(ho:o.op= .indexAddr t x y)(hk:rB C i o st some=some st'):KC C.P o a w (DC C w0 outer own i ρ st'):=by
 simp only[rB,ho]at hk;have hx:=hr.opd x;have hy:=hr.opd y;split at hk
 case h_2=>cases hk
 rename_i kk n T5;rw[T5]at hy;have mZ:=hy.int_inv.1;split at hk
 ·rename_i e t' l hu cW;rw[cW]at hx;cases VW:FH C e t'
  case false=>simp[VW]at hk
  simp only[VW,XC,Option.bind_eq_some_iff]at hk;obtain⟨z,hz,hk⟩:=hk;obtain⟨h0,NV,rfl⟩:=zjE hz;have YV:=zcJ hC VW;obtain⟨ao,cap,nW,_,_,hl⟩:=hx.sl_inv
  rcases hl with rfl | ⟨b,off,rfl,hb,ZV⟩
  ·simp at NV
  ·refine lC (v:= .pointer (some (at_ b (off+n.toNat *sz t')))) (w':=w) ?_ (hr.after ?_ hk)
   ·simp[execOp,ho,nW,mZ,ze1 hu YV h0 (show n<(l.length:Int) by omega)]
   ·have:=VR.fp (w:=w) (ρ:=ρ) (bad:=sA outer ρ st.h) (enc t' l[n.toNat]) 0 b (off+n.toNat *sz t') (λj=>(w.cell? (at_ b (off+n.toNat *sz t'+j))).getD undef) (by rw[mD];exact mO _) hb
     (fun j hj=>by
      rw[mD]at hj;obtain⟨u,h1,_⟩:=ZV _ NV j hj;rw[h1];rfl)
     (fun j hj=>by
      obtain⟨u,h1,h2⟩:=ZV _ NV j (by rw[←mD t' l[n.toNat]];exact hj);rw[h1,Option.getD_some];rwa [xS _ _ _ hj]at h2)
    grind
 ·rename_i e r hu cW;rw[cW]at hx;split at hk
  case h_2=>cases hk
  rename_i t' l m IV;cases VW:FH C e t'
  case false=>simp[VW]at hk
  simp only[VW,XC]at hk;cases hb:(decide (0≤n)&&decide (n<(l.length:Int)))
  case false=>simp[hb]at hk
  simp only[hb,cond_true]at hk;simp only[Bool.and_eq_true,decide_eq_true_eq]at hb;have YV:=zcJ hC VW;obtain⟨ri,hρ,XV⟩:=YI hr IV;have RY:ri.n=l.length:=XV.1
  rcases hx.ow_inv hρ with⟨nW,eW,_,_⟩ | ⟨ao,nW,eW,C1⟩
  ·have HV:=ze1 (w:=w) (cap:=ri.cap) (b:=ri.b) (off:=0) (k:=kk) hu YV hb.1 (show n<(ri.n:Int) by omega);refine lC (v:= .pointer (some (at_ ri.b (0+n.toNat *sz t')))) (w':=w) ?_ (hr.after ?_ hk)
   ·simp[execOp,ho,nW,mZ,HV]
   ·rw[Nat.zero_add];exact .ep _ _ _ 0 _ hρ eW
  ·omega
 ·rename_i e r t' off len hu cW;rw[cW]at hx;cases VW:FH C e t'
  case false=>simp[VW]at hk
  simp only[VW,XC]at hk;cases hb:(decide (0≤n)&&decide (n<(len:Int)))
  case false=>simp[hb]at hk
  simp only[hb,cond_true]at hk;simp only[Bool.and_eq_true,decide_eq_true_eq]at hb;have YV:=zcJ hC VW;obtain⟨ri,hρ⟩:=hx.ov_row;obtain⟨ao,cap,nW,_,hao,_,_⟩:=hx.ov_inv hρ
  rcases hao with⟨h0,_⟩ | ⟨rfl,eW,_⟩
  ·omega
  ·have HV:=ze1 (w:=w) (cap:=cap) (b:=ri.b) (off:=off *sz t') (k:=kk) hu YV hb.1 hb.2;refine lC (v:= .pointer (some (at_ ri.b (off *sz t'+n.toNat *sz t')))) (w':=w) ?_ (hr.after ?_ hk)
   ·simp[execOp,ho,nW,mZ,HV]
   ·rw[←Nat.add_mul];exact .ep _ _ _ 0 _ hρ eW
 ·rename_i m e r o1 hu cW;rw[cW]at hx;split at hk
  case h_2=>cases hk
  rename_i YV;obtain⟨j,mX,RW,hk⟩:=zfq _ _ hk;rw[Nat.zero_add]at mX hk;obtain⟨ri,hρ,nW,eW⟩:=hx.bp_inv;refine lC (v:= .pointer (some (at_ ri.b (o1+j)))) (w':=w) ?_ (hr.after (.bp _ _ _ hρ eW) hk);have h0:0≤n:=by omega
  have h1:n<(m:Int):=by omega
  have h2:n.toNat=j:=by omega
  simp[execOp,ho,nW,mZ,Instr.indexAt,asIntOf,tF hu,Instr.sureAddr,h0,h1,PK YV,jG,h2]
 ·cases hk
def ztD(t:TypeId)(x y:Operand)(ho:o.op= .index t x y)(hk:rB C i o st some=some st'):KC C.P o a w (DC C w0 outer own i ρ st'):=by
 simp only[rB,ho]at hk;have hx:=hr.opd x;have hy:=hr.opd y;split at hk
 ·rename_i kk n s T5 hu cW;rw[cW]at hx;rw[T5]at hy;have mZ:=hy.int_inv.1;obtain⟨nW,W2⟩:=hx.str_inv;obtain⟨z,hz,hk⟩:=Option.bind_eq_some_iff.1 hk;obtain⟨h0,NV,rfl⟩:=zjE hz;refine lC (v:= .int .u8 (s[n.toNat].toNat:Int)) (w':=w) ?_ (hr.after (.int _ _ ?_) hk)
  ·have h1:n.toNat<(⟨s.toArray⟩:ByteArray).size:=by simpa[ByteArray.size]using NV
   simp[execOp,ho,nW,mZ,Instr.index,asIntOf,tF hu,h0,ByteArray.getElem?_lt' _ _ h1];rfl
  ·have:=s[n.toNat].toNat_lt;simp only[sE,IntKind.min,IntKind.max,IntKind.signed,IntKind.bits];simp;omega
 ·rename_i kk n m e cs T5 hu cW;rw[cW]at hx;rw[T5]at hy;have mZ:=hy.int_inv.1;split at hk
  case h_2=>cases hk
  rename_i YV yW;obtain⟨j,mX,RW,hk⟩:=zfq _ _ hk;rw[Nat.zero_add]at mX hk;split at hk
  case h_2=>cases hk
  rename_i c r' hd
  have NV:j<cs.length:=by
   rcases Nat.lt_or_ge j cs.length with h | h
   ·exact h
   ·rw[List.drop_eq_nil_of_le h]at hd;cases hd
  have R3:cs[j]=c:=by
   rw[List.drop_eq_getElem_cons NV]at hd;exact(List.cons.inj hd).1
  cases nW:a.eval x<;>rw[nW]at hx<;>cases hx
  rename_i vs hs hv;have h3:=hv j NV;rw[R3]at h3;have h0:0≤n:=by omega
  have h1:n<(m:Int):=by omega
  have h2:n.toNat=j:=by omega
  refine lC (v:=vs.getD j undef) (w':=w) ?_ (hr.after h3 hk);simp[execOp,ho,nW,mZ,Instr.index,asIntOf,tF hu,h0,h1,PK YV,h2,ZN (P:=C.P) (w:=w) yW (show j<vs.size by omega)]
 ·cases hk
end
end Go.D
namespace Go.D
variable [jA]
section
variable {C:Cx} {w0:World} {outer own:Nat→Prop} {ρ:Nat→Option RI} {st st':St} {a:Act} {w:World} {h:Nat→Option tA}
omit [jA]in
def GR{α:Type}{xs:Array α}{l:List α}(h:xs.toList=l):xs=l.toArray:=by subst h;simp
def sB.move(hh:sB w0 outer own ρ h w){r i:Nat}{c:qF}{ri ri':RI}(hr:h r=some ⟨c, .own⟩)(hρ:ρ r=some ri)(hn:ri.nl=false)(hi:ρ i=none)
  (hb:ri'.b=ri.b) (hn':ri'.nl=false) (w':World)
  (kZ:Wx w w') (YV:w'.heap.size=w.heap.size) (hw:∀b,b≠ri.b→w'.heap[b]?=w.heap[b]?) (c':qF)
  (hc:∀bad,(∀u d,VR w ρ (sA outer ρ h) u d→VR w' (zA ρ i (some ri')) bad u d)→ZD w' (zA ρ i (some ri')) bad ri' c'):
  sB w0 outer own (zA ρ i (some ri')) (zA (zA h r none) i (some ⟨c', .own⟩)) w'∧
   ∀u d,VR w ρ (sA outer ρ h) u d→VR w' (zA ρ i (some ri')) (sA outer (zA ρ i (some ri')) (zA (zA h r none) i (some ⟨c', .own⟩))) u d:=by
 have hir:i≠r:=by rintro rfl;simp[hρ]at hi
 have hρ':∀q qi,ρ q=some qi→zA ρ i (some ri') q=some qi:=λq qi hq=>by
  rw[AA];exact hq;rintro rfl;simp[hi]at hq
 have P2:sA outer ρ h ri.b:= .inr ⟨r,_,ri,hr,rfl,hρ,hn,rfl⟩
 have IV:∀q row,q≠i→zA (zA h r none) i (some ⟨c', .own⟩) q=some row→q≠r∧h q=some row:=λq row Y3 hq=>by
  rw[AA _ _ _ _ Y3]at hq
  by_cases fW:q=r
  ·subst fW;rw[RA]at hq;cases hq
  ·rw[AA _ _ _ _ fW]at hq;exact⟨fW,hq⟩
 have jW:∀b,sA outer (zA ρ i (some ri')) (zA (zA h r none) i (some ⟨c', .own⟩)) b→sA outer ρ h b:=by
  rintro b (GX | ⟨q,row,qi,h1,h2,h3,h4,h5⟩)
  ·exact .inl GX
  ·by_cases hq:q=i
   ·subst hq;rw[RA]at h3;cases h3
    grind
   ·rw[AA _ _ _ _ hq]at h3;exact .inr ⟨q,row,qi,(IV q row hq h1).2,h2,h3,h4,h5⟩
 have hv:∀u d,VR w ρ (sA outer ρ h) u d→VR w' (zA ρ i (some ri')) (sA outer (zA ρ i (some ri')) (zA (zA h r none) i (some ⟨c', .own⟩))) u d:=λu d hu=>
  hu.mono hρ' (λb hb _=>hw b λe=>hb (e▸P2)) λb hb=> .inl (jW b hb)
 obtain⟨ri2,h6,_,h7⟩:=hh.rows r _ hr;rw[hρ]at h6;cases h6;refine⟨⟨hh.wx.trans kZ,λb GX ho=>?_,hh.outLt,?_,?_⟩,hv⟩
 ·refine(hw b ?_).trans (hh.old b GX ho);rintro rfl
  rcases(h7 hn).1.2 rfl with h8 | h8
  ·omega
  ·exact ho h8
 ·intro q row hq
  by_cases Y3:q=i
  ·subst Y3;rw[RA]at hq;cases hq;exact⟨ri',RA _ _ _,hc _ hv,λ_=>by rw[hb,YV];exact h7 hn⟩
  ·obtain⟨fW,hq⟩:=IV q row Y3 hq;obtain⟨qi,h1,h2,h3⟩:=hh.rows q row hq;refine⟨qi,hρ' q qi h1,h2.keep (λO3=>hw _ ?_) hv,λO3=>by rw[YV];exact h3 O3⟩;intro e;exact fW (hh.inj q r row _ qi ri hq hr h1 hρ O3 hn e)
 ·intro q q' row row' qi qi' h1 h2 h3 h4 h5 h6 h7
  by_cases hq:q=i<;>by_cases YX:q'=i
  ·rw[hq,YX]
  ·subst hq;rw[RA]at h3;cases h3;obtain⟨fW,h2⟩:=IV q' row' YX h2;rw[AA _ _ _ _ YX]at h4;exact absurd (hh.inj q' r row' _ qi' ri h2 hr h4 hρ h6 hn (by rw[←h7,hb])) fW
  ·subst YX;rw[RA]at h4;cases h4;obtain⟨fW,h1⟩:=IV q row hq h1;rw[AA _ _ _ _ hq]at h3;exact absurd (hh.inj q r row _ qi ri h1 hr h3 hρ h5 hn (by rw[h7,hb])) fW
  ·obtain⟨_,h1⟩:=IV q row hq h1;obtain⟨_,h2⟩:=IV q' row' YX h2;rw[AA _ _ _ _ hq]at h3;rw[AA _ _ _ _ YX]at h4;exact hh.inj q q' row row' qi qi' h1 h2 h3 h4 h5 h6 h7
variable {o:Oper} {i:Nat} (hr:bB C w0 outer own ρ st a w)
omit [jA]in
def zs7{n:Nat}(h:n≤maxLen):sE .i64 (n:Int):=by
 unfold maxLen at h;simp only[sE,IntKind.min,IntKind.max,IntKind.signed,IntKind.bits];simp;omega
include hr
def zkj{d:V}{v:Value}{n:Nat}(hv:VR w ρ (sA outer ρ st.h) v d)(hn:vM st.h d=some n):
  n≤maxLen∧((∃ao cap,v= .slice ao n cap∧n≤cap)∨∃s,d= .str s∧v= .string ⟨s.toArray⟩∧n=s.length):=by
 unfold vM at hn;split at hn
 ·cases hn;obtain⟨ao,cap,h1,h2,h3,_⟩:=hv.sl_inv
  grind
 ·cases hn;cases hv
  grind
 ·cases hn;obtain⟨h1,h2⟩:=hv.str_inv
  grind
 ·split at hn
  case h_2=>cases hn
  rename_i t l m IV;cases hn;obtain⟨ri,hρ,XV⟩:=YI hr IV;have RY:ri.n=l.length:=XV.1
  rcases hv.ow_inv hρ with⟨h1,h2,h3,h4⟩ | ⟨ao,h1,h2,h3⟩
  ·grind
  grind
 ·cases hn;obtain⟨ri,hρ⟩:=hv.ov_row;obtain⟨ao,cap,h1,_,_,h2,h3⟩:=hv.ov_inv hρ
  grind
 ·cases hn
def zvC(args:Array Operand)(argTypes:Array TypeId)(ho:o.op= .call {callee:= .builtin .len,args,argTypes})(hk:rB C i o st some=some st'):KC C.P o a w (DC C w0 outer own i ρ st'):=by
 simp only[rB,ho]at hk;split at hk
 case h_2=>cases hk
 rename_i x t BW Z3;split at hk
 case h_2=>cases hk
 rename_i d n hu LV;cases JX:zcH d (opd st.s x)
 case false=>simp[JX]at hk
 simp only[JX,XC]at hk;obtain⟨zZ,hl⟩:=zkj hr (hr.opd x) LV;have e1:=GR BW;have e2:=GR Z3;subst e1 e2;refine lC (v:= .int .i64 (n:Int)) (w':=w) ?_ (hr.after (.int _ _ (zs7 zZ)) hk)
 rcases hl with⟨ao,cap,h1,_⟩ | ⟨s,h0,h1,h2⟩
 ·have hd:∃e,d= .slice e:=by
   unfold zcH at JX;split at JX<;>first | exact⟨_,rfl⟩ | skip
   ·rename_i s cW;have:=hr.opd x;rw[cW]at this;rw[this.str_inv.1]at h1;cases h1
   ·cases JX
  obtain⟨e,rfl⟩:=hd;simp[execOp,ho,resolve,invoke,builtin,Builtin.len_,tF hu,h1,goInt]
 ·have hd:d= .string:=by
   rw[h0]at JX;unfold zcH at JX
   grind
  subst hd;have zX:(⟨s.toArray⟩:ByteArray).size=s.length:=by simp[ByteArray.size]
  simp[execOp,ho,resolve,invoke,builtin,Builtin.len_,tF hu,h1,h2,zX,goInt]
def zv0(args:Array Operand)(argTypes:Array TypeId)(ho:o.op= .call {callee:= .builtin .min,args,argTypes})(hk:rB C i o st some=some st'):KC C.P o a w (DC C w0 outer own i ρ st'):=by
 simp only[rB,ho]at hk;split at hk
 case h_2=>cases hk
 rename_i k p k' q BW
 by_cases AZ:k=k'
 case neg=>simp[AZ]at hk
 subst AZ;simp only[decide_true,cond_true]at hk;obtain⟨x,xs,v5,h1,h2⟩:=List.map_eq_cons_iff.1 BW;obtain⟨y,ys,z8,h3,h4⟩:=List.map_eq_cons_iff.1 h2;have h5:=List.map_eq_nil_iff.1 h4;subst h5 z8;have e1:=GR v5;subst e1;have hx:=hr.opd x;rw[h1]at hx;have hy:=hr.opd y;rw[h3]at hy;refine lC (v:= .int k (if q<p then q else p)) (w':=w) ?_ (hr.after (.int _ _ (by split;exact hy.int_inv.2;exact hx.int_inv.2)) hk);simp[execOp,ho,resolve,invoke,builtin,Builtin.min_,hx.int_inv.1,hy.int_inv.1,Builtin.min2]
def zv8(args:Array Operand)(argTypes:Array TypeId)(ho:o.op= .call {callee:= .builtin .max,args,argTypes})(hk:rB C i o st some=some st'):KC C.P o a w (DC C w0 outer own i ρ st'):=by
 simp only[rB,ho]at hk;split at hk
 case h_2=>cases hk
 rename_i k p k' q BW
 by_cases AZ:k=k'
 case neg=>simp[AZ]at hk
 subst AZ;simp only[decide_true,cond_true]at hk;obtain⟨x,xs,v5,h1,h2⟩:=List.map_eq_cons_iff.1 BW;obtain⟨y,ys,z8,h3,h4⟩:=List.map_eq_cons_iff.1 h2;have h5:=List.map_eq_nil_iff.1 h4;subst h5 z8;have e1:=GR v5;subst e1;have hx:=hr.opd x;rw[h1]at hx;have hy:=hr.opd y;rw[h3]at hy;refine lC (v:= .int k (if q>p then q else p)) (w':=w) ?_ (hr.after (.int _ _ (by split;exact hy.int_inv.2;exact hx.int_inv.2)) hk);simp[execOp,ho,resolve,invoke,builtin,Builtin.max_,hx.int_inv.1,hy.int_inv.1,Builtin.max2]
end
end Go.D
namespace Go.D
variable [jA]
section
variable {C:Cx} {w0:World} {outer own:Nat→Prop} {ρ:Nat→Option RI} {st st':St} {a:Act} {w:World} {h:Nat→Option tA}
def aO(w:World)(ρ:Nat→Option RI)(bad:Nat→Prop)(t:TN)(l:List (El t))(cs:List Value):Prop:=
 cs.length=l.length *sz t∧∀i (hi:i<l.length) j,j<sz t→∃u,cs[i *sz t+j]?=some u∧VR w ρ bad u ((enc t l[i]).getD j .undef)
omit [jA]in
def zjg{n k m:Nat}(hm:0<m)(h:k<n *m):k / m<n∧k % m<m∧k / m *m+k % m=k:=
 ⟨(Nat.div_lt_iff_lt_mul hm).2 h,Nat.mod_lt _ hm,by rw[Nat.mul_comm];exact Nat.div_add_mod k m⟩
def aO.one{bad:Nat→Prop}{t:TN}{l:List (El t)}{cs:List Value}(h:aO w ρ bad t l cs):∀u∈cs,u.oneCell'=true:=by
 intro u hu;obtain⟨k,hk,rfl⟩:=List.mem_iff_getElem.1 hu;obtain⟨h1,h2,h3⟩:=zjg (mO t) (by rw[←h.1];exact hk);obtain⟨u,h4,h5⟩:=h.2 _ h1 _ h2;rw[h3,List.getElem?_eq_getElem hk]at h4;cases h4;exact h5.one (zhS _ _ _ h2)
def CN(w:World)(b off n:Nat):List Value:=(List.range n).map λk=>(w.cell? (at_ b (off+k))).getD undef
omit [jA]in
def zhT(w:World)(b off n:Nat):(CN w b off n).length=n:=by simp[CN]
omit [jA]in
def zh5(w:World)(b off n k:Nat)(hk:k<n):(CN w b off n)[k]?=some ((w.cell? (at_ b (off+k))).getD undef):=by
 simp[CN,hk]
def zjs{bad:Nat→Prop}{t:TN}{l:List (El t)}{b off:Nat}
  (hv:∀i (hi:i<l.length) j,j<sz t→∃u,w.cell? (at_ b (off+i *sz t+j))=some u∧VR w ρ bad u ((enc t l[i]).getD j .undef)):
  aO w ρ bad t l (CN w b off (l.length *sz t))∧∀j u,(CN w b off (l.length *sz t))[j]?=some u→w.cell? ((at_ b off).add j)=some u:=by
 refine⟨⟨zhT _ _ _ _,λi hi j hj=>?_⟩,λk u hk=>?_⟩
 ·obtain⟨u,h1,h2⟩:=hv i hi j hj
  have NV:i *sz t+j<l.length *sz t:=by
   have:(i+1) *sz t≤l.length *sz t:=Nat.mul_le_mul_right _ hi;rw[Nat.add_mul,Nat.one_mul]at this;omega
  refine⟨u,?_,h2⟩;rw[zh5 _ _ _ _ _ NV, ←Nat.add_assoc,h1];rfl
 ·have NV:k<l.length *sz t:=by
   rcases Nat.lt_or_ge k (l.length *sz t)with h | h
   ·exact h
   ·rw[List.getElem?_eq_none (by rw[zhT];exact h)]at hk;cases hk
  obtain⟨h1,h2,h3⟩:=zjg (mO t) NV;obtain⟨u',h4,_⟩:=hv _ h1 _ h2;rw[Nat.add_assoc,h3]at h4;rw[zh5 _ _ _ _ _ NV,h4]at hk;rw[jG,h4];exact hk
omit [jA]in
def zh2{α:Type}(l:List α)(off len i:Nat)(h:off+len≤l.length)(hi:i<((l.drop off).take len).length):((l.drop off).take len)[i]=l[off+i]'(by simp at hi;omega):=by simp
variable {o:Oper} {i:Nat} (hr:bB C w0 outer own ρ st a w)
include hr
def zkz{tn:TN}{v:Value}{d:V}{m:List (El tn)}(hv:VR w ρ (sA outer ρ st.h) v d)(hm:fV st.h tn d=some m):
  ∃ao cap,v= .slice ao m.length cap∧(m=[]∨∃b off,ao=some (at_ b off)∧
   ∀i (hi:i<m.length) j,j<sz tn→∃u,w.cell? (at_ b (off+i *sz tn+j))=some u∧VR w ρ (sA outer ρ st.h) u ((enc tn m[i]).getD j .undef)):=by
 have mk:∀(ao:Option Addr) (cap:Nat),v= .slice ao m.length cap→(m=[]∨∃b off,ao=some (at_ b off)∧
   ∀i (hi:i<m.length) j,j<sz tn→∃u,w.cell? (at_ b (off+i *sz tn+j))=some u∧VR w ρ (sA outer ρ st.h) u ((enc tn m[i]).getD j .undef))→
   ∃ao cap,v= .slice ao m.length cap∧(m=[]∨∃b off,ao=some (at_ b off)∧
   ∀i (hi:i<m.length) j,j<sz tn→∃u,w.cell? (at_ b (off+i *sz tn+j))=some u∧VR w ρ (sA outer ρ st.h) u ((enc tn m[i]).getD j .undef)):=λao cap h1 h2=>⟨ao,cap,h1,h2⟩
 unfold fV at hm;split at hm
 ·rename_i t' l;split at hm
  case isFalse=>cases hm
  rename_i e1;subst e1;simp only[fM,Option.some.injEq]at hm;subst hm;obtain⟨ao,cap,h1,_,_,h4⟩:=hv.sl_inv;refine mk ao cap h1 ?_
  rcases h4 with h4 | ⟨b,off,h5,_,h6⟩
  ·exact .inl h4
  ·exact .inr ⟨b,off,h5,h6⟩
 ·cases hm;cases hv;exact mk none 0 rfl (.inl rfl)
 ·rename_i r;split at hm
  case h_2=>cases hm
  rename_i t' l mo IV;split at hm
  case isFalse=>cases hm
  rename_i e1;subst e1;simp only[fM,Option.some.injEq]at hm;subst hm;obtain⟨ri,hρ,XV⟩:=YI hr IV;have RY:ri.n=l.length:=XV.1
  rcases hv.ow_inv hρ with⟨h1,h2,h3,h4⟩ | ⟨ao,h1,h2,h3⟩
  ·refine mk _ ri.cap (by rw[←RY];exact h1) ?_
   rcases XV.2 with h5 | ⟨_,_,_,_,_,h6⟩
   ·exact .inl h5.2
   ·exact .inr ⟨ri.b,0,rfl,λi hi j hj=>by rw[Nat.zero_add];exact h6 i hi j hj⟩
  ·have:l=[]:=List.eq_nil_of_length_eq_zero (by omega);exact mk ao 0 (by rw[this];exact h1) (.inl this)
 ·rename_i r t0 off len;split at hm
  case h_2=>cases hm
  rename_i t' l mo IV
  by_cases ht0:t0=tn
  case neg=>simp[ht0]at hm
  subst ht0;simp only[decide_true,cond_true]at hm;split at hm
  case isFalse=>cases hm
  rename_i e1;subst e1;simp only[fM,Option.some.injEq]at hm;subst hm;obtain⟨ri,hρ,XV⟩:=YI hr IV;have RY:ri.n=l.length:=XV.1;obtain⟨ao,cap,h1,h2,h3,h4,h5⟩:=hv.ov_inv hρ;have LV:((l.drop off).take len).length=len:=by simp;omega
  refine mk ao cap (by rw[LV];exact h1) ?_
  rcases h3 with⟨rfl,_⟩ | ⟨rfl,eW,_⟩
  ·exact .inl (by simp)
  ·rcases XV.2 with h5 | ⟨_,_,_,_,_,h6⟩
   ·rw[eW]at h5;cases h5.1
   ·refine .inr ⟨ri.b,_,rfl,λi hi j hj=>?_⟩;rw[zh2 l off len i (by omega) hi, ←Nat.add_mul];exact h6 (off+i) (by omega) j hj
 ·cases hm
def zs4{P:Program}{t e:TypeId}{tn:TN}{v:Value}{d:V}{m:List (El tn)}(hu:P.underlying t=some (.slice e))(hv:VR w ρ (sA outer ρ st.h) v d)(hm:fV st.h tn d=some m):
  ∃news,Src P (sz tn) t v m.length news w∧aO w ρ (sA outer ρ st.h) tn m news:=by
 obtain⟨ao,cap,rfl,h⟩:=zkz hr hv hm
 rcases h with rfl | ⟨b,off,rfl,hc⟩
 ·refine⟨[],?_,⟨by simp,λi hi=>by simp at hi⟩⟩;cases ao with
  | none=>exact Src.ofNil w hu cap
  | some ad=>exact Src.ofSlice w hu ad 0 cap [] (by simp) (λj u h=>by simp at h) (λu h=>by simp at h)
 ·obtain⟨h1,h2⟩:=zjs hc;exact⟨_,Src.ofSlice w hu (at_ b off) m.length cap _ h1.1 h2 h1.one,h1⟩
omit hr in
theorem zig{bad bad':Nat→Prop}{w':World}{ρ':Nat→Option RI}{t:TN}{l m:List (El t)}{olds news:List Value}(h1:aO w ρ bad t l olds)(h2:aO w ρ bad t m news)
  (hk:∀u d,VR w ρ bad u d→VR w' ρ' bad' u d) {b:Nat}
  (hc:∀j u,(olds++news)[j]?=some u→w'.cell? (at_ b j)=some u):∀i (hi:i<(l++m).length) j,j<sz t→∃u,w'.cell? (at_ b (i *sz t+j))=some u∧VR w' ρ' bad' u ((enc t (l++m)[i]).getD j .undef):=by
 intro i hi j hj
 by_cases X2:i<l.length
 ·obtain⟨u,h3,h4⟩:=h1.2 i X2 j hj
  have NV:i *sz t+j<olds.length:=by
   rw[h1.1];have:(i+1) *sz t≤l.length *sz t:=Nat.mul_le_mul_right _ X2;rw[Nat.add_mul,Nat.one_mul]at this;omega
  refine⟨u,hc _ _ (by rw[List.getElem?_append_left NV];exact h3),?_⟩;rw[List.getElem_append_left X2];exact hk _ _ h4
 ·have him:i - l.length<m.length:=by simp at hi;omega
  obtain⟨u,h3,h4⟩:=h2.2 (i - l.length) him j hj
  have HX:olds.length≤i *sz t+j:=by
   rw[h1.1];have:l.length *sz t≤i *sz t:=Nat.mul_le_mul_right _ (by omega);omega
  refine⟨u,hc _ _ ?_,?_⟩
  ·rw[List.getElem?_append_right HX,h1.1]
   have:i *sz t+j - l.length *sz t=(i - l.length) *sz t+j:=by
    have h5:l.length *sz t≤i *sz t:=Nat.mul_le_mul_right _ (by omega);rw[Nat.sub_mul];omega
   rw[this];exact h3
  ·rw[List.getElem_append_right (by omega)];exact hk _ _ h4
def zsl(hC:LF C)(args:Array Operand)(argTypes:Array TypeId)(ho:o.op= .call {callee:= .builtin .append,args,argTypes})(hi:ρ i=none)(hk:rB C i o st some=some st'):
  KC C.P o a w (DC C w0 outer own i ρ st'):=by
 simp only[rB,ho]at hk;split at hk
 case h_2=>cases hk
 rename_i x y t t' BW Z3;cases A8:Nat.beq t t'
 case false=>simp[A8]at hk
 have A8:=Nat.eq_of_beq_eq_true A8;subst A8;simp only[Nat.beq_refl,XC]at hk;split at hk
 ·cases hk
 rename_i tn VW;obtain⟨e,he,Y2⟩:=Option.bind_eq_some_iff.1 VW
 have hu:C.P.underlying t=some (.slice e):=by
  unfold oO at he;split at he
  ·rename_i h1;cases he;exact h1
  ·cases he
 obtain⟨info,z,VY,hi2,z5,b4,U5⟩:=hC.ok e tn Y2;split at hk
 case h_2=>cases hk
 rename_i l ro m KW TY;cases LW:decide (l.length+m.length≤bA)
 case false=>simp[LW]at hk
 simp only[LW,cond_true]at hk;have LW:l.length+m.length≤bA:=of_decide_eq_true LW;obtain⟨news,w9,KX⟩:=zs4 hr hu (hr.opd y) TY;have z0:Src C.P info.size t (a.eval y) m.length news w:=by rw[hi2];exact w9
 have e1:=GR BW;have e2:=GR Z3;subst e1 e2
 have aW:∀v w',(Builtin.append_ #[t,t] o.type #[a.eval x,a.eval y]).run C.P w= .ok v w'→(execOp a.eval o).run C.P w= .ok (.value v) w':=λv w' h1=>by
  simp[execOp,ho,resolve,invoke,builtin,h1]
 have z9:bA *1024≤140737488355328:=by unfold bA;decide
 have m4:(l.length+m.length) *info.bytes≤140737488355328:=Nat.le_trans (Nat.mul_le_mul LW z5) z9;have hLIM2:bA≤9223372036854775807:=by unfold bA;decide
 -- a new row
 have grown:∀(ao:Option Addr) (cap:Nat) (olds:List Value) (h':Nat→Option tA),a.eval x= .slice ao l.length cap→cap<l.length+m.length→aO w ρ (sA outer ρ st.h) tn l olds→
   (Builtin.firstCells info.size l.length (.slice ao l.length cap)).run C.P w.drew= .ok olds.toArray w.drew→
   (∀r row',h' r=some row'→∃row,st.h r=some row∧row.c=row'.c∧(row'.m.isRo=false→row.m.isRo=false))→
   rF C o.dst {st with h:=h'} i (.arr tn (l++m)) (.ow i) some=some st'→KC C.P o a w (DC C w0 outer own i ρ st'):=by
  intro ao cap olds h' hx YZ holds n4 bW bX
  have HV:=run_append_grow_src (P:=C.P) w t t o.type e info z hu VY b4 ao l.length cap olds n4 (a.eval y) m.length news z0 (by omega)
   (by have:((l.length+m.length:Nat):Int)≤(bA:Nat):=by omega
       omega) (growslice_fits (by omega) m4)
  rw[←hx]at HV;have HX:=grownCap_ge w (l.length+m.length) cap e;have A5:grownCap w (l.length+m.length) cap e≤maxLen:=grownCap_le_maxLen w (l.length+m.length) cap e (by unfold maxLen;omega);obtain⟨R2,S1⟩:=hr.heap.less bW;have OV:bB C w0 outer own ρ {st with h:=h'} a w:=hr.turn R2 S1
  refine lC (aW _ _ HV) (OV.newRow hi ⟨w.heap.size,l.length+m.length,grownCap w (l.length+m.length) cap e,false⟩ (λ_=>rfl) _ (Wx.trans (zk9 w) (ZU _ _))
   (λb hb=>PT w.drew _ b hb) (λ_=>by simp) (λbad JV=>?_) (λbad=>?_) bX)
  ·generalize LX:((olds++news).toArray++Builtin.zeroCells z.cells (grownCap w (l.length+m.length) cap e - (l.length+m.length)))=cells at JV⊢
   have V5:cells.size=grownCap w (l.length+m.length) cap e *sz tn:=by
    rw[←LX,Array.size_append,size_zeroCells,U5];have h5:(olds++news).toArray.size=(l.length+m.length) *sz tn:=by simp[holds.1,KX.1,Nat.add_mul]
    rw[h5, ←Nat.add_mul];congr 1;omega
   refine⟨by simp, .inr ⟨rfl,zfg (w:=w.drew) (hC.tys e tn Y2),HX,A5,λj hj=>⟨World.frozen?_alloc_new _ _ _ _,?_⟩,?_⟩⟩
   ·have:=GN w.drew cells e j (by rw[V5];exact hj);rw[World.size_drew]at this;rw[this];rfl
   ·refine zig (ρ':=zA ρ i _) (bad':=bad) ⟨holds.1,λi hi j hj=>?_⟩ ⟨KX.1,λi hi j hj=>?_⟩ JV λj u hj=>?_
    ·obtain⟨u,h6,h7⟩:=holds.2 i hi j hj;exact⟨u,h6,S1 _ _ h7⟩
    ·obtain⟨u,h6,h7⟩:=KX.2 i hi j hj;exact⟨u,h6,S1 _ _ h7⟩
    ·have NV:j<(olds++news).length:=by
      rcases Nat.lt_or_ge j (olds++news).length with h | h
      ·exact h
      ·rw[List.getElem?_eq_none h]at hj;cases hj
     have XY:j<cells.size:=by
      rw[←LX,Array.size_append];simp at NV⊢;omega
     have:=GN w.drew cells e j XY;rw[World.size_drew]at this;rw[this,Array.getD_eq_getD_getElem?,Array.getElem?_eq_getElem XY,Option.getD_some, ←hj,List.getElem?_eq_getElem NV];congr 1;subst LX;rw[Array.getElem_append_left (by simpa using NV)];simp
  ·exact .ow i ⟨w.heap.size,l.length+m.length,grownCap w (l.length+m.length) cap e,false⟩ (RA _ _ _) HX A5 rfl
 -- nothing there,nothing appended,or a new row
 have empty:∀(ao:Option Addr) (h':Nat→Option tA),l=[]→a.eval x= .slice ao 0 0→
   (∀r row',h' r=some row'→∃row,st.h r=some row∧row.c=row'.c∧(row'.m.isRo=false→row.m.isRo=false))→
   rF C o.dst {st with h:=h'} i (.arr tn (l++m)) (.ow i) some=some st'→KC C.P o a w (DC C w0 outer own i ρ st'):=by
  intro ao h' hl hx bW bX;subst hl
  by_cases hm:m=[]
  ·subst hm;obtain⟨R2,S1⟩:=hr.heap.less bW;have OV:bB C w0 outer own ρ {st with h:=h'} a w:=hr.turn R2 S1;have C1:news=[]:=List.eq_nil_of_length_eq_zero (by rw[KX.1];simp);subst C1;have HV:=run_append_nothing w t t o.type e info hu VY ao 0 0 (Nat.le_refl _) (a.eval y) z0;rw[←hx]at HV;refine lC (aW _ _ HV) (OV.newRow hi ⟨0,0,0,true⟩ (λh=>by cases h) w (Wx.refl _) (λb hb=>rfl) (λh=>by cases h) (c:= .arr tn ([]++[])) (λbad JV=>⟨rfl, .inl ⟨rfl,rfl⟩⟩) (λbad=>?_) bX);rw[hx];exact .owN i ⟨0,0,0,true⟩ ao (RA _ _ _) rfl rfl
  ·have R1:0<m.length:=List.length_pos_iff.2 hm;refine grown ao 0 [] h' hx (by simpa using R1) ⟨by simp,λi hi=>by simp at hi⟩ ?_ bW bX;cases ao with
   | none=>exact run_firstCells_none w.drew info.size 0 0 0
   | some ad=>exact run_firstCells_some w.drew info.size 0 ad 0 0 [] (by simp) (λj v h=>by simp at h)
 have killLess:∀(r:Option Nat) (q:Nat) (row':tA),pO st.h r q=some row'→∃row,st.h q=some row∧row.c=row'.c∧(row'.m.isRo=false→row.m.isRo=false):=by
  intro r q row' h1;cases r with
  | none=>exact⟨row',h1,rfl,id⟩
  | some r=>
   simp only[pO]at h1
   by_cases hq:q=r
   ·subst hq;rw[RA]at h1;cases h1
   ·rw[AA _ _ _ _ hq]at h1;exact⟨row',h1,rfl,id⟩
 -- a row of the call's own,or the beginning of one
 have full:∀(r:Nat) (l0:List (El tn)) (ri:RI) (cap:Nat),st.h r=some ⟨.arr tn l0, .own⟩→ρ r=some ri→ri.nl=false→l=l0.take l.length→l.length≤cap→cap≤ri.cap→
   a.eval x= .slice (some (at_ ri.b 0)) l.length cap→rF C o.dst {st with h:=pO st.h (some r)} i (.arr tn (l++m)) (.ow i) some=some st'→KC C.P o a w (DC C w0 outer own i ρ st'):=by
  intro r l0 ri cap IV hρ eW hl Z2 A9 hx bX;have hll0:l.length≤l0.length:=by rw[hl];simp;omega
  obtain⟨_,hρ2,XV,_⟩:=hr.heap.rows r _ IV;rw[hρ]at hρ2;cases hρ2
  rcases XV.2 with h5 | ⟨_,ce,c1,c2,c3,c4⟩
  ·rw[eW]at h5;cases h5.1
  have holds:=zjs (w:=w) (ρ:=ρ) (bad:=sA outer ρ st.h) (t:=tn) (l:=l) (b:=ri.b) (off:=0) (λi hi j hj=>by
   obtain⟨u,h6,h7⟩:=c4 i (by omega) j hj;refine⟨u,by rw[Nat.zero_add];exact h6,?_⟩
   have:l[i]=l0[i]'(by omega):=by
    have h8:l[i]?=(l0.take l.length)[i]?:=by rw[←hl]
    rw[List.getElem?_eq_getElem hi,List.getElem?_take,if_pos hi,List.getElem?_eq_getElem (by omega)]at h8;exact Option.some.inj h8
   rw[this];exact h7)
  by_cases nZ:l.length+m.length≤cap
  ·have hcz:cap *sz tn≤ri.cap *sz tn:=Nat.mul_le_mul_right _ A9;have hrz:(l.length+m.length) *sz tn≤cap *sz tn:=Nat.mul_le_mul_right _ nZ;rw[Nat.add_mul]at hrz
   have FW:∀j,j<news.length→(w.cell? ⟨ri.b,0+l.length *info.size+j,none⟩).isSome=true:=λj hj=>by
    rw[hi2,Nat.zero_add];exact(c3 _ (by rw[KX.1]at hj;omega)).2
   have IW:∀j,j<news.length→w.frozen? ⟨ri.b,0+l.length *info.size+j,none⟩=false:=λj hj=>by
    rw[hi2,Nat.zero_add];exact(c3 _ (by rw[KX.1]at hj;omega)).1
   have HV:=run_append_room_src (P:=C.P) w t t o.type e info hu VY ri.b 0 l.length cap (a.eval y) m.length news z0 nZ FW IW;rw[show(⟨ri.b,0,none⟩:Addr)=at_ ri.b 0 from rfl, ←hx,hi2,Nat.zero_add]at HV;rw[hi2,Nat.zero_add]at FW;generalize hW:w.setCells ri.b (l.length *sz tn) news=W at HV
   have Q5:=hr.heap.move IV hρ eW hi (ri':=⟨ri.b,l.length+m.length,cap,false⟩) rfl rfl W (by rw[←hW];exact zaV _ _ _ _) (by rw[←hW];exact zas _ _ _ _)
    (fun b hb=>by rw [← hW];exact zap _ _ _ _ _ hb) (.arr tn (l++m)) (fun bad JV=>by
     refine⟨by simp, .inr ⟨rfl,by rw[←hW];exact zek _ _ ce,nZ,Nat.le_trans A9 c2,λj hj=>⟨by rw[←hW,World.frozen?_setCells];exact(c3 j (by have:j<cap *sz tn:=hj;omega)).1,?_⟩,?_⟩⟩
     ·by_cases hjj:l.length *sz tn≤j∧j<l.length *sz tn+news.length
      ·have:=World.cell?_setCells_in ri.b news (l.length *sz tn) w FW (j - l.length *sz tn) (by omega);rw[show l.length *sz tn+(j - l.length *sz tn)=j by omega,hW]at this;show(W.cell? ⟨ri.b,j,none⟩).isSome=true
       rw[this];rfl
      ·rw[←hW,World.cell?_setCells_out]
       ·exact(c3 j (by have:j<cap *sz tn:=hj;omega)).2
       ·intro _ _;simp only[at_];omega
     ·refine zig holds.1 KX JV λj u hj=>?_;have B8:=holds.1.1
      by_cases kX:j<(CN w ri.b 0 (l.length *sz tn)).length
      ·rw[List.getElem?_append_left kX]at hj;have:=holds.2 j u hj;rw[jG,Nat.zero_add]at this;rw[←hW,World.cell?_setCells_out]
       ·exact this
       ·intro _ _;simp only[at_];left;rw[B8]at kX;exact kX
      ·rw[List.getElem?_append_right (by omega),B8]at hj;obtain⟨RZ,rfl⟩:=List.getElem?_eq_some_iff.1 hj;have:=World.cell?_setCells_in ri.b news (l.length *sz tn) w FW (j - l.length *sz tn) RZ;rw[show l.length *sz tn+(j - l.length *sz tn)=j by omega,hW]at this;exact this)
   obtain⟨hh,hv⟩:=Q5
   refine lC (aW _ _ HV) ⟨_,((hr.turn hh hv).put (?_:VR W _ _ _ (.ow i)) bX).1,λr' hn=>AA _ _ _ _ (by rintro rfl;exact hn ⟨Nat.le_refl _,by omega⟩),λq qi hq=>by
    rw[AA];exact hq;rintro rfl;simp[hi]at hq⟩
   exact .ow i ⟨ri.b,l.length+m.length,cap,false⟩ (RA _ _ _) nZ (Nat.le_trans A9 c2) rfl
  ·refine grown (some (at_ ri.b 0)) cap _ _ hx (by omega) holds.1 ?_ (killLess (some r)) bX;exact run_firstCells_some w.drew info.size l.length (at_ ri.b 0) l.length cap _ (by rw[holds.1.1,hi2]) (by simpa using holds.2)
 unfold yS at KW;split at KW
 ·rename_i cW;cases KW;have hx:=hr.opd x;rw[cW]at hx;have V3:a.eval x= .slice none 0 0:=by generalize a.eval x=v at hx;cases hx;rfl
  exact empty none st.h rfl V3 (λq row' h1=>⟨row',h1,rfl,id⟩) hk
 ·rename_i r cW;split at KW
  case h_2=>cases KW
  rename_i t' l1 IV;split at KW
  case isFalse=>cases KW
  rename_i e1;subst e1;simp only[fM,Option.some.injEq,Prod.mk.injEq]at KW;obtain⟨rfl,rfl⟩:=KW;obtain⟨ri,hρ,XV⟩:=YI hr IV;have RY:ri.n=l1.length:=XV.1;have hx:=hr.opd x;rw[cW]at hx
  rcases hx.ow_inv hρ with⟨h1,h2,h3,h4⟩ | ⟨ao,h1,h2,h3⟩
  ·exact full r l1 ri ri.cap IV hρ h2 (by simp) (by omega) (Nat.le_refl _) (by rw[←RY];exact h1) hk
  ·exact empty ao _ (List.eq_nil_of_length_eq_zero (by omega)) h1 (killLess (some r)) hk
 ·rename_i r t0 len cW;split at KW
  case h_2=>cases KW
  rename_i t' l1 IV;split at KW
  case isFalse=>cases KW
  rename_i e1;subst e1;simp only[fM,Option.some.injEq,Prod.mk.injEq]at KW;obtain⟨rfl,rfl⟩:=KW;obtain⟨ri,hρ,XV⟩:=YI hr IV;have RY:ri.n=l1.length:=XV.1;have hx:=hr.opd x;rw[cW]at hx;obtain⟨ao,cap,h1,h2,h3,h4,h5⟩:=hx.ov_inv hρ;have LV:(l1.take len).length=len:=by simp;omega
  rcases h3 with⟨rfl,rfl⟩ | ⟨rfl,eW,hc⟩
  ·exact empty ao _ (by simp) h1 (killLess (some r)) hk
  ·rw[Nat.zero_mul]at h1;exact full r l1 ri cap IV hρ eW (by rw[LV]) (by omega) (by omega) (by rw[LV];exact h1) hk
 ·cases KW
end
end Go.D
namespace Go.D
variable [jA]
section
variable {C:Cx} {w0:World} {outer own:Nat→Prop} {ρ:Nat→Option RI} {st st':St} {a:Act} {w:World} {h:Nat→Option tA}
omit [jA]in
def zqC(s:List UInt8)(p q:Nat):(⟨s.toArray⟩:ByteArray).extract p q=⟨((s.drop p).take (q - p)).toArray⟩:=by
 apply ByteArray.ext;simp[ByteArray.data_extract]
omit [jA]in
def zi6{P:Program}(b:Bool)(len cap:Nat)(lo hi:Option Value)(p q:Nat)(V1:∀v,lo=some v→∃k,v= .int k (p:Int))(nY:lo=none→p=0)
  (D1:∀v,hi=some v→∃k,v= .int k (q:Int)) (aY:hi=none→q=len) (IX:p≤q) (C8:q≤cap):
  (Instr.sliceBounds b len cap lo hi none).run P w= .ok (p,q,cap) w:=by
 have e1:(q:Int)≤cap:=by omega
 have e2:(p:Int)≤q:=by omega
 cases lo with
 | none=>
  obtain rfl:=nY rfl;cases hi with
  | none=>obtain rfl:=aY rfl;simp[Instr.sliceBounds]
  | some v=>obtain⟨k,rfl⟩:=D1 v rfl;simp[Instr.sliceBounds,Instr.sliceBound,asIntOf,C8]
 | some u=>
  obtain⟨k,rfl⟩:=V1 u rfl;cases hi with
  | none=>obtain rfl:=aY rfl;simp[Instr.sliceBounds,Instr.sliceBound,asIntOf,IX]
  | some v=>obtain⟨k',rfl⟩:=D1 v rfl;simp[Instr.sliceBounds,Instr.sliceBound,asIntOf,C8,IX]
def zbO(hC:LF C){t e:TypeId}{tn:TN}{ao:Option Addr}{len cap p q:Nat}{lo hi:Option Value}(hu:C.P.underlying t=some (.slice e))(VW:FH C e tn=true)
  (V1:∀v,lo=some v→∃k,v= .int k (p:Int)) (nY:lo=none→p=0) (D1:∀v,hi=some v→∃k,v= .int k (q:Int)) (aY:hi=none→q=len) (IX:p≤q) (C8:q≤cap):
  (Instr.sliceAt t (.slice ao len cap) lo hi none).run C.P w= .ok (.slice (if cap=p then ao else ao.map (·.add (p *sz tn))) (q - p) (cap - p)) w:=by
 simp[Instr.sliceAt,tF hu,Instr.slice,zi6 (P:=C.P) (w:=w) true len cap lo hi p q V1 nY D1 aY IX C8,PK (zcJ hC VW)]
variable {o:Oper} {i:Nat} (hr:bB C w0 outer own ρ st a w)
include hr
def ztk(hC:LF C)(t:TypeId)(x:Operand)(lo hi mx:Option Operand)(ho:o.op= .slice t x lo hi mx)(hk:rB C i o st some=some st'):KC C.P o a w (DC C w0 outer own i ρ st'):=by
 simp only[rB,ho]at hk;split at hk
 ·cases hk
 ·cases hk
 rename_i d hu;unfold uO at hk;split at hk
 ·cases hk
 rename_i len LV;split at hk
 case h_2=>cases hk
 rename_i pa pb E1 o3;cases hb:(decide (0≤pa)&&decide (pa≤pb)&&decide (pb≤(len:Int)))
 case false=>simp[hb]at hk
 simp only[hb,cond_true]at hk;simp only[Bool.and_eq_true,decide_eq_true_eq]at hb;obtain⟨⟨v3,W1⟩,hb3⟩:=hb;obtain⟨p,rfl⟩:=Int.eq_ofNat_of_zero_le v3;obtain⟨q,rfl⟩:=Int.eq_ofNat_of_zero_le (Int.le_trans v3 W1);have IX:p≤q:=by omega
 have YY:q≤len:=by omega
 have e1:((q:Int) - (p:Int)).toNat=q - p:=by omega
 simp only[Int.toNat_natCast,e1]at hk
 have V1:∀v,lo.map a.eval=some v→∃k,v= .int k (p:Int):=λv hv=>by
  obtain⟨y,hy,rfl⟩:=Option.map_eq_some_iff.1 hv;subst hy;have:=hr.opd y;simp only[Option.map_some,ES]at E1;split at E1
  ·rename_i heq;cases heq
  ·rename_i k n heq;cases E1;simp only[Option.some.injEq]at heq;rw[heq]at this;exact⟨k,this.int_inv.1⟩
  ·cases E1
 have nY:lo.map a.eval=none→p=0:=λhv=>by
  have:lo=none:=by simpa using hv
  subst this;simp[ES]at E1;omega
 have D1:∀v,hi.map a.eval=some v→∃k,v= .int k (q:Int):=λv hv=>by
  obtain⟨y,hy,rfl⟩:=Option.map_eq_some_iff.1 hv;subst hy;have:=hr.opd y;simp only[Option.map_some,ES]at o3;split at o3
  ·rename_i heq;cases heq
  ·rename_i k n heq;cases o3;simp only[Option.some.injEq]at heq;rw[heq]at this;exact⟨k,this.int_inv.1⟩
  ·cases o3
 have aY:hi.map a.eval=none→q=len:=λhv=>by
  have:hi=none:=by simpa using hv
  subst this;simp[ES]at o3;omega
 have hx:=hr.opd x;obtain⟨zZ,hl⟩:=zkj hr hx LV
 have aW:∀v,(Instr.sliceAt t (a.eval x) (lo.map a.eval) (hi.map a.eval) none).run C.P w= .ok v w→(execOp a.eval o).run C.P w= .ok (.value v) w:=λv h1=>by
  simp[execOp,ho,h1]
 split at hk
 ·rename_i e tn l cW;rw[cW]at hx LV;simp only[vM,Option.some.injEq]at LV;cases VW:FH C e tn
  case false=>simp[VW]at hk
  simp only[VW,XC]at hk;obtain⟨ao,cap,h1,h2,h3,h4⟩:=hx.sl_inv2;rw[LV]at h1 h2;have HV:=zbO (w:=w) hC hu VW V1 nY D1 aY IX (Nat.le_trans YY h2) (ao:=ao);rw[←h1]at HV;refine lC (aW _ HV) (hr.after ?_ hk)
  by_cases B9:q - p=0
  ·rw[B9,List.take_zero];exact .slE _ _ _ (by omega)
  ·rw[if_neg (by omega)]
   rcases h4 with rfl | ⟨b,off,rfl,TY,jW,ZV⟩
   ·simp at LV;omega
   ·replace TY:((l.drop p).take (q - p))≠[]→b<jA.base∨DF w b tn:=λ_=>TY
    simp only[Option.map_some,jG];have D8:((l.drop p).take (q - p)).length=q - p:=by simp;omega
    have:=VR.slC (w:=w) (ρ:=ρ) (bad:=sA outer ρ st.h) tn ((l.drop p).take (q - p)) b (off+p *sz tn) (cap - p)
     (λi j=>(w.cell? (at_ b (off+p *sz tn+i *sz tn+j))).getD undef) jW (by omega) (by omega) TY
     (fun i hi j hj=>by
      obtain⟨u,h5,h6⟩:=ZV (p+i) (by omega) j hj;rw[show off+p *sz tn+i *sz tn+j=off+(p+i) *sz tn+j by rw[Nat.add_mul];omega,h5];rfl)
     (fun i hi j hj=>by
      obtain⟨u,h5,h6⟩:=ZV (p+i) (by omega) j hj
      rw[show off+p *sz tn+i *sz tn+j=off+(p+i) *sz tn+j by rw[Nat.add_mul];omega,h5,Option.getD_some,
       zh2 l p (q - p) i (by omega) hi]
      exact h6)
    rw[D8]at this;exact this
 ·rename_i s cW;rw[cW]at hx LV;simp only[vM,Option.some.injEq]at LV;obtain⟨h1,h2⟩:=hx.str_inv;have zX:(⟨s.toArray⟩:ByteArray).size=s.length:=by simp[ByteArray.size]
  refine lC (aW (.string ⟨((s.drop p).take (q - p)).toArray⟩) ?_) (hr.after (.str _ (by simp;omega)) hk);rw[h1];have P2:=zi6 (P:=C.P) (w:=w) false s.length s.length (lo.map a.eval) (hi.map a.eval) p q V1 nY D1 (by rw[LV];exact aY) IX (by omega);simp[Instr.sliceAt,tF hu,Instr.slice,zX,P2,zqC]
 ·rename_i e r cW;rw[cW]at hx LV;split at hk
  case h_2=>cases hk
  rename_i tn l m IV;cases VW:FH C e tn
  case false=>simp[VW]at hk
  simp only[VW,XC]at hk;simp only[vM,IV,Option.some.injEq]at LV;obtain⟨ri,hρ,XV⟩:=YI hr IV;have RY:ri.n=l.length:=XV.1
  rcases hx.ow_inv hρ with⟨h1,h2,h3,h4⟩ | ⟨ao,h1,h2,h3⟩
  ·have HV:=zbO (w:=w) hC hu VW V1 nY D1 (λh=>by have:=aY h;omega) IX (show q≤ri.cap by omega) (ao:=some (at_ ri.b 0)) (len:=ri.n);rw[←h1]at HV;refine lC (aW _ HV) (hr.after (.ov r tn p (q - p) (ri.cap - p) _ ri hρ (by omega) ?_ (by omega) (by omega)) hk)
   by_cases C9:ri.cap=p
   ·left;omega
   ·right;rw[if_neg C9];refine⟨?_,h2,by omega⟩;simp[jG]
  ·have HV:=zbO (w:=w) hC hu VW V1 nY D1 (λh=>by have:=aY h;omega) IX (show q≤0 by omega) (ao:=ao) (len:=0);rw[←h1]at HV;exact lC (aW _ HV) (hr.after (.ov r tn p (q - p) (0 - p) _ ri hρ (by omega) (.inl ⟨by omega,by omega⟩) (by omega) (by unfold maxLen;omega)) hk)
 ·rename_i e r tn off len' cW;rw[cW]at hx LV;cases VW:FH C e tn
  case false=>simp[VW]at hk
  simp only[VW,XC]at hk;simp only[vM,Option.some.injEq]at LV;obtain⟨ri,hρ⟩:=hx.ov_row;obtain⟨ao,cap,h1,h2,h3,h4,h5⟩:=hx.ov_inv hρ;have HV:=zbO (w:=w) hC hu VW V1 nY D1 (λh=>by have:=aY h;omega) IX (show q≤cap by omega) (ao:=ao) (len:=len');rw[←h1]at HV;have g1:q - p≤cap - p:=Nat.sub_le_sub_right (Nat.le_trans YY (by rw[←LV];exact h4)) p;have g2:cap - p≤maxLen:=Nat.le_trans (Nat.sub_le _ _) h5
  have g3:off+p+(q - p)≤ri.n:=by
   rw[Nat.add_assoc,Nat.add_sub_cancel' IX];exact Nat.le_trans (Nat.add_le_add_left (by rw[LV];exact YY) off) h2
  refine lC (aW _ HV) (hr.after (.ov r tn (off+p) (q - p) (cap - p) _ ri hρ g3 ?_ g1 g2) hk)
  rcases h3 with⟨h6,h7⟩ | ⟨rfl,h6,h7⟩
  ·left;omega
  ·by_cases C9:cap=p
   ·left;omega
   ·right;rw[if_neg C9];refine⟨?_,h6,by omega⟩;simp[jG,Nat.add_mul]
 ·cases hk
end
end Go.D

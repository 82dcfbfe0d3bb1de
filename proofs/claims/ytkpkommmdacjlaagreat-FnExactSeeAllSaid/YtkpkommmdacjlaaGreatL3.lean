/-
 One operation, continued: numbers, texts, parts of slices.
-/
import Derived.Test.YtkpkommmdacjlaaGreatL2
import Derived.Deep.Upon
set_option linter.all false
namespace Go.D
variable [aA]
omit [aA]in
def bR(k:IntKind)(n:Int)(m:Nat)(h:LB k n):LB k (n.fdiv (2^m)):=by
 have hp:(0:Int)<2^m:=Int.pow_pos (by decide);rw[Int.fdiv_eq_ediv_of_nonneg _ (Int.le_of_lt hp)];obtain⟨h1,h2⟩:=h;have T5:k.min≤0:=by cases k<;>decide
 have AY:0≤k.max:=by cases k<;>decide
 by_cases hn:0≤n
 ·have a1:=Int.ediv_nonneg hn (Int.le_of_lt hp);have a2:=Int.ediv_le_self (2^m) hn;exact⟨by omega,by omega⟩
 ·have a1:n / 2^m<0:=Int.ediv_neg_of_neg_of_pos (by omega) hp
  have a2:n≤n / 2^m:=by
   rw[Int.le_ediv_iff_mul_le hp];have:1≤(2:Int)^m:=by omega
   have h3:=Int.mul_le_mul_of_nonpos_left (a:=n) (b:=2^m) (c:=1) (by omega) this;simpa using h3
  exact⟨by omega,by omega⟩
omit [aA]in
def zbQ(k:IntKind)(n m:Int)(h:LB k n):LB k (n.tmod m):=by
 obtain⟨h1,h2⟩:=h;have T5:k.min≤0:=by cases k<;>decide
 have AY:0≤k.max:=by cases k<;>decide
 have e1:=Int.natAbs_tmod n m;have e2:=Nat.mod_le n.natAbs m.natAbs
 by_cases hn:0≤n
 ·have a1:=Int.tmod_nonneg m hn;exact⟨by omega,by omega⟩
 ·have e:n.tmod m= -((-n).tmod m):=by rw[Int.neg_tmod,Int.neg_neg]
  have a1:=Int.tmod_nonneg (a:= -n) m (by omega);exact⟨by omega,by omega⟩
section
variable {C:Cx} {w0:World} {outer:Nat→Prop} {own:Ow} {ρ:Nat→Option RI} {st st':St} {a:Act} {w:World} {h:Nat→Option fA}
variable {o:Oper} {i:Nat} (hr:xA C w0 outer own ρ st a w)
def zdG{bad:Nat→Prop}{op:BinOp}{t:TypeId}{vx vy:Value}{dx dy d:V}(hx:VR w ρ bad vx dx)(hy:VR w ρ bad vy dy)
  (hd:IP op dx dy=some d) (x y:Operand):∃v,VR w ρ bad v d∧((do eqGuard op t x y vx vy;binOp op t vx vy):Sem Value).run C.P w= .ok v w:=by
 unfold IP at hd;split at hd
 ·rename_i k p k' q
  have jW:∀{α:Type} {y z:α},(bif decide (k=k')then some y else none)=some z→k=k'∧y=z:=λh=>by
   by_cases oX:k=k'
   ·simp[oX]at h;exact⟨oX,h⟩
   ·simp[oX]at h
  have ZV:LB k p:=by cases hx;assumption
  have FZ:vx= .int k p:=by cases hx;rfl
  have xX:vy= .int k' q:=by cases hy;rfl
  subst FZ xX
  cases op<;>simp only at hd<;>first
   | (obtain⟨rfl,rfl⟩:=jW hd;refine⟨_, .int _ _ (TI _ _),?_⟩;simp[eqGuard,binOp,Op.intArith,Op.intBits];done)
   | (obtain⟨rfl,rfl⟩:=jW hd;refine⟨_, .bool _,?_⟩;simp[eqGuard,binOp,Op.intCmp];done)
   | (split at hd
      ·cases hd
      ·cases hd;rename_i hq;refine⟨_, .int _ _ (by first | exact TI _ _ | exact bR _ _ _ ZV),?_⟩;simp[eqGuard,binOp,Op.shift,hq];done)
   | (cases hd;done)
 ·rename_i p q;have FZ:vx= .string ⟨p.toArray⟩:=by cases hx;rfl
  have xX:vy= .string ⟨q.toArray⟩:=by cases hy;rfl
  subst FZ xX
  cases op<;>first
   | (cases hd;done)
   | (cases hd;refine⟨_, .bool _,?_⟩;simp[eqGuard,binOp,Op.stringOp];done)
 ·cases hd
def zdQ{bad:Nat→Prop}{op:BinOp}{t:TypeId}{vx vy:Value}{dx dy:V}{R:Type}{K:V→Option R}{r:R}(hx:VR w ρ bad vx dx)(hy:VR w ρ bad vy dy)
  (hk:HG op dx dy K=some r) (x y:Operand):
  ∃d v,K d=some r∧VR w ρ bad v d∧((do eqGuard op t x y vx vy;binOp op t vx vy):Sem Value).run C.P w= .ok v w:=by
 unfold HG at hk;split at hk
 ·-- quo
  rename_i k p k' q
  by_cases oX:k=k'
  case neg=>simp[oX]at hk
  subst oX;cases hq:(q==0)
  case true=>simp[hq]at hk
  simp only[decide_true,cond_true,hq,cond_false]at hk;cases hx;cases hy;refine⟨_, .int k (k.wrap (p.tdiv q)),hk, .int _ _ (TI _ _),?_⟩;have:q≠0:=by simpa using hq
  simp[eqGuard,binOp,Op.intDiv,this]
 ·rename_i k p k' q
  by_cases oX:k=k'
  case neg=>simp[oX]at hk
  subst oX;cases hq:(q==0)
  case true=>simp[hq]at hk
  simp only[decide_true,cond_true,hq,cond_false]at hk;cases hx;cases hy;refine⟨_, .int k (p.tmod q),hk, .int _ _ (zbQ _ _ _ (by assumption)),?_⟩;have:q≠0:=by simpa using hq
  simp[eqGuard,binOp,Op.intDiv,this]
 ·rename_i k p k' q
  by_cases hq:q<0
  case pos=>simp[hq]at hk
  simp only[hq,decide_false,cond_false]at hk;cases hx;cases hy;refine⟨_,_,hk, .int _ _ (TI _ _),?_⟩;simp[eqGuard,binOp,Op.shift,hq]
 ·rename_i k p k' q
  by_cases hq:q<0
  case pos=>simp[hq]at hk
  simp only[hq,decide_false,cond_false]at hk;cases hx;cases hy;refine⟨_,_,hk, .int _ _ (bR _ _ _ (by assumption)),?_⟩;simp[eqGuard,binOp,Op.shift,hq]
 ·rename_i p q
  by_cases hq:p.length+q.length≤nA
  case neg=>simp[hq]at hk
  simp only[hq,decide_true,cond_true]at hk;cases hx;cases hy;have hl:nA≤1000000000000:=by unfold nA;decide
  refine⟨_, .string ⟨(p++q).toArray⟩,hk, .str _ (by simp[maxLen];omega),?_⟩
  have h1:¬(IntKind.i64.max<((p.length+q.length:Nat):Int)):=by
   simp only[IntKind.max,IntKind.signed,IntKind.bits];simp;omega
  have h2:(p.length:Int)+q.length≤IntKind.i64.max:=by
   simp only[IntKind.max,IntKind.signed,IntKind.bits];simp;omega
  have yX:(⟨p.toArray⟩:ByteArray).size=p.length:=by simp[ByteArray.size]
  have SZ:(⟨q.toArray⟩:ByteArray).size=q.length:=by simp[ByteArray.size]
  simp[eqGuard,binOp,Op.stringOp,ByteArray.mk_append_mk,yX,SZ];simp only[IntKind.max,IntKind.signed,IntKind.bits]at h2;simp at h2;omega
 ·split at hk
  case h_2=>cases hk
  rename_i d hd;obtain⟨v,h1,h2⟩:=zdG (w:=w) hx hy hd (t:=t) x y;exact⟨d,v,hk,h1,h2⟩
end
end Go.D
namespace Go.D
variable [aA]
section
variable {C:Cx} {w0:World} {outer:Nat→Prop} {own:Ow} {ρ:Nat→Option RI} {st st':St} {a:Act} {w:World} {h:Nat→Option fA}
omit [aA]in
def UR(n:Nat){P:Program}{t:TypeId}{k:IntKind}(hu:P.underlying t=some (.int k))(j:IntKind)(x y:Int):(Op.equalIn (n+1) t (.int j x) (.int j y)).run P w= .ok (x==y) w:=by
 rw[Op.equalIn];simp[ZC hu]
omit [aA]in
def qR(n:Nat){P:Program}{t:TypeId}(hu:P.underlying t=some .bool)(x y:Bool):(Op.equalIn (n+1) t (.bool x) (.bool y)).run P w= .ok (x==y) w:=by
 rw[Op.equalIn];simp[ZC hu]
omit [aA]in
def YG{P:Program}{t:TypeId}(h1:xC P t=some false){vs:Array Value}{k:Nat}(hk:k<vs.size):(part t vs k).run P w= .ok (vs.getD k undef) w:=by
 rw[Array.getD_eq_getD_getElem?,Array.getElem?_eq_getElem hk];simp[part,mG h1,Array.getElem?_eq_getElem hk]
def wF(n:Nat)(xs ys:Array Value)(f:Field)(_:Option Bool×Unit):Sem (ForInStep (Option Bool×Unit)):=
 if f.name ≠ "_" then do
  let __do_lift ←part f.type xs f.offset;let __do_lift_1 ←part f.type ys f.offset;let __do_lift ←Op.equalIn n f.type __do_lift __do_lift_1
  if(!__do_lift)=true then pure (ForInStep.done (some false,()))
   else pure (ForInStep.yield (none,()))
 else pure (ForInStep.yield (none,()))
def IS(n:Nat){P:Program}{bad:Nat→Prop}(xs ys:Array Value):∀(fl:List Field) (ks:List Bool) (k:Nat) (dxs dys:List V) (b:Bool),nF P k fl=some ks→vC ks dxs dys=some b→
  k+fl.length≤xs.size→k+fl.length≤ys.size→(∀j (hj:j<dxs.length),VR w ρ bad (xs.getD (k+j) undef) dxs[j])→(∀j (hj:j<dys.length),VR w ρ bad (ys.getD (k+j) undef) dys[j])→
  (forIn fl ((none,()):Option Bool×Unit) (wF (n+1) xs ys)).run P w= .ok (bif b then(none,())else(some false,())) w
 | [],ks,k,dxs,dys,b,hf,he,_,_,_,_=>by
  simp only[nF,Option.some.injEq]at hf;subst hf;cases dxs<;>cases dys<;>simp[vC]at he
  subst he;simp
 | f :: fl,ks,k,dxs,dys,b,hf,he,hx,hy,HY,IY=>by
  simp only[nF]at hf
  cases hb : (f.name != "_" && Nat.beq f.offset k)
  case false=>simp[hb]at hf
  simp only[hb,cond_true]at hf;simp only[Bool.and_eq_true,bne_iff_ne,ne_eq]at hb;obtain⟨aW,KW⟩:=hb;have KW:=Nat.eq_of_beq_eq_true KW;simp only[List.length_cons]at hx hy
  have main:∀(dx dy:V) (dxs' dys':List V) (ks':List Bool) (q b':Bool),dxs=dx :: dxs'→dys=dy :: dys'→nF P (k+1) fl=some ks'→xC P f.type=some false→
    (Op.equalIn (n+1) f.type (xs.getD k undef) (ys.getD k undef)).run P w= .ok q w→vC ks' dxs' dys'=some b'→b=(bif q then b' else false)→
    (forIn (f :: fl) ((none,()):Option Bool×Unit) (wF (n+1) xs ys)).run P w= .ok (bif b then(none,())else(some false,())) w:=λdx dy dxs' dys' ks' q b' z9 A9 MV cW h1 h2 h3=>by
   subst z9 A9;have U5:=YG (P:=P) (w:=w) cW (show k<xs.size by omega);have V5:=YG (P:=P) (w:=w) cW (show k<ys.size by omega)
   have ih:=IS n xs ys fl ks' (k+1) dxs' dys' b' MV h2 (by omega) (by omega)
    (λj hj=>by have:=HY (j+1) (by simp;omega);rwa [show k+(j+1)=k+1+j by omega]at this)
    (λj hj=>by have:=IY (j+1) (by simp;omega);rwa [show k+(j+1)=k+1+j by omega]at this)
   rw[List.forIn_cons,Sem.run_bind]
   have hb:(wF (n+1) xs ys f (none,())).run P w= .ok (bif q then ForInStep.yield (none,())else ForInStep.done (some false,())) w:=by
    unfold wF;rw[if_pos aW,KW];simp only[Sem.run_bind,U5,V5,Result.andThen_ok,h1];cases q<;>simp
   rw[hb,Result.andThen_ok];subst h3;cases q with
   | false=>simp
   | true=>simpa using ih
  split at hf
  ·rename_i ks' hu MV;cases hf;unfold vC at he;split at he
   ·simp_all
   ·simp_all
   ·rename_i ks'' p xs' q ys' h1;cases h1;obtain⟨b',h3,h4⟩:=Option.map_eq_some_iff.1 he;have aX:=HY 0 (by simp);have GX:=IY 0 (by simp);simp only[Nat.add_zero,List.getElem_cons_zero]at aX GX;have e1:xs.getD k undef= .bool p:=by generalize xs.getD k undef=v at aX;cases aX;rfl
    have e2:ys.getD k undef= .bool q:=by generalize ys.getD k undef=v at GX;cases GX;rfl
    exact main _ _ _ _ _ (p==q) b' rfl rfl MV (by simp[xC,hu]) (by rw[e1,e2];exact qR n hu p q) h3 h4.symm
   ·cases he
  ·rename_i ki ks' hu MV;cases hf;unfold vC at he;split at he
   ·simp_all
   ·rename_i ks'' j p xs' k' q ys' h1;cases h1
    by_cases JY:j=k'
    case neg=>simp[JY]at he
    subst JY;simp only[decide_true,cond_true,Option.map_eq_some_iff]at he;obtain⟨b',h3,h4⟩:=he;have aX:=HY 0 (by simp);have GX:=IY 0 (by simp);simp only[Nat.add_zero,List.getElem_cons_zero]at aX GX;have e1:xs.getD k undef= .int j p:=by generalize xs.getD k undef=v at aX;cases aX;rfl
    have e2:ys.getD k undef= .int j q:=by generalize ys.getD k undef=v at GX;cases GX;rfl
    exact main _ _ _ _ _ (p==q) b' rfl rfl MV (by simp[xC,hu]) (by rw[e1,e2];exact UR n hu j p q) h3 h4.symm
   ·rename_i h1;cases h1
   ·cases he
  ·cases hf
omit [aA]in
def KN{P:Program}:∀(fl:List Field) (k:Nat) (ks:List Bool),nF P k fl=some ks→ks.length=fl.length
 | [],_,_,h=>by simp[nF]at h;subst h;rfl
 | f :: fl,k,ks,h=>by
  simp only[nF]at h
  cases hb : (f.name != "_" && Nat.beq f.offset k)
  case false=>simp[hb]at h
  simp only[hb,cond_true]at h;split at h
  ·rename_i ks' _ h1;cases h;simp[KN fl _ _ h1]
  ·rename_i ks' _ h1;cases h;simp[KN fl _ _ h1]
  ·cases h
omit [aA]in
def KL:∀(ks:List Bool) (xs ys:List V) (b:Bool),vC ks xs ys=some b→xs.length=ks.length∧ys.length=ks.length
 | [],xs,ys,b,h=>by cases xs<;>cases ys<;>simp[vC]at h;exact⟨rfl,rfl⟩
 | k :: ks,xs,ys,b,h=>by
  unfold vC at h;split at h
  ·rename_i h1;cases h1
  ·rename_i ks' j p xs' k' q ys' h1;cases h1;cases JY:decide (j=k')
   ·simp[JY]at h
   ·simp only[JY,cond_true,Option.map_eq_some_iff]at h;obtain⟨b',h2,_⟩:=h;have:=KL _ _ _ _ h2;simp[this]
  ·rename_i ks' p xs' q ys' h1;cases h1;obtain⟨b',h2,_⟩:=Option.map_eq_some_iff.1 h;have:=KL _ _ _ _ h2;simp[this]
  ·cases h
omit [aA]in
def NN:∀(k1 ks:List Bool) (xs ys:List V) (b:Bool),vC (k1++ks) xs ys=some b→
  ∃b1 b2,vC k1 (xs.take k1.length) (ys.take k1.length)=some b1∧vC ks (xs.drop k1.length) (ys.drop k1.length)=some b2∧b=(bif b1 then b2 else false)
 | [],ks,xs,ys,b,h=>⟨true,b,by simp[vC],by simpa using h,rfl⟩
 | k :: k1,ks,xs,ys,b,h=>by
  rw[List.cons_append]at h;unfold vC at h;split at h
  ·rename_i h1;cases h1
  ·rename_i ks' j p xs' k' q ys' h1;cases h1;cases JY:decide (j=k')
   ·simp[JY]at h
   ·simp only[JY,cond_true,Option.map_eq_some_iff]at h;obtain⟨b',h2,h3⟩:=h;obtain⟨b1,b2,e1,e2,e3⟩:=NN _ _ _ _ _ h2;refine⟨bif p==q then b1 else false,b2,?_,by simpa using e2,?_⟩
    ·simp only[List.length_cons,List.take_succ_cons,vC,JY,cond_true,e1,Option.map_some]
    ·rw[←h3,e3];cases(p==q)<;>cases b1<;>rfl
  ·rename_i ks' p xs' q ys' h1;cases h1;obtain⟨b',h2,h3⟩:=Option.map_eq_some_iff.1 h;obtain⟨b1,b2,e1,e2,e3⟩:=NN _ _ _ _ _ h2;refine⟨bif p==q then b1 else false,b2,?_,by simpa using e2,?_⟩
   ·simp only[List.length_cons,List.take_succ_cons,vC,e1,Option.map_some]
   ·rw[←h3,e3];cases(p==q)<;>cases b1<;>rfl
  ·cases h
omit [aA]in
def DR{P:Program}{t:TypeId}(h1:xC P t=some true){n:Nat}(h2:oC P t=some n){vs:Array Value}{k:Nat}(hk:k+n≤vs.size):
  (part t vs k).run P w= .ok (.agg (vs.extract k (k+n))) w:=by
 have:¬vs.size<k+n:=by omega
 simp[part,mG h1,ME h2]
def zbo(n:Nat){P:Program}{bad:Nat→Prop}{t:TypeId}{gs:Array Field}(hu:P.underlying t=some (.struct gs))(D4:P.stoodInHeld t=false)(xs ys:Array Value)(ks:List Bool)(dxs dys:List V)(b:Bool)
  (hf:nF P 0 gs.toList=some ks) (he:vC ks dxs dys=some b) (hx:dxs.length=xs.size) (hy:dys.length=ys.size)
  (HY:∀j (hj:j<dxs.length),VR w ρ bad (xs.getD j undef) dxs[j]) (IY:∀j (hj:j<dys.length),VR w ρ bad (ys.getD j undef) dys[j]):
  (Op.equalIn (n+2) t (.agg xs) (.agg ys)).run P w= .ok b w:=by
 have FV:=KN _ _ _ hf;obtain⟨l1,l2⟩:=KL _ _ _ _ he;have VY:=IS n (P:=P) (w:=w) xs ys gs.toList ks 0 dxs dys b hf he (by omega) (by omega) (by simpa using HY) (by simpa using IY);rw[Op.equalIn];simp only[Sem.run_bind,ZC hu,Result.andThen_ok,run_program,D4,Bool.false_eq_true,if_false];rw[←Array.forIn_toList];change ((forIn gs.toList ((none,()):Option Bool×Unit) (wF (n+1) xs ys)).run P w).andThen _=_;rw[VY,Result.andThen_ok];cases b<;>simp
def yR(n:Nat){P:Program}{bad:Nat→Prop}(xs ys:Array Value):∀(fl:List Field) (ks:List Bool) (k:Nat) (dxs dys:List V) (b:Bool),lG P k fl=some ks→vC ks dxs dys=some b→
  k+dxs.length≤xs.size→k+dys.length≤ys.size→(∀j (hj:j<dxs.length),VR w ρ bad (xs.getD (k+j) undef) dxs[j])→(∀j (hj:j<dys.length),VR w ρ bad (ys.getD (k+j) undef) dys[j])→
  (forIn fl ((none,()):Option Bool×Unit) (wF (n+2) xs ys)).run P w= .ok (bif b then(none,())else(some false,())) w
 | [],ks,k,dxs,dys,b,hf,he,_,_,_,_=>by
  simp only[lG,Option.some.injEq]at hf;subst hf;cases dxs<;>cases dys<;>simp[vC]at he
  subst he;simp
 | f :: fl,ks,k,dxs,dys,b,hf,he,hx,hy,HY,IY=>by
  simp only[lG]at hf
  cases hb : (f.name != "_" && Nat.beq f.offset k)
  case false=>simp[hb]at hf
  simp only[hb,cond_true]at hf;simp only[Bool.and_eq_true,bne_iff_ne,ne_eq]at hb;obtain⟨aW,KW⟩:=hb;have KW:=Nat.eq_of_beq_eq_true KW
  have main:∀(m:Nat) (ks':List Bool) (q b':Bool) (px py:Value),lG P (k+m) fl=some ks'→m≤dxs.length→m≤dys.length→
    (part f.type xs k).run P w= .ok px w→(part f.type ys k).run P w= .ok py w→
    (Op.equalIn (n+2) f.type px py).run P w= .ok q w→vC ks' (dxs.drop m) (dys.drop m)=some b'→b=(bif q then b' else false)→
    (forIn (f :: fl) ((none,()):Option Bool×Unit) (wF (n+2) xs ys)).run P w= .ok (bif b then(none,())else(some false,())) w:=λm ks' q b' px py MV mX P1 U5 V5 h1 h2 h3=>by
   have ih:=yR n xs ys fl ks' (k+m) (dxs.drop m) (dys.drop m) b' MV h2 (by simp;omega) (by simp;omega)
    (λj hj=>by have:=HY (m+j) (by simp at hj;omega);rw[List.getElem_drop];rwa [show k+(m+j)=k+m+j by omega]at this)
    (λj hj=>by have:=IY (m+j) (by simp at hj;omega);rw[List.getElem_drop];rwa [show k+(m+j)=k+m+j by omega]at this)
   rw[List.forIn_cons,Sem.run_bind]
   have hb:(wF (n+2) xs ys f (none,())).run P w= .ok (bif q then ForInStep.yield (none,())else ForInStep.done (some false,())) w:=by
    unfold wF;rw[if_pos aW,KW];simp only[Sem.run_bind,U5,V5,Result.andThen_ok,h1];cases q<;>simp
   rw[hb,Result.andThen_ok];subst h3;cases q with
   | false=>simp
   | true=>simpa using ih
  split at hf
  ·rename_i hu;split at hf
   case h_2=>cases hf
   rename_i ks' MV;cases hf;unfold vC at he;split at he
   ·simp_all
   ·simp_all
   ·rename_i ks'' p xs' q ys' h1;cases h1;obtain⟨b',h3,h4⟩:=Option.map_eq_some_iff.1 he;have aX:=HY 0 (by simp);have GX:=IY 0 (by simp);simp only[Nat.add_zero,List.getElem_cons_zero]at aX GX;have e1:xs.getD k undef= .bool p:=by generalize xs.getD k undef=v at aX;cases aX;rfl
    have e2:ys.getD k undef= .bool q:=by generalize ys.getD k undef=v at GX;cases GX;rfl
    have cW:xC P f.type=some false:=by simp[xC,hu]
    simp only[List.length_cons]at hx hy;exact main 1 ks' (p==q) b' _ _ MV (by simp) (by simp) (YG cW (show k<xs.size by omega)) (YG cW (show k<ys.size by omega)) (by rw[e1,e2];exact qR (n+1) hu p q) (by simpa using h3) h4.symm
   ·cases he
  ·rename_i ki hu;split at hf
   case h_2=>cases hf
   rename_i ks' MV;cases hf;unfold vC at he;split at he
   ·simp_all
   ·rename_i ks'' j p xs' k' q ys' h1;cases h1
    by_cases JY:j=k'
    case neg=>simp[JY]at he
    subst JY;simp only[decide_true,cond_true,Option.map_eq_some_iff]at he;obtain⟨b',h3,h4⟩:=he;have aX:=HY 0 (by simp);have GX:=IY 0 (by simp);simp only[Nat.add_zero,List.getElem_cons_zero]at aX GX;have e1:xs.getD k undef= .int j p:=by generalize xs.getD k undef=v at aX;cases aX;rfl
    have e2:ys.getD k undef= .int j q:=by generalize ys.getD k undef=v at GX;cases GX;rfl
    have cW:xC P f.type=some false:=by simp[xC,hu]
    simp only[List.length_cons]at hx hy;exact main 1 ks' (p==q) b' _ _ MV (by simp) (by simp) (YG cW (show k<xs.size by omega)) (YG cW (show k<ys.size by omega)) (by rw[e1,e2];exact UR (n+1) hu j p q) (by simpa using h3) h4.symm
   ·rename_i h1;cases h1
   ·cases he
  ·rename_i gs hu;split at hf
   case h_2=>cases hf
   rename_i k1 TZ;cases hg:(!(P.stoodInHeld f.type)&&decide (oC P f.type=some k1.length))
   case false=>simp[hg]at hf
   simp only[hg,cond_true]at hf;simp only[Bool.and_eq_true,Bool.not_eq_true',decide_eq_true_eq]at hg;split at hf
   case h_2=>cases hf
   rename_i ks' MV;cases hf;obtain⟨b1,b2,e1,e2,e3⟩:=NN _ _ _ _ _ he;obtain⟨l1,l2⟩:=KL _ _ _ _ he;simp only[List.length_append]at l1 l2;have cW:xC P f.type=some true:=by simp[xC,hu]
   refine main k1.length ks' b1 b2 _ _ MV (by omega) (by omega) (DR cW hg.2 (by omega)) (DR cW hg.2 (by omega)) ?_ e2 e3;refine zbo n (ρ:=ρ) (bad:=bad) hu hg.1 _ _ k1 _ _ b1 TZ e1 (by simp;omega) (by simp;omega) (λj hj=>?_) (λj hj=>?_)
   ·have:=HY j (by simp at hj;omega);rw[List.getElem_take];rw[Array.getD_eq_getD_getElem?]at this⊢;have hq:k+j<xs.size:=by simp at hj;omega
    rw[Array.getElem?_extract_of_lt (by simp at hj;omega)];simpa[Array.getElem?_eq_getElem hq]using this
   ·have:=IY j (by simp at hj;omega);rw[List.getElem_take];rw[Array.getD_eq_getD_getElem?]at this⊢;have hq:k+j<ys.size:=by simp at hj;omega
    rw[Array.getElem?_extract_of_lt (by simp at hj;omega)];simpa[Array.getElem?_eq_getElem hq]using this
  ·cases hf
variable {o:Oper} {i:Nat} (hr:xA C w0 outer own ρ st a w)
include hr
def zc0(op:BinOp)(t t':TypeId)(x y:Operand)(ho:o.op= .binOp op t x y t')(hk:OA C i o st some=some st'):uB C.P o a w (qB C w0 outer own i ρ st'):=by
 simp only[OA,ho]at hk;have hx:=hr.opd x;have hy:=hr.opd y;split at hk
 ·rename_i dxs dys h1 h2;rw[h1]at hx;rw[h2]at hy;split at hk
  case h_2=>cases hk
  rename_i ks AW;split at hk
  case h_2=>cases hk
  rename_i b hb;unfold IQ at AW;split at AW
  case h_2=>cases AW
  rename_i fs hu;cases hg:(!(C.P.stoodInHeld t)&&!(C.P.eqGuardType C.P.depth t))
  case false=>simp[hg]at AW
  simp only[hg,cond_true]at AW;simp only[Bool.and_eq_true,Bool.not_eq_true']at hg;cases ZV:a.eval x<;>rw[ZV]at hx<;>cases hx
  cases UZ:a.eval y<;>rw[UZ]at hy<;>cases hy
  rename_i xs Q1 FZ ys G4 xX;have VY:=yR 9997 (P:=C.P) (w:=w) xs ys fs.toList ks 0 dxs dys b AW hb (by omega) (by omega) (by simpa using FZ) (by simpa using xX)
  have heq:(Op.equal t (.agg xs) (.agg ys)).run C.P w= .ok b w:=by
   unfold Op.equal Op.maxDepth;rw[Op.equalIn];simp only[Sem.run_bind,ZC hu,Result.andThen_ok,run_program,hg.1,Bool.false_eq_true,if_false];rw[←Array.forIn_toList];change ((forIn fs.toList ((none,()):Option Bool×Unit) (wF 9999 xs ys)).run C.P w).andThen _=_;rw[VY,Result.andThen_ok];cases b<;>simp
  have J0:∀op',(eqGuard op' t x y (.agg xs) (.agg ys)).run C.P w= .ok () w:=λop'=>by
   unfold eqGuard;split<;>simp[hg.2]
  cases op<;>first
   | (cases hk;done)
   | (refine ZA (w':=w) ?_ (hr.after (.bool _) hk)
      simp[execOp,ho,ZV,UZ,J0,binOp,heq];done)
 ·rename_i p q h1 h2;rw[h1]at hx;rw[h2]at hy;split at hk
  case h_2=>cases hk
  rename_i hu;cases ZV:a.eval x<;>rw[ZV]at hx<;>cases hx
  cases UZ:a.eval y<;>rw[UZ]at hy<;>cases hy
  have heq:(Op.equal t (.bool p) (.bool q)).run C.P w= .ok (p==q) w:=by
   unfold Op.equal Op.maxDepth;rw[Op.equalIn];simp[ZC hu]
  cases op<;>first
   | (cases hk;done)
   | (refine ZA (w':=w) ?_ (hr.after (.bool _) hk)
      simp[execOp,ho,ZV,UZ,eqGuard,binOp,heq];done)
 ·rename_i b h1 h2;rw[h1]at hx;rw[h2]at hy;split at hk
  case h_2=>cases hk
  rename_i hu
  have heq:(Op.equal t (a.eval x) .nilIface).run C.P w= .ok b w:=by
   unfold Op.equal Op.maxDepth;cases ZV:a.eval x<;>rw[ZV]at hx<;>cases hx<;>rw[Op.equalIn]<;>simp[ZC hu]
  cases UZ:a.eval (.const _)<;>rw[UZ]at hy<;>cases hy
  cases ZV:a.eval x<;>rw[ZV]at hx heq<;>cases hx<;>cases op<;>first
   | (cases hk;done)
   | (refine ZA (w':=w) ?_ (hr.after (.bool _) hk)
      simp[execOp,ho,ZV,UZ,eqGuard,binOp,heq];done)
 ·obtain⟨d,v,h3,h4,h5⟩:=zdQ (C:=C) hx hy hk (t:=t) x y;refine ZA (v:=v) (w':=w) ?_ (hr.after h4 h3)
  have W5:((eqGuard op t x y (a.eval x) (a.eval y)).run C.P w).andThen (λ_ w'=>(binOp op t (a.eval x) (a.eval y)).run C.P w')= .ok v w:=by
   rw[←Sem.run_bind];exact h5
  simp only[execOp,ho,Sem.run_bind,Sem.run_pure];rw[W5];rfl
end
end Go.D
namespace Go.D
variable [aA]
section
variable {C:Cx} {w0:World} {outer:Nat→Prop} {own:Ow} {ρ:Nat→Option RI} {st st':St} {a:Act} {w:World} {h:Nat→Option fA}
def VR.ow_inv{bad:Nat→Prop}{v:Value}{r:Nat}{ri:RI}(h:VR w ρ bad v (.ow r))(hρ:ρ r=some ri):
  (v= .slice (some (gA ri.b 0)) ri.n ri.cap∧ri.nl=false∧ri.n≤ri.cap∧ri.cap≤maxLen)∨(∃ao,v= .slice ao 0 0∧ri.nl=true∧ri.n=0):=by
 cases h with
 | ow _ ri' h1 h2 h3 h4=>rw[hρ]at h1;cases h1;exact .inl ⟨rfl,h4,h2,h3⟩
 | owN _ ri' ao h1 h2 h3=>rw[hρ]at h1;cases h1;exact .inr ⟨ao,rfl,h3,h2⟩
def VR.ov_inv{bad:Nat→Prop}{v:Value}{r off len:Nat}{t:TN}{ri:RI}(h:VR w ρ bad v (.ov r t off len))(hρ:ρ r=some ri):
  ∃ao cap,v= .slice ao len cap∧off+len≤ri.n∧(len=0∧cap=0∨ao=some (gA ri.b (off *sz t))∧ri.nl=false∧off+cap≤ri.cap)∧len≤cap∧cap≤maxLen:=by
 cases h with
 | ov _ _ _ _ cap ao ri' h1 h2 h3 h4 h5=>rw[hρ]at h1;cases h1;exact⟨ao,cap,rfl,h2,h3,h4,h5⟩
def VR.ov_row{bad:Nat→Prop}{v:Value}{r off len:Nat}{t:TN}(h:VR w ρ bad v (.ov r t off len)):∃ri,ρ r=some ri:=by
 cases h with
 | ov _ _ _ _ cap ao ri' h1 h2 h3 h4 h5=>exact⟨_,h1⟩
def VR.bp_inv{bad:Nat→Prop}{v:Value}{r off:Nat}(h:VR w ρ bad v (.bp r off)):∃ri,ρ r=some ri∧v= .pointer (some (gA ri.b off))∧ri.nl=false:=by
 cases h with
 | bp _ _ ri h1 h2=>exact⟨ri,h1,rfl,h2⟩
def VR.sl_inv{bad:Nat→Prop}{v:Value}{t:TN}{l:List (El t)}(h:VR w ρ bad v (.sl t l)):
  ∃ao cap,v= .slice ao l.length cap∧l.length≤cap∧cap≤maxLen∧(l=[]∨∃b off,ao=some (gA b off)∧¬bad b∧
   ∀i (hi:i<l.length) j,j<sz t→∃u,w.cell? (gA b (off+i *sz t+j))=some u∧VR w ρ bad u ((enc t l[i]).getD j .undef)):=by
 cases h with
 | slE _ ao cap h=>exact⟨ao,cap,rfl,Nat.zero_le _,h, .inl rfl⟩
 | slC _ _ b off cap u hb hl hc he hu hv=>exact⟨_,cap,rfl,hl,hc, .inr ⟨b,off,rfl,hb,λi hi j hj=>⟨_,hu i hi j hj,hv i hi j hj⟩⟩⟩
def VR.sl_inv2{bad:Nat→Prop}{v:Value}{t:TN}{l:List (El t)}(h:VR w ρ bad v (.sl t l)):
  ∃ao cap,v= .slice ao l.length cap∧l.length≤cap∧cap≤maxLen∧(l=[]∨∃b off,ao=some (gA b off)∧(b<aA.base∨dD w b t)∧¬bad b∧
   ∀i (hi:i<l.length) j,j<sz t→∃u,w.cell? (gA b (off+i *sz t+j))=some u∧VR w ρ bad u ((enc t l[i]).getD j .undef)):=by
 cases h with
 | slE _ ao cap h=>exact⟨ao,cap,rfl,Nat.zero_le _,h, .inl rfl⟩
 | slC _ _ b off cap u hb hl hc he hu hv=>
  by_cases h0:l=[]
  ·exact⟨_,cap,rfl,hl,hc, .inl h0⟩
  ·exact⟨_,cap,rfl,hl,hc, .inr ⟨b,off,rfl,he h0,hb,λi hi j hj=>⟨_,hu i hi j hj,hv i hi j hj⟩⟩⟩
def VR.int_inv{bad:Nat→Prop}{v:Value}{k:IntKind}{n:Int}(h:VR w ρ bad v (.int k n)):v= .int k n∧LB k n:=by
 cases h with
 | int _ _ h=>exact⟨rfl,h⟩
def VR.str_inv{bad:Nat→Prop}{v:Value}{s:List UInt8}(h:VR w ρ bad v (.str s)):v= .string ⟨s.toArray⟩∧s.length≤maxLen:=by
 cases h with
 | str _ h=>exact⟨rfl,h⟩
def FM{e:TypeId}{t:TN}(hC:EC C)(h:mE C e t=true):oC C.P e=some (sz t):=by
 unfold mE at h;split at h
 ·rename_i t' h1;have:t'=t:=by simpa using h
  subst this;obtain⟨i,z,h2,h3,_⟩:=hC.ok e t' h1;simp[oC,h2,h3]
 ·cases h
omit [aA]in
def SQ{α:Type}{l:List α}{n:Int}{x:α}(h:NA l n=some x):0≤n∧∃hk:n.toNat<l.length,l[n.toNat]=x:=by
 unfold NA at h;split at h
 ·rename_i h0;obtain⟨h1,h2⟩:=List.getElem?_eq_some_iff.1 h;exact⟨h0,h1,h2⟩
 ·cases h
omit [aA]in
def hO{t e:TypeId}{s:Nat}{b off len cap:Nat}{k:IntKind}{n:Int}(hu:C.P.underlying t=some (.slice e))(hs:oC C.P e=some s)(h0:0≤n)(h1:n<(len:Int)):
  (Instr.indexAt t (.slice (some (gA b off)) len cap) (.int k n)).run C.P w= .ok (.pointer (some (gA b (off+n.toNat *s)))) w:=by
 simp[Instr.indexAt,asIntOf,ZC hu,h0,h1,ME hs,TC]
omit [aA]in
def GO{R:Type}{f:Nat→Option R}{i:Int}{r:R}:∀(n k:Nat),TE f i k n=some r→∃j,i=((k+j:Nat):Int)∧j<n∧f (k+j)=some r
 | 0,k,h=>by simp[TE]at h
 | n+1,k,h=>by
  simp only[TE]at h;cases hb:(i==(k:Int))
  ·simp only[hb,cond_false]at h;obtain⟨j,h1,h2,h3⟩:=GO n (k+1) h;exact⟨j+1,by rw[h1];congr 1;omega,by omega,by rw[show k+(j+1)=k+1+j by omega];exact h3⟩
  ·simp only[hb,cond_true]at h;exact⟨0,by simpa using hb,by omega,by simpa using h⟩
variable {o:Oper} {i:Nat} (hr:xA C w0 outer own ρ st a w)
include hr
def zaB(hC:EC C)(t:TypeId)(x y:Operand)(ho:o.op= .indexAddr t x y)(hk:OA C i o st some=some st'):uB C.P o a w (qB C w0 outer own i ρ st'):=by
 simp only[OA,ho]at hk;have hx:=hr.opd x;have hy:=hr.opd y;split at hk
 case h_2=>cases hk
 rename_i kk n N2;rw[N2]at hy;have xX:=hy.int_inv.1;split at hk
 ·rename_i e t' l hu SV;rw[SV]at hx;cases vW:mE C e t'
  case false=>simp[vW]at hk
  simp only[vW,gB,Option.bind_eq_some_iff]at hk;obtain⟨z,hz,hk⟩:=hk;obtain⟨h0,HV,rfl⟩:=SQ hz;have JV:=FM hC vW;obtain⟨ao,cap,ZV,_,_,hl⟩:=hx.sl_inv
  rcases hl with rfl | ⟨b,off,rfl,hb,IV⟩
  ·simp at HV
  ·refine ZA (v:= .pointer (some (gA b (off+n.toNat *sz t')))) (w':=w) ?_ (hr.after ?_ hk)
   ·simp[execOp,ho,ZV,xX,hO hu JV h0 (show n<(l.length:Int) by omega)]
   ·have:=VR.fp (w:=w) (ρ:=ρ) (bad:=bA outer ρ st.h) (enc t' l[n.toNat]) 0 b (off+n.toNat *sz t') (λj=>(w.cell? (gA b (off+n.toNat *sz t'+j))).getD undef) (by rw[WA];exact wE _) hb
     (fun j hj=>by
      rw[WA]at hj;obtain⟨u,h1,_⟩:=IV _ HV j hj;rw[h1];rfl)
     (fun j hj=>by
      obtain⟨u,h1,h2⟩:=IV _ HV j (by rw[←WA t' l[n.toNat]];exact hj);rw[h1,Option.getD_some];rwa [ED _ _ _ hj]at h2)
    rwa [Nat.add_zero]at this
 ·rename_i e r hu SV;rw[SV]at hx;split at hk
  case h_2=>cases hk
  rename_i t' l m EV;cases vW:mE C e t'
  case false=>simp[vW]at hk
  simp only[vW,gB]at hk;cases hb:(decide (0≤n)&&decide (n<(l.length:Int)))
  case false=>simp[hb]at hk
  simp only[hb,cond_true]at hk;simp only[Bool.and_eq_true,decide_eq_true_eq]at hb;have JV:=FM hC vW;obtain⟨ri,hρ,PV⟩:=VE hr EV;have eY:ri.n=l.length:=PV.1
  rcases hx.ow_inv hρ with⟨ZV,OV,_,_⟩ | ⟨ao,ZV,OV,K0⟩
  ·have BV:=hO (w:=w) (cap:=ri.cap) (b:=ri.b) (off:=0) (k:=kk) hu JV hb.1 (show n<(ri.n:Int) by omega);refine ZA (v:= .pointer (some (gA ri.b (0+n.toNat *sz t')))) (w':=w) ?_ (hr.after ?_ hk)
   ·simp[execOp,ho,ZV,xX,BV]
   ·rw[Nat.zero_add];exact .ep _ _ _ 0 _ hρ OV
  ·omega
 ·rename_i e r t' off len hu SV;rw[SV]at hx;cases vW:mE C e t'
  case false=>simp[vW]at hk
  simp only[vW,gB]at hk;cases hb:(decide (0≤n)&&decide (n<(len:Int)))
  case false=>simp[hb]at hk
  simp only[hb,cond_true]at hk;simp only[Bool.and_eq_true,decide_eq_true_eq]at hb;have JV:=FM hC vW;obtain⟨ri,hρ⟩:=hx.ov_row;obtain⟨ao,cap,ZV,_,B9,_,_⟩:=hx.ov_inv hρ
  rcases B9 with⟨h0,_⟩ | ⟨rfl,OV,_⟩
  ·omega
  ·have BV:=hO (w:=w) (cap:=cap) (b:=ri.b) (off:=off *sz t') (k:=kk) hu JV hb.1 hb.2;refine ZA (v:= .pointer (some (gA ri.b (off *sz t'+n.toNat *sz t')))) (w':=w) ?_ (hr.after ?_ hk)
   ·simp[execOp,ho,ZV,xX,BV]
   ·rw[←Nat.add_mul];exact .ep _ _ _ 0 _ hρ OV
 ·rename_i m e r o1 hu SV;rw[SV]at hx;split at hk
  case h_2=>cases hk
  rename_i JV;obtain⟨j,IW,dW,hk⟩:=GO _ _ hk;rw[Nat.zero_add]at IW hk;obtain⟨ri,hρ,ZV,OV⟩:=hx.bp_inv;refine ZA (v:= .pointer (some (gA ri.b (o1+j)))) (w':=w) ?_ (hr.after (.bp _ _ _ hρ OV) hk);have h0:0≤n:=by omega
  have h1:n<(m:Int):=by omega
  have h2:n.toNat=j:=by omega
  simp[execOp,ho,ZV,xX,Instr.indexAt,asIntOf,ZC hu,Instr.sureAddr,h0,h1,ME JV,TC,h2]
 ·cases hk
def zcu(t:TypeId)(x y:Operand)(ho:o.op= .index t x y)(hk:OA C i o st some=some st'):uB C.P o a w (qB C w0 outer own i ρ st'):=by
 simp only[OA,ho]at hk;have hx:=hr.opd x;have hy:=hr.opd y;split at hk
 ·rename_i kk n s N2 hu SV;rw[SV]at hx;rw[N2]at hy;have xX:=hy.int_inv.1;obtain⟨ZV,WY⟩:=hx.str_inv;obtain⟨z,hz,hk⟩:=Option.bind_eq_some_iff.1 hk;obtain⟨h0,HV,rfl⟩:=SQ hz;refine ZA (v:= .int .u8 (s[n.toNat].toNat:Int)) (w':=w) ?_ (hr.after (.int _ _ ?_) hk)
  ·have h1:n.toNat<(⟨s.toArray⟩:ByteArray).size:=by simpa[ByteArray.size]using HV
   simp[execOp,ho,ZV,xX,Instr.index,asIntOf,ZC hu,h0,ByteArray.getElem?_lt' _ _ h1];rfl
  ·have:=s[n.toNat].toNat_lt;simp only[LB,IntKind.min,IntKind.max,IntKind.signed,IntKind.bits];simp;omega
 ·rename_i kk n m e cs N2 hu SV;rw[SV]at hx;rw[N2]at hy;have xX:=hy.int_inv.1;split at hk
  case h_2=>cases hk
  rename_i JV cW;obtain⟨j,IW,dW,hk⟩:=GO _ _ hk;rw[Nat.zero_add]at IW hk;split at hk
  case h_2=>cases hk
  rename_i c r' hd
  have HV:j<cs.length:=by
   rcases Nat.lt_or_ge j cs.length with h | h
   ·exact h
   ·rw[List.drop_eq_nil_of_le h]at hd;cases hd
  have zZ:cs[j]=c:=by
   rw[List.drop_eq_getElem_cons HV]at hd;exact(List.cons.inj hd).1
  cases ZV:a.eval x<;>rw[ZV]at hx<;>cases hx
  rename_i vs hs hv;have h3:=hv j HV;rw[zZ]at h3;have h0:0≤n:=by omega
  have h1:n<(m:Int):=by omega
  have h2:n.toNat=j:=by omega
  refine ZA (v:=vs.getD j undef) (w':=w) ?_ (hr.after h3 hk);simp[execOp,ho,ZV,xX,Instr.index,asIntOf,ZC hu,h0,h1,ME JV,h2,YG (P:=C.P) (w:=w) cW (show j<vs.size by omega)]
 ·cases hk
end
end Go.D
namespace Go.D
variable [aA]
section
variable {C:Cx} {w0:World} {outer:Nat→Prop} {own:Ow} {ρ:Nat→Option RI} {st st':St} {a:Act} {w:World} {h:Nat→Option fA}
omit [aA]in
def PI{α:Type}{xs:Array α}{l:List α}(h:xs.toList=l):xs=l.toArray:=by subst h;simp
def xO{r i:Nat}{c c':KC}{m m':aB}{ri ri':RI}(hr:h r=some ⟨c,m⟩)(hm:m.isRo=false)(hρ:ρ r=some ri)(hb:ri'.nl=false→ri'.b=ri.b∧ri.nl=false){b:Nat}
  (GV:bA outer (cA ρ i (some ri')) (cA (cA h r none) i (some ⟨c',m'⟩)) b):bA outer ρ h b:=by
 rcases GV with YV | ⟨q,row,qi,h1,h2,h3,h4,h5⟩
 ·exact .inl YV
 ·by_cases hq:q=i
  ·subst hq;rw[qA]at h3;cases h3;obtain⟨e1,e2⟩:=hb h4;exact .inr ⟨r,_,ri,hr,hm,hρ,e2,by rw[←h5,e1]⟩
  ·rw[jA _ _ _ _ hq]at h3 h1
   by_cases LV:q=r
   ·subst LV;rw[qA]at h1;cases h1
   ·rw[jA _ _ _ _ LV]at h1;exact .inr ⟨q,row,qi,h1,h2,h3,h4,h5⟩
def BA.move(hh:BA w0 outer own ρ h w){r i:Nat}{c:KC}{m:aB}{ri ri':RI}(hr:h r=some ⟨c,m⟩)(hm:m.isRo=false)(hρ:ρ r=some ri)(hn:ri.nl=false)(hi:ρ i=none)
  (hb:ri'.b=ri.b) (L7:ri'.nl=false) (w':World)
  (xW:Wx w w') (JV:w'.heap.size=w.heap.size) (hw:∀b,b≠ri.b→w'.heap[b]?=w.heap[b]?) (c':KC)
  (hc:∀bad,(∀u d,VR w ρ (bA outer ρ h) u d→VR w' (cA ρ i (some ri')) bad u d)→iC w' (cA ρ i (some ri')) bad ri' c'):
  BA w0 outer own (cA ρ i (some ri')) (cA (cA h r none) i (some ⟨c', .own⟩)) w'∧
   ∀u d,VR w ρ (bA outer ρ h) u d→VR w' (cA ρ i (some ri')) (bA outer (cA ρ i (some ri')) (cA (cA h r none) i (some ⟨c', .own⟩))) u d:=by
 have hir:i≠r:=by rintro rfl;simp[hρ]at hi
 have hρ':∀q qi,ρ q=some qi→cA ρ i (some ri') q=some qi:=λq qi hq=>by
  rw[jA];exact hq;rintro rfl;simp[hi]at hq
 have NY:bA outer ρ h ri.b:= .inr ⟨r,_,ri,hr,hm,hρ,hn,rfl⟩
 have EV:∀q row,q≠i→cA (cA h r none) i (some ⟨c', .own⟩) q=some row→q≠r∧h q=some row:=λq row aY hq=>by
  rw[jA _ _ _ _ aY]at hq
  by_cases LV:q=r
  ·subst LV;rw[qA]at hq;cases hq
  ·rw[jA _ _ _ _ LV]at hq;exact⟨LV,hq⟩
 have GV:∀b,bA outer (cA ρ i (some ri')) (cA (cA h r none) i (some ⟨c', .own⟩)) b→bA outer ρ h b:=by
  rintro b (YV | ⟨q,row,qi,h1,h2,h3,h4,h5⟩)
  ·exact .inl YV
  ·by_cases hq:q=i
   ·subst hq;rw[qA]at h3;cases h3;rw[←h5,hb];exact NY
   ·rw[jA _ _ _ _ hq]at h3;exact .inr ⟨q,row,qi,(EV q row hq h1).2,h2,h3,h4,h5⟩
 have hv:∀u d,VR w ρ (bA outer ρ h) u d→VR w' (cA ρ i (some ri')) (bA outer (cA ρ i (some ri')) (cA (cA h r none) i (some ⟨c', .own⟩))) u d:=λu d hu=>
  hu.mono hρ' (λb hb _=>hw b λe=>hb (e▸NY)) λb hb=> .inl (GV b hb)
 obtain⟨ri2,h6,_,h7⟩:=hh.rows r _ hr;rw[hρ]at h6;cases h6;refine⟨⟨hh.wx.trans xW,λb YV ho=>?_,hh.outLt,?_,?_,?_⟩,hv⟩
 rotate_right
 ·refine hh.dep.keep (λq t l m' qi h1 YW h2 h3=>?_) (λb hb _=>hw b λe=>hb (e▸NY)) (λb hb=> .inl (GV b hb)) λ_ h=>h
  by_cases hq:q=i
  ·subst hq;rw[qA]at h1;cases h1;cases YW
  ·obtain⟨LV,h4⟩:=EV q _ hq h1;rw[jA _ _ _ _ hq]at h2;exact⟨q,m',h4,YW,h2,hw _ λe=>LV (hh.inj q r _ _ qi ri h4 hr h2 hρ h3 hn e)⟩
 ·refine(hw b ?_).trans (hh.old b YV ho);rintro rfl
  rcases(h7 hn).1.2 hm with h8 | h8
  ·omega
  ·exact ho h8
 ·intro q row hq
  by_cases aY:q=i
  ·subst aY;rw[qA]at hq;cases hq;exact⟨ri',qA _ _ _,hc _ hv,λ_=>by rw[hb,JV];exact⟨⟨(h7 hn).1.1,λ_=>(h7 hn).1.2 hm⟩,(h7 hn).2⟩⟩
  ·obtain⟨LV,hq⟩:=EV q row aY hq;obtain⟨qi,h1,h2,h3⟩:=hh.rows q row hq;refine⟨qi,hρ' q qi h1,h2.keep (λE0=>hw _ ?_) hv,λE0=>by rw[JV];exact h3 E0⟩;intro e;exact LV (hh.inj q r row _ qi ri hq hr h1 hρ E0 hn e)
 ·intro q q' row row' qi qi' h1 h2 h3 h4 h5 h6 h7
  by_cases hq:q=i<;>by_cases ZW:q'=i
  ·rw[hq,ZW]
  ·subst hq;rw[qA]at h3;cases h3;obtain⟨LV,h2⟩:=EV q' row' ZW h2;rw[jA _ _ _ _ ZW]at h4;exact absurd (hh.inj q' r row' _ qi' ri h2 hr h4 hρ h6 hn (by rw[←h7,hb])) LV
  ·subst ZW;rw[qA]at h4;cases h4;obtain⟨LV,h1⟩:=EV q row hq h1;rw[jA _ _ _ _ hq]at h3;exact absurd (hh.inj q r row _ qi ri h1 hr h3 hρ h5 hn (by rw[h7,hb])) LV
  ·obtain⟨_,h1⟩:=EV q row hq h1;obtain⟨_,h2⟩:=EV q' row' ZW h2;rw[jA _ _ _ _ hq]at h3;rw[jA _ _ _ _ ZW]at h4;exact hh.inj q q' row row' qi qi' h1 h2 h3 h4 h5 h6 h7
variable {o:Oper} {i:Nat} (hr:xA C w0 outer own ρ st a w)
omit [aA]in
def zbX{n:Nat}(h:n≤maxLen):LB .i64 (n:Int):=by
 unfold maxLen at h;simp only[LB,IntKind.min,IntKind.max,IntKind.signed,IntKind.bits];simp;omega
include hr
def BR{d:V}{v:Value}{n:Nat}(hv:VR w ρ (bA outer ρ st.h) v d)(hn:xG st.h d=some n):
  n≤maxLen∧((∃ao cap,v= .slice ao n cap∧n≤cap)∨∃s,d= .str s∧v= .string ⟨s.toArray⟩∧n=s.length):=by
 unfold xG at hn;split at hn
 ·cases hn;obtain⟨ao,cap,h1,h2,h3,_⟩:=hv.sl_inv;exact⟨Nat.le_trans h2 h3, .inl ⟨ao,cap,h1,h2⟩⟩
 ·cases hn;cases hv;exact⟨Nat.zero_le _, .inl ⟨none,0,rfl,Nat.le_refl _⟩⟩
 ·cases hn;obtain⟨h1,h2⟩:=hv.str_inv;exact⟨h2, .inr ⟨_,rfl,h1,rfl⟩⟩
 ·split at hn
  case h_2=>cases hn
  rename_i t l m EV;cases hn;obtain⟨ri,hρ,PV⟩:=VE hr EV;have eY:ri.n=l.length:=PV.1
  rcases hv.ow_inv hρ with⟨h1,h2,h3,h4⟩ | ⟨ao,h1,h2,h3⟩
  ·rw[←eY];exact⟨Nat.le_trans h3 h4, .inl ⟨_,_,h1,h3⟩⟩
  ·rw[←eY,h3];exact⟨Nat.zero_le _, .inl ⟨_,_,h1,Nat.le_refl _⟩⟩
 ·cases hn;obtain⟨ri,hρ⟩:=hv.ov_row;obtain⟨ao,cap,h1,_,_,h2,h3⟩:=hv.ov_inv hρ;exact⟨Nat.le_trans h2 h3, .inl ⟨ao,cap,h1,h2⟩⟩
 ·cases hn
def zd3(args:Array Operand)(argTypes:Array TypeId)(ho:o.op= .call {callee:= .builtin .len,args,argTypes})(hk:OA C i o st some=some st'):uB C.P o a w (qB C w0 outer own i ρ st'):=by
 simp only[OA,ho]at hk;split at hk
 case h_2=>cases hk
 rename_i x t bW M0;split at hk
 case h_2=>cases hk
 rename_i d n hu FV;cases LW:DM d (opd st.s x)
 case false=>simp[LW]at hk
 simp only[LW,gB]at hk;obtain⟨AY,hl⟩:=BR hr (hr.opd x) FV;have e1:=PI bW;have e2:=PI M0;subst e1 e2;refine ZA (v:= .int .i64 (n:Int)) (w':=w) ?_ (hr.after (.int _ _ (zbX AY)) hk)
 rcases hl with⟨ao,cap,h1,_⟩ | ⟨s,h0,h1,h2⟩
 ·have hd:∃e,d= .slice e:=by
   unfold DM at LW;split at LW<;>first | exact⟨_,rfl⟩ | skip
   ·rename_i s SV;have:=hr.opd x;rw[SV]at this;rw[this.str_inv.1]at h1;cases h1
   ·cases LW
  obtain⟨e,rfl⟩:=hd;simp[execOp,ho,resolve,invoke,builtin,Builtin.len_,ZC hu,h1,goInt]
 ·have hd:d= .string:=by
   rw[h0]at LW;unfold DM at LW;split at LW<;>first | rfl | (rename_i hh;cases hh) | cases LW
  subst hd;have yX:(⟨s.toArray⟩:ByteArray).size=s.length:=by simp[ByteArray.size]
  simp[execOp,ho,resolve,invoke,builtin,Builtin.len_,ZC hu,h1,h2,yX,goInt]
def zee(args:Array Operand)(argTypes:Array TypeId)(ho:o.op= .call {callee:= .builtin .min,args,argTypes})(hk:OA C i o st some=some st'):uB C.P o a w (qB C w0 outer own i ρ st'):=by
 simp only[OA,ho]at hk;split at hk
 case h_2=>cases hk
 rename_i k p k' q bW
 by_cases oX:k=k'
 case neg=>simp[oX]at hk
 subst oX;simp only[decide_true,cond_true]at hk;obtain⟨x,xs,Q1,h1,h2⟩:=List.map_eq_cons_iff.1 bW;obtain⟨y,ys,G4,h3,h4⟩:=List.map_eq_cons_iff.1 h2;have h5:=List.map_eq_nil_iff.1 h4;subst h5 G4;have e1:=PI Q1;subst e1;have hx:=hr.opd x;rw[h1]at hx;have hy:=hr.opd y;rw[h3]at hy;refine ZA (v:= .int k (if q<p then q else p)) (w':=w) ?_ (hr.after (.int _ _ (by split;exact hy.int_inv.2;exact hx.int_inv.2)) hk);simp[execOp,ho,resolve,invoke,builtin,Builtin.min_,hx.int_inv.1,hy.int_inv.1,Builtin.min2]
def zem(args:Array Operand)(argTypes:Array TypeId)(ho:o.op= .call {callee:= .builtin .max,args,argTypes})(hk:OA C i o st some=some st'):uB C.P o a w (qB C w0 outer own i ρ st'):=by
 simp only[OA,ho]at hk;split at hk
 case h_2=>cases hk
 rename_i k p k' q bW
 by_cases oX:k=k'
 case neg=>simp[oX]at hk
 subst oX;simp only[decide_true,cond_true]at hk;obtain⟨x,xs,Q1,h1,h2⟩:=List.map_eq_cons_iff.1 bW;obtain⟨y,ys,G4,h3,h4⟩:=List.map_eq_cons_iff.1 h2;have h5:=List.map_eq_nil_iff.1 h4;subst h5 G4;have e1:=PI Q1;subst e1;have hx:=hr.opd x;rw[h1]at hx;have hy:=hr.opd y;rw[h3]at hy;refine ZA (v:= .int k (if q>p then q else p)) (w':=w) ?_ (hr.after (.int _ _ (by split;exact hy.int_inv.2;exact hx.int_inv.2)) hk);simp[execOp,ho,resolve,invoke,builtin,Builtin.max_,hx.int_inv.1,hy.int_inv.1,Builtin.max2]
end
end Go.D
namespace Go.D
variable [aA]
section
variable {C:Cx} {w0:World} {outer:Nat→Prop} {own:Ow} {ρ:Nat→Option RI} {st st':St} {a:Act} {w:World} {h:Nat→Option fA}
def ZG(w:World)(ρ:Nat→Option RI)(bad:Nat→Prop)(t:TN)(l:List (El t))(cs:List Value):Prop:=
 cs.length=l.length *sz t∧∀i (hi:i<l.length) j,j<sz t→∃u,cs[i *sz t+j]?=some u∧VR w ρ bad u ((enc t l[i]).getD j .undef)
omit [aA]in
def DQ{n k m:Nat}(hm:0<m)(h:k<n *m):k / m<n∧k % m<m∧k / m *m+k % m=k:=
 ⟨(Nat.div_lt_iff_lt_mul hm).2 h,Nat.mod_lt _ hm,by rw[Nat.mul_comm];exact Nat.div_add_mod k m⟩
def ZG.one{bad:Nat→Prop}{t:TN}{l:List (El t)}{cs:List Value}(h:ZG w ρ bad t l cs):∀u∈cs,u.oneCell'=true:=by
 intro u hu;obtain⟨k,hk,rfl⟩:=List.mem_iff_getElem.1 hu;obtain⟨h1,h2,h3⟩:=DQ (wE t) (by rw[←h.1];exact hk);obtain⟨u,h4,h5⟩:=h.2 _ h1 _ h2;rw[h3,List.getElem?_eq_getElem hk]at h4;cases h4;exact h5.one (aQ _ _ _ h2)
def JE(w:World)(b off n:Nat):List Value:=(List.range n).map λk=>(w.cell? (gA b (off+k))).getD undef
omit [aA]in
def bL(w:World)(b off n:Nat):(JE w b off n).length=n:=by simp[JE]
omit [aA]in
def cQ(w:World)(b off n k:Nat)(hk:k<n):(JE w b off n)[k]?=some ((w.cell? (gA b (off+k))).getD undef):=by
 simp[JE,hk]
def LQ{bad:Nat→Prop}{t:TN}{l:List (El t)}{b off:Nat}
  (hv:∀i (hi:i<l.length) j,j<sz t→∃u,w.cell? (gA b (off+i *sz t+j))=some u∧VR w ρ bad u ((enc t l[i]).getD j .undef)):
  ZG w ρ bad t l (JE w b off (l.length *sz t))∧∀j u,(JE w b off (l.length *sz t))[j]?=some u→w.cell? ((gA b off).add j)=some u:=by
 refine⟨⟨bL _ _ _ _,λi hi j hj=>?_⟩,λk u hk=>?_⟩
 ·obtain⟨u,h1,h2⟩:=hv i hi j hj
  have HV:i *sz t+j<l.length *sz t:=by
   have:(i+1) *sz t≤l.length *sz t:=Nat.mul_le_mul_right _ hi;rw[Nat.add_mul,Nat.one_mul]at this;omega
  refine⟨u,?_,h2⟩;rw[cQ _ _ _ _ _ HV, ←Nat.add_assoc,h1];rfl
 ·have HV:k<l.length *sz t:=by
   rcases Nat.lt_or_ge k (l.length *sz t)with h | h
   ·exact h
   ·rw[List.getElem?_eq_none (by rw[bL];exact h)]at hk;cases hk
  obtain⟨h1,h2,h3⟩:=DQ (wE t) HV;obtain⟨u',h4,_⟩:=hv _ h1 _ h2;rw[Nat.add_assoc,h3]at h4;rw[cQ _ _ _ _ _ HV,h4]at hk;rw[TC,h4];exact hk
omit [aA]in
def bQ{α:Type}(l:List α)(off len i:Nat)(h:off+len≤l.length)(hi:i<((l.drop off).take len).length):((l.drop off).take len)[i]=l[off+i]'(by simp at hi;omega):=by simp
variable {o:Oper} {i:Nat} (hr:xA C w0 outer own ρ st a w)
include hr
def NR{tn:TN}{v:Value}{d:V}{m:List (El tn)}(hv:VR w ρ (bA outer ρ st.h) v d)(hm:iJ st.h tn d=some m):
  ∃ao cap,v= .slice ao m.length cap∧(m=[]∨∃b off,ao=some (gA b off)∧
   ∀i (hi:i<m.length) j,j<sz tn→∃u,w.cell? (gA b (off+i *sz tn+j))=some u∧VR w ρ (bA outer ρ st.h) u ((enc tn m[i]).getD j .undef)):=by
 have mk:∀(ao:Option Addr) (cap:Nat),v= .slice ao m.length cap→(m=[]∨∃b off,ao=some (gA b off)∧
   ∀i (hi:i<m.length) j,j<sz tn→∃u,w.cell? (gA b (off+i *sz tn+j))=some u∧VR w ρ (bA outer ρ st.h) u ((enc tn m[i]).getD j .undef))→
   ∃ao cap,v= .slice ao m.length cap∧(m=[]∨∃b off,ao=some (gA b off)∧
   ∀i (hi:i<m.length) j,j<sz tn→∃u,w.cell? (gA b (off+i *sz tn+j))=some u∧VR w ρ (bA outer ρ st.h) u ((enc tn m[i]).getD j .undef)):=λao cap h1 h2=>⟨ao,cap,h1,h2⟩
 unfold iJ at hm;split at hm
 ·rename_i t' l;split at hm
  case isFalse=>cases hm
  rename_i e1;subst e1;simp only[LE,Option.some.injEq]at hm;subst hm;obtain⟨ao,cap,h1,_,_,h4⟩:=hv.sl_inv;refine mk ao cap h1 ?_
  rcases h4 with h4 | ⟨b,off,h5,_,h6⟩
  ·exact .inl h4
  ·exact .inr ⟨b,off,h5,h6⟩
 ·cases hm;cases hv;exact mk none 0 rfl (.inl rfl)
 ·rename_i r;split at hm
  case h_2=>cases hm
  rename_i t' l mo EV;split at hm
  case isFalse=>cases hm
  rename_i e1;subst e1;simp only[LE,Option.some.injEq]at hm;subst hm;obtain⟨ri,hρ,PV⟩:=VE hr EV;have eY:ri.n=l.length:=PV.1
  rcases hv.ow_inv hρ with⟨h1,h2,h3,h4⟩ | ⟨ao,h1,h2,h3⟩
  ·refine mk _ ri.cap (by rw[←eY];exact h1) ?_
   rcases PV.2 with h5 | ⟨_,_,_,_,_,h6⟩
   ·exact .inl h5.2
   ·exact .inr ⟨ri.b,0,rfl,λi hi j hj=>by rw[Nat.zero_add];exact h6 i hi j hj⟩
  ·have:l=[]:=List.eq_nil_of_length_eq_zero (by omega);exact mk ao 0 (by rw[this];exact h1) (.inl this)
 ·rename_i r t0 off len;split at hm
  case h_2=>cases hm
  rename_i t' l mo EV
  by_cases XY:t0=tn
  case neg=>simp[XY]at hm
  subst XY;simp only[decide_true,cond_true]at hm;split at hm
  case isFalse=>cases hm
  rename_i e1;subst e1;simp only[LE,Option.some.injEq]at hm;subst hm;obtain⟨ri,hρ,PV⟩:=VE hr EV;have eY:ri.n=l.length:=PV.1;obtain⟨ao,cap,h1,h2,h3,h4,h5⟩:=hv.ov_inv hρ;have FV:((l.drop off).take len).length=len:=by simp;omega
  refine mk ao cap (by rw[FV];exact h1) ?_
  rcases h3 with⟨rfl,_⟩ | ⟨rfl,OV,_⟩
  ·exact .inl (by simp)
  ·rcases PV.2 with h5 | ⟨_,_,_,_,_,h6⟩
   ·rw[OV]at h5;cases h5.1
   ·refine .inr ⟨ri.b,_,rfl,λi hi j hj=>?_⟩;rw[bQ l off len i (by omega) hi, ←Nat.add_mul];exact h6 (off+i) (by omega) j hj
 ·cases hm
def zbU{P:Program}{t e:TypeId}{tn:TN}{v:Value}{d:V}{m:List (El tn)}(hu:P.underlying t=some (.slice e))(hv:VR w ρ (bA outer ρ st.h) v d)(hm:iJ st.h tn d=some m):
  ∃news,Src P (sz tn) t v m.length news w∧ZG w ρ (bA outer ρ st.h) tn m news∧
   (m=[]∨∃b off cap,v= .slice (some (gA b off)) m.length cap∧∀k,k<m.length *sz tn→news[k]?=w.cell? (gA b (off+k))):=by
 obtain⟨ao,cap,rfl,h⟩:=NR hr hv hm
 rcases h with rfl | ⟨b,off,rfl,hc⟩
 ·refine⟨[],?_,⟨by simp,λi hi=>by simp at hi⟩, .inl rfl⟩;cases ao with
  | none=>exact Src.ofNil w hu cap
  | some ad=>exact Src.ofSlice w hu ad 0 cap [] (by simp) (λj u h=>by simp at h) (λu h=>by simp at h)
 ·obtain⟨h1,h2⟩:=LQ hc;refine⟨_,Src.ofSlice w hu (gA b off) m.length cap _ h1.1 h2 h1.one,h1, .inr ⟨b,off,cap,rfl,λk hk=>?_⟩⟩;have QX:k<(JE w b off (m.length *sz tn)).length:=by rw[bL];exact hk
  have:=h2 k _ (List.getElem?_eq_getElem QX);rw[TC]at this;rw[this,List.getElem?_eq_getElem QX]
omit hr in
theorem eQ{bad bad':Nat→Prop}{w':World}{ρ':Nat→Option RI}{t:TN}{l m:List (El t)}{olds news:List Value}(h1:ZG w ρ bad t l olds)(h2:ZG w ρ bad t m news)
  (hk:∀u d,VR w ρ bad u d→VR w' ρ' bad' u d) {b:Nat}
  (hc:∀j u,(olds++news)[j]?=some u→w'.cell? (gA b j)=some u):∀i (hi:i<(l++m).length) j,j<sz t→∃u,w'.cell? (gA b (i *sz t+j))=some u∧VR w' ρ' bad' u ((enc t (l++m)[i]).getD j .undef):=by
 intro i hi j hj
 by_cases O2:i<l.length
 ·obtain⟨u,h3,h4⟩:=h1.2 i O2 j hj
  have HV:i *sz t+j<olds.length:=by
   rw[h1.1];have:(i+1) *sz t≤l.length *sz t:=Nat.mul_le_mul_right _ O2;rw[Nat.add_mul,Nat.one_mul]at this;omega
  refine⟨u,hc _ _ (by rw[List.getElem?_append_left HV];exact h3),?_⟩;rw[List.getElem_append_left O2];exact hk _ _ h4
 ·have C9:i - l.length<m.length:=by simp at hi;omega
  obtain⟨u,h3,h4⟩:=h2.2 (i - l.length) C9 j hj
  have nX:olds.length≤i *sz t+j:=by
   rw[h1.1];have:l.length *sz t≤i *sz t:=Nat.mul_le_mul_right _ (by omega);omega
  refine⟨u,hc _ _ ?_,?_⟩
  ·rw[List.getElem?_append_right nX,h1.1]
   have:i *sz t+j - l.length *sz t=(i - l.length) *sz t+j:=by
    have h5:l.length *sz t≤i *sz t:=Nat.mul_le_mul_right _ (by omega);rw[Nat.sub_mul];omega
   rw[this];exact h3
  ·rw[List.getElem_append_right (by omega)];exact hk _ _ h4
omit hr in
omit [aA]in
def qP{h:Nat→Option fA}{x y:V}(ha:FE h x y=true):∃r2 c,y= .ow r2∧h r2=some ⟨c, .tre⟩∧(x= .nil∨∃r c',x= .ow r∧h r=some ⟨c', .tre⟩∧r≠r2):=by
 unfold FE at ha;split at ha
 case h_2=>cases ha
 rename_i r2;split at ha
 case h_2=>cases ha
 rename_i c hc;refine⟨r2,c,rfl,hc,?_⟩;split at ha
 ·exact .inl rfl
 ·rename_i r;split at ha
  case h_2=>cases ha
  rename_i c' lX;refine .inr ⟨r,c',rfl,lX,λe=>?_⟩;subst e;simp at ha
 ·cases ha
def zbk(hC:EC C)(args:Array Operand)(argTypes:Array TypeId)(ho:o.op= .call {callee:= .builtin .append,args,argTypes})(hi:ρ i=none)(hk:OA C i o st some=some st'):
  uB C.P o a w (qB C w0 outer own i ρ st'):=by
 simp only[OA,ho]at hk;split at hk
 case h_2=>cases hk
 rename_i x y t t' bW M0;cases I4:Nat.beq t t'
 case false=>simp[I4]at hk
 have I4:=Nat.eq_of_beq_eq_true I4;subst I4;simp only[Nat.beq_refl,gB]at hk;split at hk
 ·cases hk
 rename_i tn vW;obtain⟨e,he,VZ⟩:=Option.bind_eq_some_iff.1 vW
 have hu:C.P.underlying t=some (.slice e):=by
  unfold jH at he;split at he
  ·rename_i h1;cases he;exact h1
  ·cases he
 obtain⟨info,z,SW,EW,R1,GZ,WZ⟩:=hC.ok e tn VZ;split at hk
 case h_2=>cases hk
 rename_i l ro m XV QW;cases nW:decide (l.length+m.length≤nA)
 case false=>simp[nW]at hk
 simp only[nW,cond_true]at hk;have nW:l.length+m.length≤nA:=of_decide_eq_true nW;obtain⟨news,X5,UW,O0⟩:=zbU hr hu (hr.opd y) QW;have YY:Src C.P info.size t (a.eval y) m.length news w:=by rw[EW];exact X5
 have e1:=PI bW;have e2:=PI M0;subst e1 e2
 have NV:∀v w',(Builtin.append_ #[t,t] o.type #[a.eval x,a.eval y]).run C.P w= .ok v w'→(execOp a.eval o).run C.P w= .ok (.value v) w':=λv w' h1=>by
  simp[execOp,ho,resolve,invoke,builtin,h1]
 have Y5:nA *1024≤140737488355328:=by unfold nA;decide
 have P0:(l.length+m.length) *info.bytes≤140737488355328:=Nat.le_trans (Nat.mul_le_mul nW R1) Y5;have M7:nA≤9223372036854775807:=by unfold nA;decide
 let EvX:Option Nat→List Value→Nat→Prop:=λro olds B=>B=w.heap.size∧(l=[]∨∃r ri,ro=some r∧ρ r=some ri∧ri.nl=false∧∀k,k<l.length *sz tn→olds[k]?=w.cell? (gA ri.b k))∨
  ∃r ri,ro=some r∧ρ r=some ri∧ri.nl=false∧ri.b=B∧∀k,k<l.length *sz tn→olds[k]?=w.cell? (gA ri.b k)
 let Ev:aB→(Nat→Option fA)→Prop:=λmd h'=>md= .own∨md= .tre∧∀(B:Nat) (olds:List Value) (W:World) (ri':RI),ri'.b=B→olds.length=l.length *sz tn→EvX ro olds B→(∀c,c≠B→c<w.heap.size→W.heap[c]?=w.heap[c]?)→
  (∀(j:Nat) (u:Value),(olds++news)[j]?=some u→W.cell? (gA B j)=some u)→(∀b,bA outer (cA ρ i (some ri')) (cA h' i (some ⟨.arr tn (l++m), .tre⟩)) b→bA outer ρ st.h b∨w.heap.size≤b)→
  lB W (bA outer (cA ρ i (some ri')) (cA h' i (some ⟨.arr tn (l++m), .tre⟩))) (GC w0 own) (cA ρ i (some ri')) (cA h' i (some ⟨.arr tn (l++m), .tre⟩))
 have lessBad:∀(h':Nat→Option fA),(∀r row',h' r=some row'→∃row,st.h r=some row∧row.c=row'.c∧(row'.m.isRo=false→row.m.isRo=false)∧(row'.m.isTre=true→row.m.isTre=true))→∀b,bA outer ρ h' b→bA outer ρ st.h b:=λh' hl b hb=>
  hb.mono λq row' h1 h2=>by obtain⟨row,e1,_,e2,_⟩:=hl q row' h1;exact⟨row,e1,e2 h2⟩
 -- a new row
 have grown:∀(ao:Option Addr) (cap:Nat) (olds:List Value) (h':Nat→Option fA) (md:aB),Ev md h'→EvX ro olds w.heap.size→a.eval x= .slice ao l.length cap→cap<l.length+m.length→ZG w ρ (bA outer ρ st.h) tn l olds→
   (Builtin.firstCells info.size l.length (.slice ao l.length cap)).run C.P w.drew= .ok olds.toArray w.drew→
   (∀r row',h' r=some row'→∃row,st.h r=some row∧row.c=row'.c∧(row'.m.isRo=false→row.m.isRo=false)∧(row'.m.isTre=true→row.m.isTre=true))→
   VC C o.dst {st with h:=h'} i (.arr tn (l++m)) (.ow i) some md=some st'→uB C.P o a w (qB C w0 outer own i ρ st'):=by
  intro ao cap olds h' md HX Z5 hx EX holds Q0 KV eW
  have BV:=run_append_grow_src (P:=C.P) w t t o.type e info z hu SW GZ ao l.length cap olds Q0 (a.eval y) m.length news YY (by omega)
   (by have:((l.length+m.length:Nat):Int)≤(nA:Nat):=by omega
       omega) (growslice_fits (by omega) P0)
  rw[←hx]at BV;have nX:=grownCap_ge w (l.length+m.length) cap e;have PZ:grownCap w (l.length+m.length) cap e≤maxLen:=grownCap_le_maxLen w (l.length+m.length) cap e (by unfold maxLen;omega);obtain⟨EZ,PY⟩:=hr.heap.less KV;have GW:xA C w0 outer own ρ {st with h:=h'} a w:=hr.turn EZ PY
  refine ZA (NV _ _ BV) (GW.newRowM hi ⟨w.heap.size,l.length+m.length,grownCap w (l.length+m.length) cap e,false⟩ (λ_=>rfl) _ (Wx.trans (HS w) (fJ _ _))
   (λb hb=>GF w.drew _ b hb) (λ_=>by simp) md (λbad rX=>?_) (λbad=>?_) ?_ eW)
  ·generalize UV:((olds++news).toArray++Builtin.zeroCells z.cells (grownCap w (l.length+m.length) cap e - (l.length+m.length)))=cells at rX⊢
   have P2:cells.size=grownCap w (l.length+m.length) cap e *sz tn:=by
    rw[←UV,Array.size_append,size_zeroCells,WZ];have h5:(olds++news).toArray.size=(l.length+m.length) *sz tn:=by simp[holds.1,UW.1,Nat.add_mul]
    rw[h5, ←Nat.add_mul];congr 1;omega
   refine⟨by simp, .inr ⟨rfl,tO (w:=w.drew) (hC.tys e tn VZ),nX,PZ,λj hj=>⟨World.frozen?_alloc_new _ _ _ _,?_⟩,?_⟩⟩
   ·have:=oF w.drew cells e j (by rw[P2];exact hj);rw[World.size_drew]at this;rw[this];rfl
   ·refine eQ (ρ':=cA ρ i _) (bad':=bad) ⟨holds.1,λi hi j hj=>?_⟩ ⟨UW.1,λi hi j hj=>?_⟩ rX λj u hj=>?_
    ·obtain⟨u,h6,h7⟩:=holds.2 i hi j hj;exact⟨u,h6,PY _ _ h7⟩
    ·obtain⟨u,h6,h7⟩:=UW.2 i hi j hj;exact⟨u,h6,PY _ _ h7⟩
    ·have HV:j<(olds++news).length:=by
      rcases Nat.lt_or_ge j (olds++news).length with h | h
      ·exact h
      ·rw[List.getElem?_eq_none h]at hj;cases hj
     have XW:j<cells.size:=by
      rw[←UV,Array.size_append];simp at HV⊢;omega
     have:=oF w.drew cells e j XW;rw[World.size_drew]at this;rw[this,Array.getD_eq_getD_getElem?,Array.getElem?_eq_getElem XW,Option.getD_some, ←hj,List.getElem?_eq_getElem HV];congr 1;subst UV;rw[Array.getElem_append_left (by simpa using HV)];simp
  ·exact .ow i ⟨w.heap.size,l.length+m.length,grownCap w (l.length+m.length) cap e,false⟩ (qA _ _ _) nX PZ rfl
  ·rcases HX with h | ⟨h,HX⟩
   ·exact .inl h
   refine .inr ⟨h,λGV=>HX w.heap.size olds _ _ rfl holds.1 Z5 (λc _ hc=>GF w.drew _ c hc) (λj u hj=>?_) λb hb=>(GV b hb).imp (lessBad h' KV b) id⟩
   have HV:j<(olds++news).length:=by
    rcases Nat.lt_or_ge j (olds++news).length with h | h
    ·exact h
    ·rw[List.getElem?_eq_none h]at hj;cases hj
   have XW:j<((olds++news).toArray++Builtin.zeroCells z.cells (grownCap w (l.length+m.length) cap e - (l.length+m.length))).size:=by
    rw[Array.size_append];simp at HV⊢;omega
   have:=oF w.drew _ e j XW;rw[World.size_drew]at this;rw[this,Array.getD_eq_getD_getElem?,Array.getElem?_eq_getElem XW,Option.getD_some, ←hj,List.getElem?_eq_getElem HV];congr 1;rw[Array.getElem_append_left (by simpa using HV)];simp
 -- nothing there,nothing appended,or a new row
 have empty:∀(ao:Option Addr) (h':Nat→Option fA) (md:aB),Ev md h'→l=[]→a.eval x= .slice ao 0 0→
   (∀r row',h' r=some row'→∃row,st.h r=some row∧row.c=row'.c∧(row'.m.isRo=false→row.m.isRo=false)∧(row'.m.isTre=true→row.m.isTre=true))→
   VC C o.dst {st with h:=h'} i (.arr tn (l++m)) (.ow i) some md=some st'→uB C.P o a w (qB C w0 outer own i ρ st'):=by
  intro ao h' md HX hl hx KV eW;subst hl
  by_cases hm:m=[]
  ·subst hm;obtain⟨EZ,PY⟩:=hr.heap.less KV;have GW:xA C w0 outer own ρ {st with h:=h'} a w:=hr.turn EZ PY;have K0:news=[]:=List.eq_nil_of_length_eq_zero (by rw[UW.1];simp);subst K0;have BV:=run_append_nothing w t t o.type e info hu SW ao 0 0 (Nat.le_refl _) (a.eval y) YY;rw[←hx]at BV;refine ZA (NV _ _ BV) (GW.newRowM hi ⟨0,0,0,true⟩ (λh=>by cases h) w (Wx.refl _) (λb hb=>rfl) (λh=>by cases h) (c:= .arr tn ([]++[])) md (λbad rX=>⟨rfl, .inl ⟨rfl,rfl⟩⟩) (λbad=>?_) (HX.imp id λh=>⟨h.1,λGV=>?_⟩) eW)
   ·rw[hx];exact .owN i ⟨0,0,0,true⟩ ao (qA _ _ _) rfl rfl
   ·refine EZ.dep.keep (λq t1 l1 m1 qi e1 em e2 e3=>?_) (λ_ _ _=>rfl) GV λ_ h=>h
    by_cases hq:q=i
    ·subst hq;rw[qA]at e2;cases e2;cases e3
    ·rw[jA _ _ _ _ hq]at e1 e2;exact⟨q,m1,e1,em,e2,rfl⟩
  ·have F2:0<m.length:=List.length_pos_iff.2 hm;refine grown ao 0 [] h' md HX (.inl ⟨rfl, .inl rfl⟩) hx (by simpa using F2) ⟨by simp,λi hi=>by simp at hi⟩ ?_ KV eW;cases ao with
   | none=>exact run_firstCells_none w.drew info.size 0 0 0
   | some ad=>exact run_firstCells_some w.drew info.size 0 ad 0 0 [] (by simp) (λj v h=>by simp at h)
 have killLess:∀(r:Option Nat) (q:Nat) (row':fA),nD st.h r q=some row'→∃row,st.h q=some row∧row.c=row'.c∧(row'.m.isRo=false→row.m.isRo=false)∧(row'.m.isTre=true→row.m.isTre=true):=by
  intro r q row' h1;cases r with
  | none=>exact⟨row',h1,rfl,id,id⟩
  | some r=>
   simp only[nD]at h1
   by_cases hq:q=r
   ·subst hq;rw[qA]at h1;cases h1
   ·rw[jA _ _ _ _ hq]at h1;exact⟨row',h1,rfl,id,id⟩
 -- a row of the call's own,or the beginning of one
 have full:∀(r:Nat) (l0:List (El tn)) (m0:aB) (ri:RI) (cap:Nat),st.h r=some ⟨.arr tn l0,m0⟩→m0.isRo=false→ρ r=some ri→ri.nl=false→l=l0.take l.length→l.length≤cap→cap≤ri.cap→
   a.eval x= .slice (some (gA ri.b 0)) l.length cap→∀(h':Nat→Option fA) (md:aB),ro=some r→Ev md h'→(∀q row',h' q=some row'→∃row,nD st.h (some r) q=some row∧row.c=row'.c∧(row'.m.isRo=false→row.m.isRo=false)∧(row'.m.isTre=true→row.m.isTre=true))→
   VC C o.dst {st with h:=h'} i (.arr tn (l++m)) (.ow i) some md=some st'→uB C.P o a w (qB C w0 outer own i ρ st'):=by
  intro r l0 m0 ri cap EV sZ hρ OV hl XZ i6 hx h' md Q2 HX KV eW;have D9:l.length≤l0.length:=by rw[hl];simp;omega
  obtain⟨_,hρ2,PV,_⟩:=hr.heap.rows r _ EV;rw[hρ]at hρ2;cases hρ2
  rcases PV.2 with h5 | ⟨_,ce,c1,c2,c3,c4⟩
  ·rw[OV]at h5;cases h5.1
  have holds:=LQ (w:=w) (ρ:=ρ) (bad:=bA outer ρ st.h) (t:=tn) (l:=l) (b:=ri.b) (off:=0) (λi hi j hj=>by
   obtain⟨u,h6,h7⟩:=c4 i (by omega) j hj;refine⟨u,by rw[Nat.zero_add];exact h6,?_⟩
   have:l[i]=l0[i]'(by omega):=by
    have h8:l[i]?=(l0.take l.length)[i]?:=by rw[←hl]
    rw[List.getElem?_eq_getElem hi,List.getElem?_take,if_pos hi,List.getElem?_eq_getElem (by omega)]at h8;exact Option.some.inj h8
   rw[this];exact h7)
  have YZ:∀k,k<l.length *sz tn→(JE w ri.b 0 (l.length *sz tn))[k]?=w.cell? (gA ri.b k):=λk hk=>by
   have QX:k<(JE w ri.b 0 (l.length *sz tn)).length:=by rw[bL];exact hk
   have:=holds.2 k _ (List.getElem?_eq_getElem QX);rw[TC,Nat.zero_add]at this;rw[this,List.getElem?_eq_getElem QX]
  have S0:∀q row',h' q=some row'→∃row,st.h q=some row∧row.c=row'.c∧(row'.m.isRo=false→row.m.isRo=false)∧(row'.m.isTre=true→row.m.isTre=true):=λq row' hq=>by
   obtain⟨row,e1,e2,e3,e4⟩:=KV q row' hq;obtain⟨row2,f1,f2,f3,f4⟩:=killLess (some r) q row e1;exact⟨row2,f1,f2.trans e2,λh=>f3 (e3 h),λh=>f4 (e4 h)⟩
  by_cases tY:l.length+m.length≤cap
  ·have hcz:cap *sz tn≤ri.cap *sz tn:=Nat.mul_le_mul_right _ i6;have E9:(l.length+m.length) *sz tn≤cap *sz tn:=Nat.mul_le_mul_right _ tY;rw[Nat.add_mul]at E9
   have gW:∀j,j<news.length→(w.cell? ⟨ri.b,0+l.length *info.size+j,none⟩).isSome=true:=λj hj=>by
    rw[EW,Nat.zero_add];exact(c3 _ (by rw[UW.1]at hj;omega)).2
   have VV:∀j,j<news.length→w.frozen? ⟨ri.b,0+l.length *info.size+j,none⟩=false:=λj hj=>by
    rw[EW,Nat.zero_add];exact(c3 _ (by rw[UW.1]at hj;omega)).1
   have BV:=run_append_room_src (P:=C.P) w t t o.type e info hu SW ri.b 0 l.length cap (a.eval y) m.length news YY tY gW VV;rw[show(⟨ri.b,0,none⟩:Addr)=gA ri.b 0 from rfl, ←hx,EW,Nat.zero_add]at BV;rw[EW,Nat.zero_add]at gW;generalize hW:w.setCells ri.b (l.length *sz tn) news=W at BV
   have N7:∀(j:Nat) (u:Value),(JE w ri.b 0 (l.length *sz tn)++news)[j]?=some u→W.cell? (gA ri.b j)=some u:=λj u hj=>by
    have O7:=holds.1.1
    by_cases sW:j<(JE w ri.b 0 (l.length *sz tn)).length
    ·rw[List.getElem?_append_left sW]at hj;have:=holds.2 j u hj;rw[TC,Nat.zero_add]at this;rw[←hW,World.cell?_setCells_out]
     ·exact this
     ·intro _ _;simp only[gA];left;rw[O7]at sW;exact sW
    ·rw[List.getElem?_append_right (by omega),O7]at hj;obtain⟨fY,rfl⟩:=List.getElem?_eq_some_iff.1 hj;have:=World.cell?_setCells_in ri.b news (l.length *sz tn) w gW (j - l.length *sz tn) fY;rw[show l.length *sz tn+(j - l.length *sz tn)=j by omega,hW]at this;exact this
   have D2:=hr.heap.move EV sZ hρ OV hi (ri':=⟨ri.b,l.length+m.length,cap,false⟩) rfl rfl W (by rw[←hW];exact HL _ _ _ _) (by rw[←hW];exact cL _ _ _ _)
    (fun b hb=>by rw [← hW];exact zH _ _ _ _ _ hb) (.arr tn (l++m)) (fun bad rX=>by
     refine⟨by simp, .inr ⟨rfl,by rw[←hW];exact LN _ _ ce,tY,Nat.le_trans i6 c2,λj hj=>⟨by rw[←hW,World.frozen?_setCells];exact(c3 j (by have:j<cap *sz tn:=hj;omega)).1,?_⟩,?_⟩⟩
     ·by_cases x9:l.length *sz tn≤j∧j<l.length *sz tn+news.length
      ·have:=World.cell?_setCells_in ri.b news (l.length *sz tn) w gW (j - l.length *sz tn) (by omega);rw[show l.length *sz tn+(j - l.length *sz tn)=j by omega,hW]at this;show(W.cell? ⟨ri.b,j,none⟩).isSome=true
       rw[this];rfl
      ·rw[←hW,World.cell?_setCells_out]
       ·exact(c3 j (by have:j<cap *sz tn:=hj;omega)).2
       ·intro _ _;simp only[gA];omega
     ·exact eQ holds.1 UW rX N7)
   obtain⟨hh,hv⟩:=D2
   have key:BA w0 outer own (cA ρ i (some ⟨ri.b,l.length+m.length,cap,false⟩)) (cA h' i (some ⟨.arr tn (l++m),md⟩)) W∧
     ∀u d,VR w ρ (bA outer ρ st.h) u d→VR W (cA ρ i (some ⟨ri.b,l.length+m.length,cap,false⟩)) (bA outer (cA ρ i (some ⟨ri.b,l.length+m.length,cap,false⟩)) (cA h' i (some ⟨.arr tn (l++m),md⟩))) u d:=by
    obtain⟨g1,g2⟩:=hh.less (h':=cA h' i (some ⟨.arr tn (l++m), .own⟩)) (λq row' hq=>by
     by_cases aY:q=i
     ·subst aY;rw[qA]at hq;cases hq;exact⟨_,qA _ _ _,rfl,id,id⟩
     ·rw[jA _ _ _ _ aY]at hq⊢;exact KV q row' hq)
    rcases HX with rfl | ⟨rfl,HX⟩
    ·exact⟨g1,λu d hu=>g2 _ _ (hv u d hu)⟩
    ·have g3:=g1.turn (m':= .tre) (qA _ _ _) rfl λGV=>by
      rw[uF]at GV⊢;refine HX ri.b _ W _ rfl holds.1.1 (.inr ⟨r,ri,Q2,hρ,OV,rfl,YZ⟩) (λc hc _=>by rw[←hW];exact zH _ _ _ _ _ hc) N7 λb hb=> .inl ?_;have ZY:=GV b hb;refine xO (c':= .arr tn (l++m)) (m':= .own) (i:=i) (ri':=⟨ri.b,l.length+m.length,cap,false⟩) EV sZ hρ (λ_=>⟨rfl,OV⟩) (ZY.mono λq row' h1 h2=>?_)
      by_cases aY:q=i
      ·subst aY;exact⟨_,qA _ _ _,rfl⟩
      ·rw[jA _ _ _ _ aY]at h1⊢;obtain⟨row,e1,_,e2,_⟩:=KV q row' h1;exact⟨row,e1,e2 h2⟩
     rw[uF]at g3;exact⟨g3.1,λu d hu=>g3.2 _ _ (g2 _ _ (hv u d hu))⟩
   obtain⟨hh,hv⟩:=key
   refine ZA (NV _ _ BV) ⟨_,((hr.turn hh hv).put (?_:VR W _ _ _ (.ow i)) eW).1,λr' hn=>jA _ _ _ _ (by rintro rfl;exact hn ⟨Nat.le_refl _,by omega⟩),λq qi hq=>by
    rw[jA];exact hq;rintro rfl;simp[hi]at hq⟩
   exact .ow i ⟨ri.b,l.length+m.length,cap,false⟩ (qA _ _ _) tY (Nat.le_trans i6 c2) rfl
  ·refine grown (some (gA ri.b 0)) cap _ _ md HX (.inl ⟨rfl, .inr ⟨r,ri,Q2,hρ,OV,YZ⟩⟩) hx (by omega) holds.1 ?_ S0 eW;exact run_firstCells_some w.drew info.size l.length (gA ri.b 0) l.length cap _ (by rw[holds.1.1,EW]) (by simpa using holds.2)
 -- what is known of the new row
 have SX:Ev (WC (FE st.h (opd st.s x) (opd st.s y))) (OG (FE st.h (opd st.s x) (opd st.s y)) (nD st.h ro) (opd st.s y)):=by
  cases HZ:FE st.h (opd st.s x) (opd st.s y)
  ·exact .inl rfl
  refine .inr ⟨rfl,λB olds W ri' hB YX BZ yW IV GV=>?_⟩;obtain⟨r2,c,xX,KY,FZ⟩:=qP HZ
  have l6:ro=none∧l=[]∨∃r,ro=some r∧st.h r=some ⟨.arr tn l, .tre⟩∧r≠r2:=by
   rcases FZ with aX | ⟨r,c',aX,ZZ,QZ⟩
   ·rw[aX]at XV;simp[NF]at XV;exact .inl ⟨XV.2.symm,XV.1⟩
   ·rw[aX]at XV;simp only[NF,ZZ]at XV;cases c' with
    | box=>simp at XV
    | arr t' l1=>
     simp only[show aB.isOwn .tre=true from rfl,cond_true]at XV;split at XV
     case isFalse=>cases XV
     rename_i e1;subst e1;simp only[LE,Option.some.injEq,Prod.mk.injEq]at XV;obtain⟨rfl,rfl⟩:=XV;exact .inr ⟨r,rfl,ZZ,QZ⟩
  have E4:st.h r2=some ⟨.arr tn m, .tre⟩:=by
   rw[xX]at QW;simp only[iJ,KY]at QW;cases c with
   | box=>simp at QW
   | arr t' l1=>
    simp only at QW;split at QW
    case isFalse=>cases QW
    rename_i e1;subst e1;simp only[LE,Option.some.injEq]at QW;subst QW;exact KY
  obtain⟨rj,hρj,o6,_⟩:=hr.heap.rows r2 _ E4;have P7:=hr.opd y;rw[xX]at P7
  have F9:m=[]∨rj.nl=false∧∀k,k<m.length *sz tn→news[k]?=w.cell? (gA rj.b k):=by
   rcases O0 with h | ⟨b,off,cap,e1,e2⟩
   ·exact .inl h
   ·rcases P7.ow_inv hρj with⟨h1,h2,_⟩ | ⟨ao,h1,h2,h3⟩
    ·rw[e1]at h1;injection h1 with h1 _ _
     injection h1 with h1
     have hb:b=rj.b:=congrArg Addr.block h1;have ho:off=0:=congrArg Addr.off h1;subst hb ho;exact .inr ⟨h2,λk hk=>by rw[e2 k hk,Nat.zero_add]⟩
    ·exact .inl (List.eq_nil_of_length_eq_zero (by have:=o6.1;omega))
  have hx:l=[]∨∃r ri,ro=some r∧r≠r2∧st.h r=some ⟨.arr tn l, .tre⟩∧ρ r=some ri∧ri.nl=false∧∀k,k<l.length *sz tn→olds[k]?=w.cell? (gA ri.b k):=by
   have:l=[]∨∃r ri,ro=some r∧ρ r=some ri∧ri.nl=false∧∀k,k<l.length *sz tn→olds[k]?=w.cell? (gA ri.b k):=by
    rcases BZ with⟨_,h⟩ | ⟨r,ri,h1,h2,h3,_,h4⟩
    ·exact h
    ·exact .inr ⟨r,ri,h1,h2,h3,h4⟩
   rcases this with h | ⟨r,ri,h1,h2,h3,h4⟩
   ·exact .inl h
   ·rcases l6 with⟨e,_⟩ | ⟨r',e,e2,e3⟩
    ·rw[h1]at e;cases e
    ·rw[h1]at e;cases e;exact .inr ⟨r,ri,h1,e3,e2,h2,h3,h4⟩
  have s6:∀h:Nat→Option fA,OG true h (opd st.s y)=cA h r2 ((h r2).map λrow=>{row with m:= .own}):=λh=>by rw[xX];rfl
  rw[s6]at GV⊢;refine lB.append (r2:=r2) (ro:=ro) (rj:=rj) hr.heap hi hB hx E4 hρj F9 YX UW.1 (λq t1 l1 m1 hq mX=>?_) (λhc=>?_) (λq row qi g1 g2 g3 g4=>?_) yW IV GV
  ·by_cases aZ:q=r2
   ·subst aZ;rw[qA]at hq;obtain⟨row,_,e⟩:=Option.map_eq_some_iff.1 hq;have:=congrArg fA.m e;simp only at this;subst this;cases mX
   ·rw[jA _ _ _ _ aZ]at hq;cases ro with
    | none=>exact⟨⟨m1,hq,mX⟩,by simp,aZ⟩
    | some r=>
     simp only[nD]at hq
     by_cases LV:q=r
     ·subst LV;rw[qA]at hq;cases hq
     ·rw[jA _ _ _ _ LV]at hq;exact⟨⟨m1,hq,mX⟩,by simpa using λe=>LV e.symm,aZ⟩
  ·rcases BZ with⟨h,_⟩ | ⟨r,ri,h1,h2,h3,h4,_⟩
   ·have:=hc.lt;omega
   ·rcases l6 with⟨e,_⟩ | ⟨r',e,e2,e3⟩
    ·rw[h1]at e;cases e
    ·rw[h1]at e;cases e;rw[←h4];exact .inr ⟨r,_,ri,e2,rfl,h2,h3,rfl⟩
  ·rcases BZ with⟨h,_⟩ | ⟨r,ri,h1,h2,h3,h4,_⟩
   ·obtain⟨ri1,k1,_,k2⟩:=hr.heap.rows q row g1;rw[g2]at k1;cases k1;have:=(k2 g3).2;omega
   ·rcases l6 with⟨e,_⟩ | ⟨r',e,e2,e3⟩
    ·rw[h1]at e;cases e
    ·rw[h1]at e;cases e;intro e;have:=hr.heap.inj q r row _ qi ri g1 e2 g2 h2 g3 h3 (e.trans h4.symm);subst this;exact g4 h1
 have KV:∀(q:Nat) (row':fA),OG (FE st.h (opd st.s x) (opd st.s y)) (nD st.h ro) (opd st.s y) q=some row'→∃row,nD st.h ro q=some row∧row.c=row'.c∧(row'.m.isRo=false→row.m.isRo=false)∧(row'.m.isTre=true→row.m.isTre=true):=λq row' hq=>by
  cases HZ:FE st.h (opd st.s x) (opd st.s y)
  ·rw[HZ]at hq;exact⟨row',hq,rfl,id,id⟩
  ·obtain⟨r2,c,xX,KY,_⟩:=qP HZ;rw[HZ,xX]at hq;have hq:cA (nD st.h ro) r2 ((nD st.h ro r2).map λrow=>{row with m:= .own}) q=some row':=hq
   by_cases aZ:q=r2
   ·subst aZ;rw[qA]at hq;obtain⟨row,e1,e2⟩:=Option.map_eq_some_iff.1 hq;subst e2;obtain⟨row2,f1,f2,f3,_⟩:=killLess ro q row e1;rw[KY]at f1;refine⟨row,e1,rfl,λ_=>?_,λh=>by cases h⟩;cases TY:ro with
    | none=>rw[TY]at e1;simp only[nD]at e1;rw[KY]at e1;cases e1;rfl
    | some r=>
     rw[TY]at e1;simp only[nD]at e1
     by_cases LV:q=r
     ·subst LV;rw[qA]at e1;cases e1
     ·rw[jA _ _ _ _ LV,KY]at e1;cases e1;rfl
   ·rw[jA _ _ _ _ aZ]at hq;exact⟨row',hq,rfl,id,id⟩
 have gY:∀(q:Nat) (row':fA),OG (FE st.h (opd st.s x) (opd st.s y)) (nD st.h ro) (opd st.s y) q=some row'→∃row,st.h q=some row∧row.c=row'.c∧(row'.m.isRo=false→row.m.isRo=false)∧(row'.m.isTre=true→row.m.isTre=true):=λq row' hq=>by
  obtain⟨row,e1,e2,e3,e4⟩:=KV q row' hq;obtain⟨row2,f1,f2,f3,f4⟩:=killLess ro q row e1;exact⟨row2,f1,f2.trans e2,λh=>f3 (e3 h),λh=>f4 (e4 h)⟩
 unfold NF at XV;split at XV
 ·rename_i SV;cases XV;have hx:=hr.opd x;rw[SV]at hx;have FZ:a.eval x= .slice none 0 0:=by generalize a.eval x=v at hx;cases hx;rfl
  exact empty none _ _ SX rfl FZ gY hk
 ·rename_i r SV;split at XV
  case h_2=>cases XV
  rename_i t' l1 m0 EV;cases sZ:m0.isOwn
  case false=>simp[sZ]at XV
  simp only[sZ,cond_true]at XV;split at XV
  case isFalse=>cases XV
  rename_i e1;subst e1;simp only[LE,Option.some.injEq,Prod.mk.injEq]at XV;obtain⟨rfl,rfl⟩:=XV;obtain⟨ri,hρ,PV⟩:=VE hr EV;have eY:ri.n=l1.length:=PV.1;have hx:=hr.opd x;rw[SV]at hx
  rcases hx.ow_inv hρ with⟨h1,h2,h3,h4⟩ | ⟨ao,h1,h2,h3⟩
  ·exact full r l1 m0 ri ri.cap EV (FK sZ) hρ h2 (by simp) (by omega) (Nat.le_refl _) (by rw[←eY];exact h1) _ _ rfl SX KV hk
  ·exact empty ao _ _ SX (List.eq_nil_of_length_eq_zero (by omega)) h1 gY hk
 ·rename_i r t0 len SV;split at XV
  case h_2=>cases XV
  rename_i t' l1 m0 EV;cases sZ:m0.isOwn
  case false=>simp[sZ]at XV
  simp only[sZ,cond_true]at XV;split at XV
  case isFalse=>cases XV
  rename_i e1;subst e1;simp only[LE,Option.some.injEq,Prod.mk.injEq]at XV;obtain⟨rfl,rfl⟩:=XV;obtain⟨ri,hρ,PV⟩:=VE hr EV;have eY:ri.n=l1.length:=PV.1;have hx:=hr.opd x;rw[SV]at hx;obtain⟨ao,cap,h1,h2,h3,h4,h5⟩:=hx.ov_inv hρ;have FV:(l1.take len).length=len:=by simp;omega
  rcases h3 with⟨rfl,rfl⟩ | ⟨rfl,OV,hc⟩
  ·exact empty ao _ _ SX (by simp) h1 gY hk
  ·rw[Nat.zero_mul]at h1;exact full r l1 m0 ri cap EV (FK sZ) hρ OV (by rw[FV]) (by omega) (by omega) (by rw[FV];exact h1) _ _ rfl SX KV hk
 ·cases XV
end
end Go.D
namespace Go.D
variable [aA]
section
variable {C:Cx} {w0:World} {outer:Nat→Prop} {own:Ow} {ρ:Nat→Option RI} {st st':St} {a:Act} {w:World} {h:Nat→Option fA}
omit [aA]in
def zav(s:List UInt8)(p q:Nat):(⟨s.toArray⟩:ByteArray).extract p q=⟨((s.drop p).take (q - p)).toArray⟩:=by
 apply ByteArray.ext;simp[ByteArray.data_extract]
omit [aA]in
def yQ{P:Program}(b:Bool)(len cap:Nat)(lo hi:Option Value)(p q:Nat)(YX:∀v,lo=some v→∃k,v= .int k (p:Int))(IX:lo=none→p=0)
  (tZ:∀v,hi=some v→∃k,v= .int k (q:Int)) (sX:hi=none→q=len) (bX:p≤q) (J4:q≤cap):
  (Instr.sliceBounds b len cap lo hi none).run P w= .ok (p,q,cap) w:=by
 have e1:(q:Int)≤cap:=by omega
 have e2:(p:Int)≤q:=by omega
 cases lo with
 | none=>
  obtain rfl:=IX rfl;cases hi with
  | none=>obtain rfl:=sX rfl;simp[Instr.sliceBounds]
  | some v=>obtain⟨k,rfl⟩:=tZ v rfl;simp[Instr.sliceBounds,Instr.sliceBound,asIntOf,J4]
 | some u=>
  obtain⟨k,rfl⟩:=YX u rfl;cases hi with
  | none=>obtain rfl:=sX rfl;simp[Instr.sliceBounds,Instr.sliceBound,asIntOf,bX]
  | some v=>obtain⟨k',rfl⟩:=tZ v rfl;simp[Instr.sliceBounds,Instr.sliceBound,asIntOf,J4,bX]
def YL(hC:EC C){t e:TypeId}{tn:TN}{ao:Option Addr}{len cap p q:Nat}{lo hi:Option Value}(hu:C.P.underlying t=some (.slice e))(vW:mE C e tn=true)
  (YX:∀v,lo=some v→∃k,v= .int k (p:Int)) (IX:lo=none→p=0) (tZ:∀v,hi=some v→∃k,v= .int k (q:Int)) (sX:hi=none→q=len) (bX:p≤q) (J4:q≤cap):
  (Instr.sliceAt t (.slice ao len cap) lo hi none).run C.P w= .ok (.slice (if cap=p then ao else ao.map (·.add (p *sz tn))) (q - p) (cap - p)) w:=by
 simp[Instr.sliceAt,ZC hu,Instr.slice,yQ (P:=C.P) (w:=w) true len cap lo hi p q YX IX tZ sX bX J4,ME (FM hC vW)]
variable {o:Oper} {i:Nat} (hr:xA C w0 outer own ρ st a w)
include hr
def zcc(hC:EC C)(t:TypeId)(x:Operand)(lo hi mx:Option Operand)(ho:o.op= .slice t x lo hi mx)(hk:OA C i o st some=some st'):uB C.P o a w (qB C w0 outer own i ρ st'):=by
 simp only[OA,ho]at hk;split at hk
 ·cases hk
 ·cases hk
 rename_i d hu;unfold oH at hk;split at hk
 ·cases hk
 rename_i len FV;split at hk
 case h_2=>cases hk
 rename_i pa pb R2 i0;cases hb:(decide (0≤pa)&&decide (pa≤pb)&&decide (pb≤(len:Int)))
 case false=>simp[hb]at hk
 simp only[hb,cond_true]at hk;simp only[Bool.and_eq_true,decide_eq_true_eq]at hb;obtain⟨⟨U0,ZY⟩,Q7⟩:=hb;obtain⟨p,rfl⟩:=Int.eq_ofNat_of_zero_le U0;obtain⟨q,rfl⟩:=Int.eq_ofNat_of_zero_le (Int.le_trans U0 ZY);have bX:p≤q:=by omega
 have iY:q≤len:=by omega
 have e1:((q:Int) - (p:Int)).toNat=q - p:=by omega
 simp only[Int.toNat_natCast,e1]at hk
 have YX:∀v,lo.map a.eval=some v→∃k,v= .int k (p:Int):=λv hv=>by
  obtain⟨y,hy,rfl⟩:=Option.map_eq_some_iff.1 hv;subst hy;have:=hr.opd y;simp only[Option.map_some,nJ]at R2;split at R2
  ·rename_i heq;cases heq
  ·rename_i k n heq;cases R2;simp only[Option.some.injEq]at heq;rw[heq]at this;exact⟨k,this.int_inv.1⟩
  ·cases R2
 have IX:lo.map a.eval=none→p=0:=λhv=>by
  have:lo=none:=by simpa using hv
  subst this;simp[nJ]at R2;omega
 have tZ:∀v,hi.map a.eval=some v→∃k,v= .int k (q:Int):=λv hv=>by
  obtain⟨y,hy,rfl⟩:=Option.map_eq_some_iff.1 hv;subst hy;have:=hr.opd y;simp only[Option.map_some,nJ]at i0;split at i0
  ·rename_i heq;cases heq
  ·rename_i k n heq;cases i0;simp only[Option.some.injEq]at heq;rw[heq]at this;exact⟨k,this.int_inv.1⟩
  ·cases i0
 have sX:hi.map a.eval=none→q=len:=λhv=>by
  have:hi=none:=by simpa using hv
  subst this;simp[nJ]at i0;omega
 have hx:=hr.opd x;obtain⟨AY,hl⟩:=BR hr hx FV
 have NV:∀v,(Instr.sliceAt t (a.eval x) (lo.map a.eval) (hi.map a.eval) none).run C.P w= .ok v w→(execOp a.eval o).run C.P w= .ok (.value v) w:=λv h1=>by
  simp[execOp,ho,h1]
 split at hk
 ·rename_i e tn l SV;rw[SV]at hx FV;simp only[xG,Option.some.injEq]at FV;cases vW:mE C e tn
  case false=>simp[vW]at hk
  simp only[vW,gB]at hk;obtain⟨ao,cap,h1,h2,h3,h4⟩:=hx.sl_inv2;rw[FV]at h1 h2;have BV:=YL (w:=w) hC hu vW YX IX tZ sX bX (Nat.le_trans iY h2) (ao:=ao);rw[←h1]at BV;refine ZA (NV _ BV) (hr.after ?_ hk)
  by_cases t6:q - p=0
  ·rw[t6,List.take_zero];exact .slE _ _ _ (by omega)
  ·rw[if_neg (by omega)]
   rcases h4 with rfl | ⟨b,off,rfl,QW,GV,IV⟩
   ·simp at FV;omega
   ·replace QW:((l.drop p).take (q - p))≠[]→b<aA.base∨dD w b tn:=λ_=>QW
    simp only[Option.map_some,TC];have S2:((l.drop p).take (q - p)).length=q - p:=by simp;omega
    have:=VR.slC (w:=w) (ρ:=ρ) (bad:=bA outer ρ st.h) tn ((l.drop p).take (q - p)) b (off+p *sz tn) (cap - p)
     (λi j=>(w.cell? (gA b (off+p *sz tn+i *sz tn+j))).getD undef) GV (by omega) (by omega) QW
     (fun i hi j hj=>by
      obtain⟨u,h5,h6⟩:=IV (p+i) (by omega) j hj;rw[show off+p *sz tn+i *sz tn+j=off+(p+i) *sz tn+j by rw[Nat.add_mul];omega,h5];rfl)
     (fun i hi j hj=>by
      obtain⟨u,h5,h6⟩:=IV (p+i) (by omega) j hj
      rw[show off+p *sz tn+i *sz tn+j=off+(p+i) *sz tn+j by rw[Nat.add_mul];omega,h5,Option.getD_some,
       bQ l p (q - p) i (by omega) hi]
      exact h6)
    rw[S2]at this;exact this
 ·rename_i s SV;rw[SV]at hx FV;simp only[xG,Option.some.injEq]at FV;obtain⟨h1,h2⟩:=hx.str_inv;have yX:(⟨s.toArray⟩:ByteArray).size=s.length:=by simp[ByteArray.size]
  refine ZA (NV (.string ⟨((s.drop p).take (q - p)).toArray⟩) ?_) (hr.after (.str _ (by simp;omega)) hk);rw[h1];have NY:=yQ (P:=C.P) (w:=w) false s.length s.length (lo.map a.eval) (hi.map a.eval) p q YX IX tZ (by rw[FV];exact sX) bX (by omega);simp[Instr.sliceAt,ZC hu,Instr.slice,yX,NY,zav]
 ·rename_i e r SV;rw[SV]at hx FV;split at hk
  case h_2=>cases hk
  rename_i tn l m EV;cases vW:mE C e tn
  case false=>simp[vW]at hk
  simp only[vW,gB]at hk;simp only[xG,EV,Option.some.injEq]at FV;obtain⟨ri,hρ,PV⟩:=VE hr EV;have eY:ri.n=l.length:=PV.1
  rcases hx.ow_inv hρ with⟨h1,h2,h3,h4⟩ | ⟨ao,h1,h2,h3⟩
  ·have BV:=YL (w:=w) hC hu vW YX IX tZ (λh=>by have:=sX h;omega) bX (show q≤ri.cap by omega) (ao:=some (gA ri.b 0)) (len:=ri.n);rw[←h1]at BV;refine ZA (NV _ BV) (hr.after (.ov r tn p (q - p) (ri.cap - p) _ ri hρ (by omega) ?_ (by omega) (by omega)) hk)
   by_cases u6:ri.cap=p
   ·left;omega
   ·right;rw[if_neg u6];refine⟨?_,h2,by omega⟩;simp[TC]
  ·have BV:=YL (w:=w) hC hu vW YX IX tZ (λh=>by have:=sX h;omega) bX (show q≤0 by omega) (ao:=ao) (len:=0);rw[←h1]at BV;exact ZA (NV _ BV) (hr.after (.ov r tn p (q - p) (0 - p) _ ri hρ (by omega) (.inl ⟨by omega,by omega⟩) (by omega) (by unfold maxLen;omega)) hk)
 ·rename_i e r tn off len' SV;rw[SV]at hx FV;cases vW:mE C e tn
  case false=>simp[vW]at hk
  simp only[vW,gB]at hk;simp only[xG,Option.some.injEq]at FV;obtain⟨ri,hρ⟩:=hx.ov_row;obtain⟨ao,cap,h1,h2,h3,h4,h5⟩:=hx.ov_inv hρ;have BV:=YL (w:=w) hC hu vW YX IX tZ (λh=>by have:=sX h;omega) bX (show q≤cap by omega) (ao:=ao) (len:=len');rw[←h1]at BV;have g1:q - p≤cap - p:=Nat.sub_le_sub_right (Nat.le_trans iY (by rw[←FV];exact h4)) p;have g2:cap - p≤maxLen:=Nat.le_trans (Nat.sub_le _ _) h5
  have g3:off+p+(q - p)≤ri.n:=by
   rw[Nat.add_assoc,Nat.add_sub_cancel' bX];exact Nat.le_trans (Nat.add_le_add_left (by rw[FV];exact iY) off) h2
  refine ZA (NV _ BV) (hr.after (.ov r tn (off+p) (q - p) (cap - p) _ ri hρ g3 ?_ g1 g2) hk)
  rcases h3 with⟨h6,h7⟩ | ⟨rfl,h6,h7⟩
  ·left;omega
  ·by_cases u6:cap=p
   ·left;omega
   ·right;rw[if_neg u6];refine⟨?_,h6,by omega⟩;simp[TC,Nat.add_mul]
 ·cases hk
end
end Go.D

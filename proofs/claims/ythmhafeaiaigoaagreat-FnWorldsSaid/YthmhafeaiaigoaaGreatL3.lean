/-
 One operation, continued: numbers, texts, parts of slices.
-/
import Derived.Test.YthmhafeaiaigoaaGreatL2
import Derived.Deep.Upon
set_option linter.all false
namespace Go.D
variable [jA]
omit [jA]in
def zkF(k:IntKind)(n:Int)(m:Nat)(h:yE k n):yE k (n.fdiv (2^m)):=by
 have hp:(0:Int)<2^m:=Int.pow_pos (by decide);rw[Int.fdiv_eq_ediv_of_nonneg _ (Int.le_of_lt hp)];obtain⟨h1,h2⟩:=h;have M9:k.min≤0:=by cases k<;>decide
 have VZ:0≤k.max:=by cases k<;>decide
 by_cases hn:0≤n
 ·have a1:=Int.ediv_nonneg hn (Int.le_of_lt hp);have a2:=Int.ediv_le_self (2^m) hn;exact⟨by omega,by omega⟩
 ·have a1:n / 2^m<0:=Int.ediv_neg_of_neg_of_pos (by omega) hp
  have a2:n≤n / 2^m:=by
   rw[Int.le_ediv_iff_mul_le hp];have:1≤(2:Int)^m:=by omega
   have h3:=Int.mul_le_mul_of_nonpos_left (a:=n) (b:=2^m) (c:=1) (by omega) this;simpa using h3
  exact⟨by omega,by omega⟩
omit [jA]in
def ztZ(k:IntKind)(n m:Int)(h:yE k n):yE k (n.tmod m):=by
 obtain⟨h1,h2⟩:=h;have M9:k.min≤0:=by cases k<;>decide
 have VZ:0≤k.max:=by cases k<;>decide
 have e1:=Int.natAbs_tmod n m;have e2:=Nat.mod_le n.natAbs m.natAbs
 by_cases hn:0≤n
 ·have a1:=Int.tmod_nonneg m hn;exact⟨by omega,by omega⟩
 ·have e:n.tmod m= -((-n).tmod m):=by rw[Int.neg_tmod,Int.neg_neg]
  have a1:=Int.tmod_nonneg (a:= -n) m (by omega);exact⟨by omega,by omega⟩
section
variable {C:Cx} {w0:World} {outer own:Nat→Prop} {ρ:Nat→Option RI} {st st':St} {a:Act} {w:World} {h:Nat→Option uA}
variable {o:Oper} {i:Nat} (hr:ZA C w0 outer own ρ st a w)
def zwa{bad:Nat→Prop}{op:BinOp}{t:TypeId}{vx vy:Value}{dx dy d:V}(hx:VR w ρ bad vx dx)(hy:VR w ρ bad vy dy)
  (hd:zhK op dx dy=some d) (x y:Operand):∃v,VR w ρ bad v d∧((do eqGuard op t x y vx vy;binOp op t vx vy):Sem Value).run C.P w= .ok v w:=by
 unfold zhK at hd;split at hd
 ·rename_i k p k' q
  have G3:∀{α:Type} {y z:α},(bif decide (k=k')then some y else none)=some z→k=k'∧y=z:=λh=>by
   grind
  have tW:yE k p:=by cases hx;assumption
  have z4:vx= .int k p:=by cases hx;rfl
  have GZ:vy= .int k' q:=by cases hy;rfl
  subst z4 GZ
  cases op<;>simp only at hd<;>first
   | (obtain⟨rfl,rfl⟩:=G3 hd;refine⟨_, .int _ _ (iS _ _),?_⟩;simp[eqGuard,binOp,Op.intArith,Op.intBits];done)
   | (obtain⟨rfl,rfl⟩:=G3 hd;refine⟨_, .bool _,?_⟩;simp[eqGuard,binOp,Op.intCmp];done)
   | (split at hd
      ·cases hd
      ·cases hd;rename_i hq;refine⟨_, .int _ _ (by first | exact iS _ _ | exact zkF _ _ _ tW),?_⟩;simp[eqGuard,binOp,Op.shift,hq];done)
   | (cases hd;done)
 ·rename_i p q;have z4:vx= .string ⟨p.toArray⟩:=by cases hx;rfl
  have GZ:vy= .string ⟨q.toArray⟩:=by cases hy;rfl
  subst z4 GZ
  cases op<;>first
   | (cases hd;done)
   | (cases hd;refine⟨_, .bool _,?_⟩;simp[eqGuard,binOp,Op.stringOp];done)
 ·cases hd
def zwt{bad:Nat→Prop}{op:BinOp}{t:TypeId}{vx vy:Value}{dx dy:V}{R:Type}{K:V→Option R}{r:R}(hx:VR w ρ bad vx dx)(hy:VR w ρ bad vy dy)
  (hk:gN op dx dy K=some r) (x y:Operand):
  ∃d v,K d=some r∧VR w ρ bad v d∧((do eqGuard op t x y vx vy;binOp op t vx vy):Sem Value).run C.P w= .ok v w:=by
 unfold gN at hk;split at hk
 ·-- quo
  rename_i k p k' q
  by_cases WZ:k=k'
  case neg=>simp[WZ]at hk
  subst WZ;cases hq:(q==0)
  case true=>simp[hq]at hk
  simp only[decide_true,cond_true,hq,cond_false]at hk;cases hx;cases hy;refine⟨_, .int k (k.wrap (p.tdiv q)),hk, .int _ _ (iS _ _),?_⟩;have:q≠0:=by simpa using hq
  simp[eqGuard,binOp,Op.intDiv,this]
 ·rename_i k p k' q
  by_cases WZ:k=k'
  case neg=>simp[WZ]at hk
  subst WZ;cases hq:(q==0)
  case true=>simp[hq]at hk
  simp only[decide_true,cond_true,hq,cond_false]at hk;cases hx;cases hy;refine⟨_, .int k (p.tmod q),hk, .int _ _ (ztZ _ _ _ (by assumption)),?_⟩;have:q≠0:=by simpa using hq
  simp[eqGuard,binOp,Op.intDiv,this]
 ·rename_i k p k' q
  by_cases hq:q<0
  case pos=>simp[hq]at hk
  simp only[hq,decide_false,cond_false]at hk;cases hx;cases hy;refine⟨_,_,hk, .int _ _ (iS _ _),?_⟩;simp[eqGuard,binOp,Op.shift,hq]
 ·rename_i k p k' q
  by_cases hq:q<0
  case pos=>simp[hq]at hk
  simp only[hq,decide_false,cond_false]at hk;cases hx;cases hy;refine⟨_,_,hk, .int _ _ (zkF _ _ _ (by assumption)),?_⟩;simp[eqGuard,binOp,Op.shift,hq]
 ·rename_i p q
  by_cases hq:p.length+q.length≤bA
  case neg=>simp[hq]at hk
  simp only[hq,decide_true,cond_true]at hk;cases hx;cases hy;have hl:bA≤1000000000000:=by unfold bA;decide
  refine⟨_, .string ⟨(p++q).toArray⟩,hk, .str _ (by simp[maxLen];omega),?_⟩
  have h1:¬(IntKind.i64.max<((p.length+q.length:Nat):Int)):=by
   simp only[IntKind.max,IntKind.signed,IntKind.bits];simp;omega
  have h2:(p.length:Int)+q.length≤IntKind.i64.max:=by
   grind
  have IX:(⟨p.toArray⟩:ByteArray).size=p.length:=by simp[ByteArray.size]
  have K5:(⟨q.toArray⟩:ByteArray).size=q.length:=by simp[ByteArray.size]
  simp[eqGuard,binOp,Op.stringOp,ByteArray.mk_append_mk,IX,K5]
  grind
 ·split at hk
  case h_2=>cases hk
  rename_i d hd;obtain⟨v,h1,h2⟩:=zwa (w:=w) hx hy hd (t:=t) x y;exact⟨d,v,hk,h1,h2⟩
end
end Go.D
namespace Go.D
variable [jA]
section
variable {C:Cx} {w0:World} {outer own:Nat→Prop} {ρ:Nat→Option RI} {st st':St} {a:Act} {w:World} {h:Nat→Option uA}
omit [jA]in
def zlt(n:Nat){P:Program}{t:TypeId}{k:IntKind}(hu:P.underlying t=some (.int k))(j:IntKind)(x y:Int):(Op.equalIn (n+1) t (.int j x) (.int j y)).run P w= .ok (x==y) w:=by
 rw[Op.equalIn];simp[xF hu]
omit [jA]in
def zkR(n:Nat){P:Program}{t:TypeId}(hu:P.underlying t=some .bool)(x y:Bool):(Op.equalIn (n+1) t (.bool x) (.bool y)).run P w= .ok (x==y) w:=by
 rw[Op.equalIn];simp[xF hu]
omit [jA]in
def tO{P:Program}{t:TypeId}(h1:gF P t=some false){vs:Array Value}{k:Nat}(hk:k<vs.size):(part t vs k).run P w= .ok (vs.getD k undef) w:=by
 rw[Array.getD_eq_getD_getElem?,Array.getElem?_eq_getElem hk];simp[part,bS h1,Array.getElem?_eq_getElem hk]
def sK(n:Nat)(xs ys:Array Value)(f:Field)(_:Option Bool×Unit):Sem (ForInStep (Option Bool×Unit)):=
 if f.name ≠ "_" then do
  let __do_lift ←part f.type xs f.offset;let __do_lift_1 ←part f.type ys f.offset;let __do_lift ←Op.equalIn n f.type __do_lift __do_lift_1
  if(!__do_lift)=true then pure (ForInStep.done (some false,()))
   else pure (ForInStep.yield (none,()))
 else pure (ForInStep.yield (none,()))
def zl3(n:Nat){P:Program}{bad:Nat→Prop}(xs ys:Array Value):∀(fl:List Field) (ks:List Bool) (k:Nat) (dxs dys:List V) (b:Bool),ZJ P k fl=some ks→uE ks dxs dys=some b→
  k+fl.length≤xs.size→k+fl.length≤ys.size→(∀j (hj:j<dxs.length),VR w ρ bad (xs.getD (k+j) undef) dxs[j])→(∀j (hj:j<dys.length),VR w ρ bad (ys.getD (k+j) undef) dys[j])→
  (forIn fl ((none,()):Option Bool×Unit) (sK (n+1) xs ys)).run P w= .ok (bif b then(none,())else(some false,())) w
 | [],ks,k,dxs,dys,b,hf,he,_,_,_,_=>by
  simp only[ZJ,Option.some.injEq]at hf;subst hf;cases dxs<;>cases dys<;>simp[uE]at he
  subst he;simp
 | f :: fl,ks,k,dxs,dys,b,hf,he,hx,hy,G0,H0=>by
  simp only[ZJ]at hf
  cases hb : (f.name != "_" && Nat.beq f.offset k)
  case false=>simp[hb]at hf
  simp only[hb,cond_true]at hf;simp only[Bool.and_eq_true,bne_iff_ne,ne_eq]at hb;obtain⟨PW,EY⟩:=hb;have EY:=Nat.eq_of_beq_eq_true EY;simp only[List.length_cons]at hx hy
  have main:∀(dx dy:V) (dxs' dys':List V) (ks':List Bool) (q b':Bool),dxs=dx :: dxs'→dys=dy :: dys'→ZJ P (k+1) fl=some ks'→gF P f.type=some false→
    (Op.equalIn (n+1) f.type (xs.getD k undef) (ys.getD k undef)).run P w= .ok q w→uE ks' dxs' dys'=some b'→b=(bif q then b' else false)→
    (forIn (f :: fl) ((none,()):Option Bool×Unit) (sK (n+1) xs ys)).run P w= .ok (bif b then(none,())else(some false,())) w:=λdx dy dxs' dys' ks' q b' hdx hdy XV DW h1 h2 h3=>by
   subst hdx hdy;have N9:=tO (P:=P) (w:=w) DW (show k<xs.size by omega);have O9:=tO (P:=P) (w:=w) DW (show k<ys.size by omega)
   have ih:=zl3 n xs ys fl ks' (k+1) dxs' dys' b' XV h2 (by omega) (by omega)
    (λj hj=>by have:=G0 (j+1) (by simp;omega);rwa [show k+(j+1)=k+1+j by omega]at this)
    (λj hj=>by have:=H0 (j+1) (by simp;omega);rwa [show k+(j+1)=k+1+j by omega]at this)
   rw[List.forIn_cons,Sem.run_bind]
   have hb:(sK (n+1) xs ys f (none,())).run P w= .ok (bif q then ForInStep.yield (none,())else ForInStep.done (some false,())) w:=by
    unfold sK;rw[if_pos PW,EY];simp only[Sem.run_bind,N9,O9,Result.andThen_ok,h1];cases q<;>simp
   rw[hb,Result.andThen_ok];subst h3;cases q with
   | false=>simp
   | true=>simpa using ih
  split at hf
  ·rename_i ks' hu XV;cases hf;unfold uE at he;split at he
   ·simp_all
   ·simp_all
   ·rename_i ks'' p xs' q ys' h1;cases h1;obtain⟨b',h3,h4⟩:=Option.map_eq_some_iff.1 he;have nY:=G0 0 (by simp);have NY:=H0 0 (by simp);simp only[Nat.add_zero,List.getElem_cons_zero]at nY NY;have e1:xs.getD k undef= .bool p:=by generalize xs.getD k undef=v at nY;cases nY;rfl
    have e2:ys.getD k undef= .bool q:=by generalize ys.getD k undef=v at NY;cases NY;rfl
    exact main _ _ _ _ _ (p==q) b' rfl rfl XV (by simp[gF,hu]) (by rw[e1,e2];exact zkR n hu p q) h3 h4.symm
   ·cases he
  ·rename_i ki ks' hu XV;cases hf;unfold uE at he;split at he
   ·simp_all
   ·rename_i ks'' j p xs' k' q ys' h1;cases h1
    by_cases kZ:j=k'
    case neg=>simp[kZ]at he
    subst kZ;simp only[decide_true,cond_true,Option.map_eq_some_iff]at he;obtain⟨b',h3,h4⟩:=he;have nY:=G0 0 (by simp);have NY:=H0 0 (by simp);simp only[Nat.add_zero,List.getElem_cons_zero]at nY NY;have e1:xs.getD k undef= .int j p:=by generalize xs.getD k undef=v at nY;cases nY;rfl
    have e2:ys.getD k undef= .int j q:=by generalize ys.getD k undef=v at NY;cases NY;rfl
    exact main _ _ _ _ _ (p==q) b' rfl rfl XV (by simp[gF,hu]) (by rw[e1,e2];exact zlt n hu j p q) h3 h4.symm
   ·rename_i h1;cases h1
   ·cases he
  ·cases hf
omit [jA]in
def ze2{P:Program}:∀(fl:List Field) (k:Nat) (ks:List Bool),ZJ P k fl=some ks→ks.length=fl.length
 | [],_,_,h=>by simp[ZJ]at h;subst h;rfl
 | f :: fl,k,ks,h=>by
  simp only[ZJ]at h
  cases hb : (f.name != "_" && Nat.beq f.offset k)
  case false=>simp[hb]at h
  simp only[hb,cond_true]at h;split at h
  ·rename_i ks' _ h1;cases h;simp[ze2 fl _ _ h1]
  ·rename_i ks' _ h1;cases h;simp[ze2 fl _ _ h1]
  ·cases h
omit [jA]in
def zbF:∀(ks:List Bool) (xs ys:List V) (b:Bool),uE ks xs ys=some b→xs.length=ks.length∧ys.length=ks.length
 | [],xs,ys,b,h=>by cases xs<;>cases ys<;>simp[uE]at h;exact⟨rfl,rfl⟩
 | k :: ks,xs,ys,b,h=>by
  unfold uE at h;split at h
  ·rename_i h1;cases h1
  ·rename_i ks' j p xs' k' q ys' h1;cases h1;cases kZ:decide (j=k')
   ·simp[kZ]at h
   ·simp only[kZ,cond_true,Option.map_eq_some_iff]at h;obtain⟨b',h2,_⟩:=h;have:=zbF _ _ _ _ h2;simp[this]
  ·rename_i ks' p xs' q ys' h1;cases h1;obtain⟨b',h2,_⟩:=Option.map_eq_some_iff.1 h;have:=zbF _ _ _ _ h2;simp[this]
  ·cases h
omit [jA]in
def zfa:∀(k1 ks:List Bool) (xs ys:List V) (b:Bool),uE (k1++ks) xs ys=some b→
  ∃b1 b2,uE k1 (xs.take k1.length) (ys.take k1.length)=some b1∧uE ks (xs.drop k1.length) (ys.drop k1.length)=some b2∧b=(bif b1 then b2 else false)
 | [],ks,xs,ys,b,h=>⟨true,b,by simp[uE],by simpa using h,rfl⟩
 | k :: k1,ks,xs,ys,b,h=>by
  rw[List.cons_append]at h;unfold uE at h;split at h
  ·rename_i h1;cases h1
  ·rename_i ks' j p xs' k' q ys' h1;cases h1;cases kZ:decide (j=k')
   ·simp[kZ]at h
   ·simp only[kZ,cond_true,Option.map_eq_some_iff]at h;obtain⟨b',h2,h3⟩:=h;obtain⟨b1,b2,e1,e2,e3⟩:=zfa _ _ _ _ _ h2;refine⟨bif p==q then b1 else false,b2,?_,by simpa using e2,?_⟩
    ·simp only[List.length_cons,List.take_succ_cons,uE,kZ,cond_true,e1,Option.map_some]
    ·rw[←h3,e3];cases(p==q)<;>cases b1<;>rfl
  ·rename_i ks' p xs' q ys' h1;cases h1;obtain⟨b',h2,h3⟩:=Option.map_eq_some_iff.1 h;obtain⟨b1,b2,e1,e2,e3⟩:=zfa _ _ _ _ _ h2;refine⟨bif p==q then b1 else false,b2,?_,by simpa using e2,?_⟩
   ·simp only[List.length_cons,List.take_succ_cons,uE,e1,Option.map_some]
   ·rw[←h3,e3];cases(p==q)<;>cases b1<;>rfl
  ·cases h
omit [jA]in
def zla{P:Program}{t:TypeId}(h1:gF P t=some true){n:Nat}(h2:sF P t=some n){vs:Array Value}{k:Nat}(hk:k+n≤vs.size):
  (part t vs k).run P w= .ok (.agg (vs.extract k (k+n))) w:=by
 have:¬vs.size<k+n:=by omega
 simp[part,bS h1,jL h2]
def ztm(n:Nat){P:Program}{bad:Nat→Prop}{t:TypeId}{gs:Array Field}(hu:P.underlying t=some (.struct gs))(T1:P.stoodInHeld t=false)(xs ys:Array Value)(ks:List Bool)(dxs dys:List V)(b:Bool)
  (hf:ZJ P 0 gs.toList=some ks) (he:uE ks dxs dys=some b) (hx:dxs.length=xs.size) (hy:dys.length=ys.size)
  (G0:∀j (hj:j<dxs.length),VR w ρ bad (xs.getD j undef) dxs[j]) (H0:∀j (hj:j<dys.length),VR w ρ bad (ys.getD j undef) dys[j]):
  (Op.equalIn (n+2) t (.agg xs) (.agg ys)).run P w= .ok b w:=by
 have MV:=ze2 _ _ _ hf;obtain⟨l1,l2⟩:=zbF _ _ _ _ he;have S0:=zl3 n (P:=P) (w:=w) xs ys gs.toList ks 0 dxs dys b hf he (by omega) (by omega) (by simpa using G0) (by simpa using H0);rw[Op.equalIn];simp only[Sem.run_bind,xF hu,Result.andThen_ok,run_program,T1,Bool.false_eq_true,if_false];rw[←Array.forIn_toList];change ((forIn gs.toList ((none,()):Option Bool×Unit) (sK (n+1) xs ys)).run P w).andThen _=_;rw[S0,Result.andThen_ok];cases b<;>simp
def zk3(n:Nat){P:Program}{bad:Nat→Prop}(xs ys:Array Value):∀(fl:List Field) (ks:List Bool) (k:Nat) (dxs dys:List V) (b:Bool),iM P k fl=some ks→uE ks dxs dys=some b→
  k+dxs.length≤xs.size→k+dys.length≤ys.size→(∀j (hj:j<dxs.length),VR w ρ bad (xs.getD (k+j) undef) dxs[j])→(∀j (hj:j<dys.length),VR w ρ bad (ys.getD (k+j) undef) dys[j])→
  (forIn fl ((none,()):Option Bool×Unit) (sK (n+2) xs ys)).run P w= .ok (bif b then(none,())else(some false,())) w
 | [],ks,k,dxs,dys,b,hf,he,_,_,_,_=>by
  simp only[iM,Option.some.injEq]at hf;subst hf;cases dxs<;>cases dys<;>simp[uE]at he
  subst he;simp
 | f :: fl,ks,k,dxs,dys,b,hf,he,hx,hy,G0,H0=>by
  simp only[iM]at hf
  cases hb : (f.name != "_" && Nat.beq f.offset k)
  case false=>simp[hb]at hf
  simp only[hb,cond_true]at hf;simp only[Bool.and_eq_true,bne_iff_ne,ne_eq]at hb;obtain⟨PW,EY⟩:=hb;have EY:=Nat.eq_of_beq_eq_true EY
  have main:∀(m:Nat) (ks':List Bool) (q b':Bool) (px py:Value),iM P (k+m) fl=some ks'→m≤dxs.length→m≤dys.length→
    (part f.type xs k).run P w= .ok px w→(part f.type ys k).run P w= .ok py w→
    (Op.equalIn (n+2) f.type px py).run P w= .ok q w→uE ks' (dxs.drop m) (dys.drop m)=some b'→b=(bif q then b' else false)→
    (forIn (f :: fl) ((none,()):Option Bool×Unit) (sK (n+2) xs ys)).run P w= .ok (bif b then(none,())else(some false,())) w:=λm ks' q b' px py XV hm1 A4 N9 O9 h1 h2 h3=>by
   have ih:=zk3 n xs ys fl ks' (k+m) (dxs.drop m) (dys.drop m) b' XV h2 (by simp;omega) (by simp;omega)
    (λj hj=>by have:=G0 (m+j) (by simp at hj;omega);rw[List.getElem_drop];rwa [show k+(m+j)=k+m+j by omega]at this)
    (λj hj=>by have:=H0 (m+j) (by simp at hj;omega);rw[List.getElem_drop];rwa [show k+(m+j)=k+m+j by omega]at this)
   rw[List.forIn_cons,Sem.run_bind]
   have hb:(sK (n+2) xs ys f (none,())).run P w= .ok (bif q then ForInStep.yield (none,())else ForInStep.done (some false,())) w:=by
    unfold sK;rw[if_pos PW,EY];simp only[Sem.run_bind,N9,O9,Result.andThen_ok,h1];cases q<;>simp
   rw[hb,Result.andThen_ok];subst h3;cases q with
   | false=>simp
   | true=>simpa using ih
  split at hf
  ·rename_i hu;split at hf
   case h_2=>cases hf
   rename_i ks' XV;cases hf;unfold uE at he;split at he
   ·simp_all
   ·simp_all
   ·rename_i ks'' p xs' q ys' h1;cases h1;obtain⟨b',h3,h4⟩:=Option.map_eq_some_iff.1 he;have nY:=G0 0 (by simp);have NY:=H0 0 (by simp);simp only[Nat.add_zero,List.getElem_cons_zero]at nY NY;have e1:xs.getD k undef= .bool p:=by generalize xs.getD k undef=v at nY;cases nY;rfl
    have e2:ys.getD k undef= .bool q:=by generalize ys.getD k undef=v at NY;cases NY;rfl
    have DW:gF P f.type=some false:=by simp[gF,hu]
    simp only[List.length_cons]at hx hy;exact main 1 ks' (p==q) b' _ _ XV (by simp) (by simp) (tO DW (show k<xs.size by omega)) (tO DW (show k<ys.size by omega)) (by rw[e1,e2];exact zkR (n+1) hu p q) (by simpa using h3) h4.symm
   ·cases he
  ·rename_i ki hu;split at hf
   case h_2=>cases hf
   rename_i ks' XV;cases hf;unfold uE at he;split at he
   ·simp_all
   ·rename_i ks'' j p xs' k' q ys' h1;cases h1
    by_cases kZ:j=k'
    case neg=>simp[kZ]at he
    subst kZ;simp only[decide_true,cond_true,Option.map_eq_some_iff]at he;obtain⟨b',h3,h4⟩:=he;have nY:=G0 0 (by simp);have NY:=H0 0 (by simp);simp only[Nat.add_zero,List.getElem_cons_zero]at nY NY;have e1:xs.getD k undef= .int j p:=by generalize xs.getD k undef=v at nY;cases nY;rfl
    have e2:ys.getD k undef= .int j q:=by generalize ys.getD k undef=v at NY;cases NY;rfl
    have DW:gF P f.type=some false:=by simp[gF,hu]
    simp only[List.length_cons]at hx hy;exact main 1 ks' (p==q) b' _ _ XV (by simp) (by simp) (tO DW (show k<xs.size by omega)) (tO DW (show k<ys.size by omega)) (by rw[e1,e2];exact zlt (n+1) hu j p q) (by simpa using h3) h4.symm
   ·rename_i h1;cases h1
   ·cases he
  ·rename_i gs hu;split at hf
   case h_2=>cases hf
   rename_i k1 XZ;cases hg:(!(P.stoodInHeld f.type)&&decide (sF P f.type=some k1.length))
   case false=>simp[hg]at hf
   simp only[hg,cond_true]at hf;simp only[Bool.and_eq_true,Bool.not_eq_true',decide_eq_true_eq]at hg;split at hf
   case h_2=>cases hf
   rename_i ks' XV;cases hf;obtain⟨b1,b2,e1,e2,e3⟩:=zfa _ _ _ _ _ he;obtain⟨l1,l2⟩:=zbF _ _ _ _ he;simp only[List.length_append]at l1 l2;have DW:gF P f.type=some true:=by simp[gF,hu]
   refine main k1.length ks' b1 b2 _ _ XV (by omega) (by omega) (zla DW hg.2 (by omega)) (zla DW hg.2 (by omega)) ?_ e2 e3;refine ztm n (ρ:=ρ) (bad:=bad) hu hg.1 _ _ k1 _ _ b1 XZ e1 (by simp;omega) (by simp;omega) (λj hj=>?_) (λj hj=>?_)
   ·have:=G0 j (by simp at hj;omega);rw[List.getElem_take];rw[Array.getD_eq_getD_getElem?]at this⊢;have hq:k+j<xs.size:=by simp at hj;omega
    rw[Array.getElem?_extract_of_lt (by simp at hj;omega)];simpa[Array.getElem?_eq_getElem hq]using this
   ·have:=H0 j (by simp at hj;omega);rw[List.getElem_take];rw[Array.getD_eq_getD_getElem?]at this⊢;have hq:k+j<ys.size:=by simp at hj;omega
    rw[Array.getElem?_extract_of_lt (by simp at hj;omega)];simpa[Array.getElem?_eq_getElem hq]using this
  ·cases hf
variable {o:Oper} {i:Nat} (hr:ZA C w0 outer own ρ st a w)
include hr
def zvi(op:BinOp)(t t':TypeId)(x y:Operand)(ho:o.op= .binOp op t x y t')(hk:qB C i o st some=some st'):NC C.P o a w (JC C w0 outer own i ρ st'):=by
 simp only[qB,ho]at hk;have hx:=hr.opd x;have hy:=hr.opd y;split at hk
 ·rename_i dxs dys h1 h2;rw[h1]at hx;rw[h2]at hy;split at hk
  case h_2=>cases hk
  rename_i ks yY;split at hk
  case h_2=>cases hk
  rename_i b hb;unfold zkh at yY;split at yY
  case h_2=>cases yY
  rename_i fs hu;cases hg:(!(C.P.stoodInHeld t)&&!(C.P.eqGuardType C.P.depth t))
  case false=>simp[hg]at yY
  simp only[hg,cond_true]at yY;simp only[Bool.and_eq_true,Bool.not_eq_true']at hg;cases tW:a.eval x<;>rw[tW]at hx<;>cases hx
  cases I3:a.eval y<;>rw[I3]at hy<;>cases hy
  rename_i xs L5 z4 ys M8 GZ;have S0:=zk3 9997 (P:=C.P) (w:=w) xs ys fs.toList ks 0 dxs dys b yY hb (by omega) (by omega) (by simpa using z4) (by simpa using GZ)
  have heq:(Op.equal t (.agg xs) (.agg ys)).run C.P w= .ok b w:=by
   unfold Op.equal Op.maxDepth;rw[Op.equalIn];simp only[Sem.run_bind,xF hu,Result.andThen_ok,run_program,hg.1,Bool.false_eq_true,if_false];rw[←Array.forIn_toList];change ((forIn fs.toList ((none,()):Option Bool×Unit) (sK 9999 xs ys)).run C.P w).andThen _=_;rw[S0,Result.andThen_ok];cases b<;>simp
  have B4:∀op',(eqGuard op' t x y (.agg xs) (.agg ys)).run C.P w= .ok () w:=λop'=>by
   unfold eqGuard;split<;>simp[hg.2]
  cases op<;>first
   | (cases hk;done)
   | (refine nC (w':=w) ?_ (hr.after (.bool _) hk)
      simp[execOp,ho,tW,I3,B4,binOp,heq];done)
 ·rename_i p q h1 h2;rw[h1]at hx;rw[h2]at hy;split at hk
  case h_2=>cases hk
  rename_i hu;cases tW:a.eval x<;>rw[tW]at hx<;>cases hx
  cases I3:a.eval y<;>rw[I3]at hy<;>cases hy
  have heq:(Op.equal t (.bool p) (.bool q)).run C.P w= .ok (p==q) w:=by
   unfold Op.equal Op.maxDepth;rw[Op.equalIn];simp[xF hu]
  cases op<;>first
   | (cases hk;done)
   | (refine nC (w':=w) ?_ (hr.after (.bool _) hk)
      simp[execOp,ho,tW,I3,eqGuard,binOp,heq];done)
 ·rename_i b h1 h2;rw[h1]at hx;rw[h2]at hy;split at hk
  case h_2=>cases hk
  rename_i hu
  have heq:(Op.equal t (a.eval x) .nilIface).run C.P w= .ok b w:=by
   unfold Op.equal Op.maxDepth;cases tW:a.eval x<;>rw[tW]at hx<;>cases hx<;>rw[Op.equalIn]<;>simp[xF hu]
  cases I3:a.eval (.const _)<;>rw[I3]at hy<;>cases hy
  cases tW:a.eval x<;>rw[tW]at hx heq<;>cases hx<;>cases op<;>first
   | (cases hk;done)
   | (refine nC (w':=w) ?_ (hr.after (.bool _) hk)
      simp[execOp,ho,tW,I3,eqGuard,binOp,heq];done)
 ·obtain⟨d,v,h3,h4,h5⟩:=zwt (C:=C) hx hy hk (t:=t) x y;refine nC (v:=v) (w':=w) ?_ (hr.after h4 h3)
  have P9:((eqGuard op t x y (a.eval x) (a.eval y)).run C.P w).andThen (λ_ w'=>(binOp op t (a.eval x) (a.eval y)).run C.P w')= .ok v w:=by
   rw[←Sem.run_bind];exact h5
  simp only[execOp,ho,Sem.run_bind,Sem.run_pure];rw[P9];rfl
end
end Go.D
namespace Go.D
variable [jA]
section
variable {C:Cx} {w0:World} {outer own:Nat→Prop} {ρ:Nat→Option RI} {st st':St} {a:Act} {w:World} {h:Nat→Option uA}
def VR.ow_inv{bad:Nat→Prop}{v:Value}{r:Nat}{ri:RI}(h:VR w ρ bad v (.ow r))(hρ:ρ r=some ri):
  (v= .slice (some (at_ ri.b 0)) ri.n ri.cap∧ri.nl=false∧ri.n≤ri.cap∧ri.cap≤maxLen)∨(∃ao,v= .slice ao 0 0∧ri.nl=true∧ri.n=0):=by
 cases h with
 | ow _ ri' h1 h2 h3 h4=>rw[hρ]at h1;cases h1;exact .inl ⟨rfl,h4,h2,h3⟩
 | owN _ ri' ao h1 h2 h3=>rw[hρ]at h1;cases h1;exact .inr ⟨ao,rfl,h3,h2⟩
def VR.ov_inv{bad:Nat→Prop}{v:Value}{r off len:Nat}{t:TN}{ri:RI}(h:VR w ρ bad v (.ov r t off len))(hρ:ρ r=some ri):
  ∃ao cap,v= .slice ao len cap∧off+len≤ri.n∧(len=0∧cap=0∨ao=some (at_ ri.b (off *sz t))∧ri.nl=false∧off+cap≤ri.cap)∧len≤cap∧cap≤maxLen:=by
 cases h with
 | ov _ _ _ _ cap ao ri' h1 h2 h3 h4 h5=>rw[hρ]at h1;cases h1;exact⟨ao,cap,rfl,h2,h3,h4,h5⟩
def VR.ov_row{bad:Nat→Prop}{v:Value}{r off len:Nat}{t:TN}(h:VR w ρ bad v (.ov r t off len)):∃ri,ρ r=some ri:=by
 cases h with
 | ov _ _ _ _ cap ao ri' h1 h2 h3 h4 h5=>exact⟨_,h1⟩
def VR.bp_inv{bad:Nat→Prop}{v:Value}{r off:Nat}(h:VR w ρ bad v (.bp r off)):∃ri,ρ r=some ri∧v= .pointer (some (at_ ri.b off))∧ri.nl=false:=by
 cases h with
 | bp _ _ ri h1 h2=>exact⟨ri,h1,rfl,h2⟩
def VR.sl_inv{bad:Nat→Prop}{v:Value}{t:TN}{l:List (El t)}(h:VR w ρ bad v (.sl t l)):
  ∃ao cap,v= .slice ao l.length cap∧l.length≤cap∧cap≤maxLen∧(l=[]∨∃b off,ao=some (at_ b off)∧¬bad b∧
   ∀i (hi:i<l.length) j,j<sz t→∃u,w.cell? (at_ b (off+i *sz t+j))=some u∧VR w ρ bad u ((enc t l[i]).getD j .undef)):=by
 cases h with
 | slE _ ao cap h=>exact⟨ao,cap,rfl,Nat.zero_le _,h, .inl rfl⟩
 | slC _ _ b off cap u hb hl hc he hu hv=>exact⟨_,cap,rfl,hl,hc, .inr ⟨b,off,rfl,hb,λi hi j hj=>⟨_,hu i hi j hj,hv i hi j hj⟩⟩⟩
def VR.sl_inv2{bad:Nat→Prop}{v:Value}{t:TN}{l:List (El t)}(h:VR w ρ bad v (.sl t l)):
  ∃ao cap,v= .slice ao l.length cap∧l.length≤cap∧cap≤maxLen∧(l=[]∨∃b off,ao=some (at_ b off)∧(b<jA.base∨MF w b t)∧¬bad b∧
   ∀i (hi:i<l.length) j,j<sz t→∃u,w.cell? (at_ b (off+i *sz t+j))=some u∧VR w ρ bad u ((enc t l[i]).getD j .undef)):=by
 cases h with
 | slE _ ao cap h=>exact⟨ao,cap,rfl,Nat.zero_le _,h, .inl rfl⟩
 | slC _ _ b off cap u hb hl hc he hu hv=>
  grind
def VR.int_inv{bad:Nat→Prop}{v:Value}{k:IntKind}{n:Int}(h:VR w ρ bad v (.int k n)):v= .int k n∧yE k n:=by
 cases h with
 | int _ _ h=>exact⟨rfl,h⟩
def VR.str_inv{bad:Nat→Prop}{v:Value}{s:List UInt8}(h:VR w ρ bad v (.str s)):v= .string ⟨s.toArray⟩∧s.length≤maxLen:=by
 cases h with
 | str _ h=>exact⟨rfl,h⟩
def zdn{e:TypeId}{t:TN}(hC:UF C)(h:UH C e t=true):sF C.P e=some (sz t):=by
 unfold UH at h;split at h
 ·rename_i t' h1;have:t'=t:=by simpa using h
  subst this;obtain⟨i,z,h2,h3,_⟩:=hC.ok e t' h1;simp[sF,h2,h3]
 ·cases h
omit [jA]in
def zkx{α:Type}{l:List α}{n:Int}{x:α}(h:kA l n=some x):0≤n∧∃hk:n.toNat<l.length,l[n.toNat]=x:=by
 unfold kA at h
 grind
omit [jA]in
def zfR{t e:TypeId}{s:Nat}{b off len cap:Nat}{k:IntKind}{n:Int}(hu:C.P.underlying t=some (.slice e))(hs:sF C.P e=some s)(h0:0≤n)(h1:n<(len:Int)):
  (Instr.indexAt t (.slice (some (at_ b off)) len cap) (.int k n)).run C.P w= .ok (.pointer (some (at_ b (off+n.toNat *s)))) w:=by
 simp[Instr.indexAt,asIntOf,xF hu,h0,h1,jL hs,vG]
omit [jA]in
def zgj{R:Type}{f:Nat→Option R}{i:Int}{r:R}:∀(n k:Nat),pJ f i k n=some r→∃j,i=((k+j:Nat):Int)∧j<n∧f (k+j)=some r
 | 0,k,h=>by simp[pJ]at h
 | n+1,k,h=>by
  simp only[pJ]at h;cases hb:(i==(k:Int))
  ·simp only[hb,cond_false]at h;obtain⟨j,h1,h2,h3⟩:=zgj n (k+1) h;exact⟨j+1,by rw[h1];congr 1;omega,by omega,by rw[show k+(j+1)=k+1+j by omega];exact h3⟩
  ·simp only[hb,cond_true]at h;exact⟨0,by simpa using hb,by omega,by simpa using h⟩
variable {o:Oper} {i:Nat} (hr:ZA C w0 outer own ρ st a w)
include hr
def zrO(hC:UF C)(t:TypeId)(x y:Operand)(ho:o.op= .indexAddr t x y)(hk:qB C i o st some=some st'):NC C.P o a w (JC C w0 outer own i ρ st'):=by
 simp only[qB,ho]at hk;have hx:=hr.opd x;have hy:=hr.opd y;split at hk
 case h_2=>cases hk
 rename_i kk n d6;rw[d6]at hy;have GZ:=hy.int_inv.1;split at hk
 ·rename_i e t' l hu kW;rw[kW]at hx;cases dX:UH C e t'
  case false=>simp[dX]at hk
  simp only[dX,aD,Option.bind_eq_some_iff]at hk;obtain⟨z,hz,hk⟩:=hk;obtain⟨h0,OV,rfl⟩:=zkx hz;have YV:=zdn hC dX;obtain⟨ao,cap,tW,_,_,hl⟩:=hx.sl_inv
  rcases hl with rfl | ⟨b,off,rfl,hb,eW⟩
  ·simp at OV
  ·refine nC (v:= .pointer (some (at_ b (off+n.toNat *sz t')))) (w':=w) ?_ (hr.after ?_ hk)
   ·simp[execOp,ho,tW,GZ,zfR hu YV h0 (show n<(l.length:Int) by omega)]
   ·have:=VR.fp (w:=w) (ρ:=ρ) (bad:=tA outer ρ st.h) (enc t' l[n.toNat]) 0 b (off+n.toNat *sz t') (λj=>(w.cell? (at_ b (off+n.toNat *sz t'+j))).getD undef) (by rw[oD];exact FO _) hb
     (fun j hj=>by
      rw[oD]at hj;obtain⟨u,h1,_⟩:=eW _ OV j hj;rw[h1];rfl)
     (fun j hj=>by
      obtain⟨u,h1,h2⟩:=eW _ OV j (by rw[←oD t' l[n.toNat]];exact hj);rw[h1,Option.getD_some];rwa [VS _ _ _ hj]at h2)
    grind
 ·rename_i e r hu kW;rw[kW]at hx;split at hk
  case h_2=>cases hk
  rename_i t' l m JV;cases dX:UH C e t'
  case false=>simp[dX]at hk
  simp only[dX,aD]at hk;cases hb:(decide (0≤n)&&decide (n<(l.length:Int)))
  case false=>simp[hb]at hk
  simp only[hb,cond_true]at hk;simp only[Bool.and_eq_true,decide_eq_true_eq]at hb;have YV:=zdn hC dX;obtain⟨ri,hρ,ZV⟩:=tJ hr JV;have jZ:ri.n=l.length:=ZV.1
  rcases hx.ow_inv hρ with⟨tW,lW,_,_⟩ | ⟨ao,tW,lW,U1⟩
  ·have IV:=zfR (w:=w) (cap:=ri.cap) (b:=ri.b) (off:=0) (k:=kk) hu YV hb.1 (show n<(ri.n:Int) by omega);refine nC (v:= .pointer (some (at_ ri.b (0+n.toNat *sz t')))) (w':=w) ?_ (hr.after ?_ hk)
   ·simp[execOp,ho,tW,GZ,IV]
   ·rw[Nat.zero_add];exact .ep _ _ _ 0 _ hρ lW
  ·omega
 ·rename_i e r t' off len hu kW;rw[kW]at hx;cases dX:UH C e t'
  case false=>simp[dX]at hk
  simp only[dX,aD]at hk;cases hb:(decide (0≤n)&&decide (n<(len:Int)))
  case false=>simp[hb]at hk
  simp only[hb,cond_true]at hk;simp only[Bool.and_eq_true,decide_eq_true_eq]at hb;have YV:=zdn hC dX;obtain⟨ri,hρ⟩:=hx.ov_row;obtain⟨ao,cap,tW,_,hao,_,_⟩:=hx.ov_inv hρ
  rcases hao with⟨h0,_⟩ | ⟨rfl,lW,_⟩
  ·omega
  ·have IV:=zfR (w:=w) (cap:=cap) (b:=ri.b) (off:=off *sz t') (k:=kk) hu YV hb.1 hb.2;refine nC (v:= .pointer (some (at_ ri.b (off *sz t'+n.toNat *sz t')))) (w':=w) ?_ (hr.after ?_ hk)
   ·simp[execOp,ho,tW,GZ,IV]
   ·rw[←Nat.add_mul];exact .ep _ _ _ 0 _ hρ lW
 ·rename_i m e r o1 hu kW;rw[kW]at hx;split at hk
  case h_2=>cases hk
  rename_i YV;obtain⟨j,mX,aX,hk⟩:=zgj _ _ hk;rw[Nat.zero_add]at mX hk;obtain⟨ri,hρ,tW,lW⟩:=hx.bp_inv;refine nC (v:= .pointer (some (at_ ri.b (o1+j)))) (w':=w) ?_ (hr.after (.bp _ _ _ hρ lW) hk);have h0:0≤n:=by omega
  have h1:n<(m:Int):=by omega
  have h2:n.toNat=j:=by omega
  simp[execOp,ho,tW,GZ,Instr.indexAt,asIntOf,xF hu,Instr.sureAddr,h0,h1,jL YV,vG,h2]
 ·cases hk
def zuF(t:TypeId)(x y:Operand)(ho:o.op= .index t x y)(hk:qB C i o st some=some st'):NC C.P o a w (JC C w0 outer own i ρ st'):=by
 simp only[qB,ho]at hk;have hx:=hr.opd x;have hy:=hr.opd y;split at hk
 ·rename_i kk n s d6 hu kW;rw[kW]at hx;rw[d6]at hy;have GZ:=hy.int_inv.1;obtain⟨tW,L2⟩:=hx.str_inv;obtain⟨z,hz,hk⟩:=Option.bind_eq_some_iff.1 hk;obtain⟨h0,OV,rfl⟩:=zkx hz;refine nC (v:= .int .u8 (s[n.toNat].toNat:Int)) (w':=w) ?_ (hr.after (.int _ _ ?_) hk)
  ·have h1:n.toNat<(⟨s.toArray⟩:ByteArray).size:=by simpa[ByteArray.size]using OV
   simp[execOp,ho,tW,GZ,Instr.index,asIntOf,xF hu,h0,ByteArray.getElem?_lt' _ _ h1];rfl
  ·have:=s[n.toNat].toNat_lt;simp only[yE,IntKind.min,IntKind.max,IntKind.signed,IntKind.bits];simp;omega
 ·rename_i kk n m e cs d6 hu kW;rw[kW]at hx;rw[d6]at hy;have GZ:=hy.int_inv.1;split at hk
  case h_2=>cases hk
  rename_i YV DW;obtain⟨j,mX,aX,hk⟩:=zgj _ _ hk;rw[Nat.zero_add]at mX hk;split at hk
  case h_2=>cases hk
  rename_i c r' hd
  have OV:j<cs.length:=by
   rcases Nat.lt_or_ge j cs.length with h | h
   ·exact h
   ·rw[List.drop_eq_nil_of_le h]at hd;cases hd
  have o4:cs[j]=c:=by
   rw[List.drop_eq_getElem_cons OV]at hd;exact(List.cons.inj hd).1
  cases tW:a.eval x<;>rw[tW]at hx<;>cases hx
  rename_i vs hs hv;have h3:=hv j OV;rw[o4]at h3;have h0:0≤n:=by omega
  have h1:n<(m:Int):=by omega
  have h2:n.toNat=j:=by omega
  refine nC (v:=vs.getD j undef) (w':=w) ?_ (hr.after h3 hk);simp[execOp,ho,tW,GZ,Instr.index,asIntOf,xF hu,h0,h1,jL YV,h2,tO (P:=C.P) (w:=w) DW (show j<vs.size by omega)]
 ·cases hk
end
end Go.D
namespace Go.D
variable [jA]
section
variable {C:Cx} {w0:World} {outer own:Nat→Prop} {ρ:Nat→Option RI} {st st':St} {a:Act} {w:World} {h:Nat→Option uA}
omit [jA]in
def gS{α:Type}{xs:Array α}{l:List α}(h:xs.toList=l):xs=l.toArray:=by subst h;simp
def rB.move(hh:rB w0 outer own ρ h w){r i:Nat}{c:uF}{ri ri':RI}(hr:h r=some ⟨c, .own⟩)(hρ:ρ r=some ri)(hn:ri.nl=false)(hi:ρ i=none)
  (hb:ri'.b=ri.b) (hn':ri'.nl=false) (w':World)
  (EZ:Wx w w') (YV:w'.heap.size=w.heap.size) (hw:∀b,b≠ri.b→w'.heap[b]?=w.heap[b]?) (c':uF)
  (hc:∀bad,(∀u d,VR w ρ (tA outer ρ h) u d→VR w' (CA ρ i (some ri')) bad u d)→gE w' (CA ρ i (some ri')) bad ri' c'):
  rB w0 outer own (CA ρ i (some ri')) (CA (CA h r none) i (some ⟨c', .own⟩)) w'∧
   ∀u d,VR w ρ (tA outer ρ h) u d→VR w' (CA ρ i (some ri')) (tA outer (CA ρ i (some ri')) (CA (CA h r none) i (some ⟨c', .own⟩))) u d:=by
 have hir:i≠r:=by rintro rfl;simp[hρ]at hi
 have hρ':∀q qi,ρ q=some qi→CA ρ i (some ri') q=some qi:=λq qi hq=>by
  rw[DA];exact hq;rintro rfl;simp[hi]at hq
 have B3:tA outer ρ h ri.b:= .inr ⟨r,_,ri,hr,rfl,hρ,hn,rfl⟩
 have JV:∀q row,q≠i→CA (CA h r none) i (some ⟨c', .own⟩) q=some row→q≠r∧h q=some row:=λq row C4 hq=>by
  rw[DA _ _ _ _ C4]at hq
  by_cases mW:q=r
  ·subst mW;rw[RA]at hq;cases hq
  ·rw[DA _ _ _ _ mW]at hq;exact⟨mW,hq⟩
 have bW:∀b,tA outer (CA ρ i (some ri')) (CA (CA h r none) i (some ⟨c', .own⟩)) b→tA outer ρ h b:=by
  rintro b (LX | ⟨q,row,qi,h1,h2,h3,h4,h5⟩)
  ·exact .inl LX
  ·by_cases hq:q=i
   ·subst hq;rw[RA]at h3;cases h3
    grind
   ·rw[DA _ _ _ _ hq]at h3;exact .inr ⟨q,row,qi,(JV q row hq h1).2,h2,h3,h4,h5⟩
 have hv:∀u d,VR w ρ (tA outer ρ h) u d→VR w' (CA ρ i (some ri')) (tA outer (CA ρ i (some ri')) (CA (CA h r none) i (some ⟨c', .own⟩))) u d:=λu d hu=>
  hu.mono hρ' (λb hb _=>hw b λe=>hb (e▸B3)) λb hb=> .inl (bW b hb)
 obtain⟨ri2,h6,_,h7⟩:=hh.rows r _ hr;rw[hρ]at h6;cases h6;refine⟨⟨hh.wx.trans EZ,λb LX ho=>?_,hh.outLt,?_,?_⟩,hv⟩
 ·refine(hw b ?_).trans (hh.old b LX ho);rintro rfl
  rcases(h7 hn).1.2 rfl with h8 | h8
  ·omega
  ·exact ho h8
 ·intro q row hq
  by_cases C4:q=i
  ·subst C4;rw[RA]at hq;cases hq;exact⟨ri',RA _ _ _,hc _ hv,λ_=>by rw[hb,YV];exact h7 hn⟩
  ·obtain⟨mW,hq⟩:=JV q row C4 hq;obtain⟨qi,h1,h2,h3⟩:=hh.rows q row hq;refine⟨qi,hρ' q qi h1,h2.keep (λd4=>hw _ ?_) hv,λd4=>by rw[YV];exact h3 d4⟩;intro e;exact mW (hh.inj q r row _ qi ri hq hr h1 hρ d4 hn e)
 ·intro q q' row row' qi qi' h1 h2 h3 h4 h5 h6 h7
  by_cases hq:q=i<;>by_cases mY:q'=i
  ·rw[hq,mY]
  ·subst hq;rw[RA]at h3;cases h3;obtain⟨mW,h2⟩:=JV q' row' mY h2;rw[DA _ _ _ _ mY]at h4;exact absurd (hh.inj q' r row' _ qi' ri h2 hr h4 hρ h6 hn (by rw[←h7,hb])) mW
  ·subst mY;rw[RA]at h4;cases h4;obtain⟨mW,h1⟩:=JV q row hq h1;rw[DA _ _ _ _ hq]at h3;exact absurd (hh.inj q r row _ qi ri h1 hr h3 hρ h5 hn (by rw[h7,hb])) mW
  ·obtain⟨_,h1⟩:=JV q row hq h1;obtain⟨_,h2⟩:=JV q' row' mY h2;rw[DA _ _ _ _ hq]at h3;rw[DA _ _ _ _ mY]at h4;exact hh.inj q q' row row' qi qi' h1 h2 h3 h4 h5 h6 h7
variable {o:Oper} {i:Nat} (hr:ZA C w0 outer own ρ st a w)
omit [jA]in
def zt8{n:Nat}(h:n≤maxLen):yE .i64 (n:Int):=by
 unfold maxLen at h;simp only[yE,IntKind.min,IntKind.max,IntKind.signed,IntKind.bits];simp;omega
include hr
def zk7{d:V}{v:Value}{n:Nat}(hv:VR w ρ (tA outer ρ st.h) v d)(hn:TM st.h d=some n):
  n≤maxLen∧((∃ao cap,v= .slice ao n cap∧n≤cap)∨∃s,d= .str s∧v= .string ⟨s.toArray⟩∧n=s.length):=by
 unfold TM at hn;split at hn
 ·cases hn;obtain⟨ao,cap,h1,h2,h3,_⟩:=hv.sl_inv
  grind
 ·cases hn;cases hv
  grind
 ·cases hn;obtain⟨h1,h2⟩:=hv.str_inv
  grind
 ·split at hn
  case h_2=>cases hn
  rename_i t l m JV;cases hn;obtain⟨ri,hρ,ZV⟩:=tJ hr JV;have jZ:ri.n=l.length:=ZV.1
  rcases hv.ow_inv hρ with⟨h1,h2,h3,h4⟩ | ⟨ao,h1,h2,h3⟩
  ·grind
  grind
 ·cases hn;obtain⟨ri,hρ⟩:=hv.ov_row;obtain⟨ao,cap,h1,_,_,h2,h3⟩:=hv.ov_inv hρ
  grind
 ·cases hn
def zwF(args:Array Operand)(argTypes:Array TypeId)(ho:o.op= .call {callee:= .builtin .len,args,argTypes})(hk:qB C i o st some=some st'):NC C.P o a w (JC C w0 outer own i ρ st'):=by
 simp only[qB,ho]at hk;split at hk
 case h_2=>cases hk
 rename_i x t FW D4;split at hk
 case h_2=>cases hk
 rename_i d n hu MV;cases NX:zdl d (opd st.s x)
 case false=>simp[NX]at hk
 simp only[NX,aD]at hk;obtain⟨VZ,hl⟩:=zk7 hr (hr.opd x) MV;have e1:=gS FW;have e2:=gS D4;subst e1 e2;refine nC (v:= .int .i64 (n:Int)) (w':=w) ?_ (hr.after (.int _ _ (zt8 VZ)) hk)
 rcases hl with⟨ao,cap,h1,_⟩ | ⟨s,h0,h1,h2⟩
 ·have hd:∃e,d= .slice e:=by
   unfold zdl at NX;split at NX<;>first | exact⟨_,rfl⟩ | skip
   ·rename_i s kW;have:=hr.opd x;rw[kW]at this;rw[this.str_inv.1]at h1;cases h1
   ·cases NX
  obtain⟨e,rfl⟩:=hd;simp[execOp,ho,resolve,invoke,builtin,Builtin.len_,xF hu,h1,goInt]
 ·have hd:d= .string:=by
   rw[h0]at NX;unfold zdl at NX
   grind
  subst hd;have IX:(⟨s.toArray⟩:ByteArray).size=s.length:=by simp[ByteArray.size]
  simp[execOp,ho,resolve,invoke,builtin,Builtin.len_,xF hu,h1,h2,IX,goInt]
def zw3(args:Array Operand)(argTypes:Array TypeId)(ho:o.op= .call {callee:= .builtin .min,args,argTypes})(hk:qB C i o st some=some st'):NC C.P o a w (JC C w0 outer own i ρ st'):=by
 simp only[qB,ho]at hk;split at hk
 case h_2=>cases hk
 rename_i k p k' q FW
 by_cases WZ:k=k'
 case neg=>simp[WZ]at hk
 subst WZ;simp only[decide_true,cond_true]at hk;obtain⟨x,xs,L5,h1,h2⟩:=List.map_eq_cons_iff.1 FW;obtain⟨y,ys,M8,h3,h4⟩:=List.map_eq_cons_iff.1 h2;have h5:=List.map_eq_nil_iff.1 h4;subst h5 M8;have e1:=gS L5;subst e1;have hx:=hr.opd x;rw[h1]at hx;have hy:=hr.opd y;rw[h3]at hy;refine nC (v:= .int k (if q<p then q else p)) (w':=w) ?_ (hr.after (.int _ _ (by split;exact hy.int_inv.2;exact hx.int_inv.2)) hk);simp[execOp,ho,resolve,invoke,builtin,Builtin.min_,hx.int_inv.1,hy.int_inv.1,Builtin.min2]
def zxb(args:Array Operand)(argTypes:Array TypeId)(ho:o.op= .call {callee:= .builtin .max,args,argTypes})(hk:qB C i o st some=some st'):NC C.P o a w (JC C w0 outer own i ρ st'):=by
 simp only[qB,ho]at hk;split at hk
 case h_2=>cases hk
 rename_i k p k' q FW
 by_cases WZ:k=k'
 case neg=>simp[WZ]at hk
 subst WZ;simp only[decide_true,cond_true]at hk;obtain⟨x,xs,L5,h1,h2⟩:=List.map_eq_cons_iff.1 FW;obtain⟨y,ys,M8,h3,h4⟩:=List.map_eq_cons_iff.1 h2;have h5:=List.map_eq_nil_iff.1 h4;subst h5 M8;have e1:=gS L5;subst e1;have hx:=hr.opd x;rw[h1]at hx;have hy:=hr.opd y;rw[h3]at hy;refine nC (v:= .int k (if q>p then q else p)) (w':=w) ?_ (hr.after (.int _ _ (by split;exact hy.int_inv.2;exact hx.int_inv.2)) hk);simp[execOp,ho,resolve,invoke,builtin,Builtin.max_,hx.int_inv.1,hy.int_inv.1,Builtin.max2]
end
end Go.D
namespace Go.D
variable [jA]
section
variable {C:Cx} {w0:World} {outer own:Nat→Prop} {ρ:Nat→Option RI} {st st':St} {a:Act} {w:World} {h:Nat→Option uA}
def uO(w:World)(ρ:Nat→Option RI)(bad:Nat→Prop)(t:TN)(l:List (El t))(cs:List Value):Prop:=
 cs.length=l.length *sz t∧∀i (hi:i<l.length) j,j<sz t→∃u,cs[i *sz t+j]?=some u∧VR w ρ bad u ((enc t l[i]).getD j .undef)
omit [jA]in
def zkb{n k m:Nat}(hm:0<m)(h:k<n *m):k / m<n∧k % m<m∧k / m *m+k % m=k:=
 ⟨(Nat.div_lt_iff_lt_mul hm).2 h,Nat.mod_lt _ hm,by rw[Nat.mul_comm];exact Nat.div_add_mod k m⟩
def uO.one{bad:Nat→Prop}{t:TN}{l:List (El t)}{cs:List Value}(h:uO w ρ bad t l cs):∀u∈cs,u.oneCell'=true:=by
 intro u hu;obtain⟨k,hk,rfl⟩:=List.mem_iff_getElem.1 hu;obtain⟨h1,h2,h3⟩:=zkb (FO t) (by rw[←h.1];exact hk);obtain⟨u,h4,h5⟩:=h.2 _ h1 _ h2;rw[h3,List.getElem?_eq_getElem hk]at h4;cases h4;exact h5.one (ziO _ _ _ h2)
def YN(w:World)(b off n:Nat):List Value:=(List.range n).map λk=>(w.cell? (at_ b (off+k))).getD undef
omit [jA]in
def ziP(w:World)(b off n:Nat):(YN w b off n).length=n:=by simp[YN]
omit [jA]in
def zi1(w:World)(b off n k:Nat)(hk:k<n):(YN w b off n)[k]?=some ((w.cell? (at_ b (off+k))).getD undef):=by
 simp[YN,hk]
def zkn{bad:Nat→Prop}{t:TN}{l:List (El t)}{b off:Nat}
  (hv:∀i (hi:i<l.length) j,j<sz t→∃u,w.cell? (at_ b (off+i *sz t+j))=some u∧VR w ρ bad u ((enc t l[i]).getD j .undef)):
  uO w ρ bad t l (YN w b off (l.length *sz t))∧∀j u,(YN w b off (l.length *sz t))[j]?=some u→w.cell? ((at_ b off).add j)=some u:=by
 refine⟨⟨ziP _ _ _ _,λi hi j hj=>?_⟩,λk u hk=>?_⟩
 ·obtain⟨u,h1,h2⟩:=hv i hi j hj
  have OV:i *sz t+j<l.length *sz t:=by
   have:(i+1) *sz t≤l.length *sz t:=Nat.mul_le_mul_right _ hi;rw[Nat.add_mul,Nat.one_mul]at this;omega
  refine⟨u,?_,h2⟩;rw[zi1 _ _ _ _ _ OV, ←Nat.add_assoc,h1];rfl
 ·have OV:k<l.length *sz t:=by
   rcases Nat.lt_or_ge k (l.length *sz t)with h | h
   ·exact h
   ·rw[List.getElem?_eq_none (by rw[ziP];exact h)]at hk;cases hk
  obtain⟨h1,h2,h3⟩:=zkb (FO t) OV;obtain⟨u',h4,_⟩:=hv _ h1 _ h2;rw[Nat.add_assoc,h3]at h4;rw[zi1 _ _ _ _ _ OV,h4]at hk;rw[vG,h4];exact hk
omit [jA]in
def ziZ{α:Type}(l:List α)(off len i:Nat)(h:off+len≤l.length)(hi:i<((l.drop off).take len).length):((l.drop off).take len)[i]=l[off+i]'(by simp at hi;omega):=by simp
variable {o:Oper} {i:Nat} (hr:ZA C w0 outer own ρ st a w)
include hr
def zln{tn:TN}{v:Value}{d:V}{m:List (El tn)}(hv:VR w ρ (tA outer ρ st.h) v d)(hm:FV st.h tn d=some m):
  ∃ao cap,v= .slice ao m.length cap∧(m=[]∨∃b off,ao=some (at_ b off)∧
   ∀i (hi:i<m.length) j,j<sz tn→∃u,w.cell? (at_ b (off+i *sz tn+j))=some u∧VR w ρ (tA outer ρ st.h) u ((enc tn m[i]).getD j .undef)):=by
 have mk:∀(ao:Option Addr) (cap:Nat),v= .slice ao m.length cap→(m=[]∨∃b off,ao=some (at_ b off)∧
   ∀i (hi:i<m.length) j,j<sz tn→∃u,w.cell? (at_ b (off+i *sz tn+j))=some u∧VR w ρ (tA outer ρ st.h) u ((enc tn m[i]).getD j .undef))→
   ∃ao cap,v= .slice ao m.length cap∧(m=[]∨∃b off,ao=some (at_ b off)∧
   ∀i (hi:i<m.length) j,j<sz tn→∃u,w.cell? (at_ b (off+i *sz tn+j))=some u∧VR w ρ (tA outer ρ st.h) u ((enc tn m[i]).getD j .undef)):=λao cap h1 h2=>⟨ao,cap,h1,h2⟩
 unfold FV at hm;split at hm
 ·rename_i t' l;split at hm
  case isFalse=>cases hm
  rename_i e1;subst e1;simp only[GM,Option.some.injEq]at hm;subst hm;obtain⟨ao,cap,h1,_,_,h4⟩:=hv.sl_inv;refine mk ao cap h1 ?_
  rcases h4 with h4 | ⟨b,off,h5,_,h6⟩
  ·exact .inl h4
  ·exact .inr ⟨b,off,h5,h6⟩
 ·cases hm;cases hv;exact mk none 0 rfl (.inl rfl)
 ·rename_i r;split at hm
  case h_2=>cases hm
  rename_i t' l mo JV;split at hm
  case isFalse=>cases hm
  rename_i e1;subst e1;simp only[GM,Option.some.injEq]at hm;subst hm;obtain⟨ri,hρ,ZV⟩:=tJ hr JV;have jZ:ri.n=l.length:=ZV.1
  rcases hv.ow_inv hρ with⟨h1,h2,h3,h4⟩ | ⟨ao,h1,h2,h3⟩
  ·refine mk _ ri.cap (by rw[←jZ];exact h1) ?_
   rcases ZV.2 with h5 | ⟨_,_,_,_,_,h6⟩
   ·exact .inl h5.2
   ·exact .inr ⟨ri.b,0,rfl,λi hi j hj=>by rw[Nat.zero_add];exact h6 i hi j hj⟩
  ·have:l=[]:=List.eq_nil_of_length_eq_zero (by omega);exact mk ao 0 (by rw[this];exact h1) (.inl this)
 ·rename_i r t0 off len;split at hm
  case h_2=>cases hm
  rename_i t' l mo JV
  by_cases ht0:t0=tn
  case neg=>simp[ht0]at hm
  subst ht0;simp only[decide_true,cond_true]at hm;split at hm
  case isFalse=>cases hm
  rename_i e1;subst e1;simp only[GM,Option.some.injEq]at hm;subst hm;obtain⟨ri,hρ,ZV⟩:=tJ hr JV;have jZ:ri.n=l.length:=ZV.1;obtain⟨ao,cap,h1,h2,h3,h4,h5⟩:=hv.ov_inv hρ;have MV:((l.drop off).take len).length=len:=by simp;omega
  refine mk ao cap (by rw[MV];exact h1) ?_
  rcases h3 with⟨rfl,_⟩ | ⟨rfl,lW,_⟩
  ·exact .inl (by simp)
  ·rcases ZV.2 with h5 | ⟨_,_,_,_,_,h6⟩
   ·rw[lW]at h5;cases h5.1
   ·refine .inr ⟨ri.b,_,rfl,λi hi j hj=>?_⟩;rw[ziZ l off len i (by omega) hi, ←Nat.add_mul];exact h6 (off+i) (by omega) j hj
 ·cases hm
def zt5{P:Program}{t e:TypeId}{tn:TN}{v:Value}{d:V}{m:List (El tn)}(hu:P.underlying t=some (.slice e))(hv:VR w ρ (tA outer ρ st.h) v d)(hm:FV st.h tn d=some m):
  ∃news,Src P (sz tn) t v m.length news w∧uO w ρ (tA outer ρ st.h) tn m news:=by
 obtain⟨ao,cap,rfl,h⟩:=zln hr hv hm
 rcases h with rfl | ⟨b,off,rfl,hc⟩
 ·refine⟨[],?_,⟨by simp,λi hi=>by simp at hi⟩⟩;cases ao with
  | none=>exact Src.ofNil w hu cap
  | some ad=>exact Src.ofSlice w hu ad 0 cap [] (by simp) (λj u h=>by simp at h) (λu h=>by simp at h)
 ·obtain⟨h1,h2⟩:=zkn hc;exact⟨_,Src.ofSlice w hu (at_ b off) m.length cap _ h1.1 h2 h1.one,h1⟩
omit hr in
theorem zjd{bad bad':Nat→Prop}{w':World}{ρ':Nat→Option RI}{t:TN}{l m:List (El t)}{olds news:List Value}(h1:uO w ρ bad t l olds)(h2:uO w ρ bad t m news)
  (hk:∀u d,VR w ρ bad u d→VR w' ρ' bad' u d) {b:Nat}
  (hc:∀j u,(olds++news)[j]?=some u→w'.cell? (at_ b j)=some u):∀i (hi:i<(l++m).length) j,j<sz t→∃u,w'.cell? (at_ b (i *sz t+j))=some u∧VR w' ρ' bad' u ((enc t (l++m)[i]).getD j .undef):=by
 intro i hi j hj
 by_cases J3:i<l.length
 ·obtain⟨u,h3,h4⟩:=h1.2 i J3 j hj
  have OV:i *sz t+j<olds.length:=by
   rw[h1.1];have:(i+1) *sz t≤l.length *sz t:=Nat.mul_le_mul_right _ J3;rw[Nat.add_mul,Nat.one_mul]at this;omega
  refine⟨u,hc _ _ (by rw[List.getElem?_append_left OV];exact h3),?_⟩;rw[List.getElem_append_left J3];exact hk _ _ h4
 ·have him:i - l.length<m.length:=by simp at hi;omega
  obtain⟨u,h3,h4⟩:=h2.2 (i - l.length) him j hj
  have zY:olds.length≤i *sz t+j:=by
   rw[h1.1];have:l.length *sz t≤i *sz t:=Nat.mul_le_mul_right _ (by omega);omega
  refine⟨u,hc _ _ ?_,?_⟩
  ·rw[List.getElem?_append_right zY,h1.1]
   have:i *sz t+j - l.length *sz t=(i - l.length) *sz t+j:=by
    have h5:l.length *sz t≤i *sz t:=Nat.mul_le_mul_right _ (by omega);rw[Nat.sub_mul];omega
   rw[this];exact h3
  ·rw[List.getElem_append_right (by omega)];exact hk _ _ h4
def ztj(hC:UF C)(args:Array Operand)(argTypes:Array TypeId)(ho:o.op= .call {callee:= .builtin .append,args,argTypes})(hi:ρ i=none)(hk:qB C i o st some=some st'):
  NC C.P o a w (JC C w0 outer own i ρ st'):=by
 simp only[qB,ho]at hk;split at hk
 case h_2=>cases hk
 rename_i x y t t' FW D4;cases N8:Nat.beq t t'
 case false=>simp[N8]at hk
 have N8:=Nat.eq_of_beq_eq_true N8;subst N8;simp only[Nat.beq_refl,aD]at hk;split at hk
 ·cases hk
 rename_i tn dX;obtain⟨e,he,K3⟩:=Option.bind_eq_some_iff.1 dX
 have hu:C.P.underlying t=some (.slice e):=by
  unfold HO at he;split at he
  ·rename_i h1;cases he;exact h1
  ·cases he
 obtain⟨info,z,pZ,hi2,M5,E4,m6⟩:=hC.ok e tn K3;split at hk
 case h_2=>cases hk
 rename_i l ro m QW lZ;cases RW:decide (l.length+m.length≤bA)
 case false=>simp[RW]at hk
 simp only[RW,cond_true]at hk;have RW:l.length+m.length≤bA:=of_decide_eq_true RW;obtain⟨news,Q9,OX⟩:=zt5 hr hu (hr.opd y) lZ;have T0:Src C.P info.size t (a.eval y) m.length news w:=by rw[hi2];exact Q9
 have e1:=gS FW;have e2:=gS D4;subst e1 e2
 have fW:∀v w',(Builtin.append_ #[t,t] o.type #[a.eval x,a.eval y]).run C.P w= .ok v w'→(execOp a.eval o).run C.P w= .ok (.value v) w':=λv w' h1=>by
  simp[execOp,ho,resolve,invoke,builtin,h1]
 have R9:bA *1024≤140737488355328:=by unfold bA;decide
 have F4:(l.length+m.length) *info.bytes≤140737488355328:=Nat.le_trans (Nat.mul_le_mul RW M5) R9;have hLIM2:bA≤9223372036854775807:=by unfold bA;decide
 -- a new row
 have grown:∀(ao:Option Addr) (cap:Nat) (olds:List Value) (h':Nat→Option uA),a.eval x= .slice ao l.length cap→cap<l.length+m.length→uO w ρ (tA outer ρ st.h) tn l olds→
   (Builtin.firstCells info.size l.length (.slice ao l.length cap)).run C.P w.drew= .ok olds.toArray w.drew→
   (∀r row',h' r=some row'→∃row,st.h r=some row∧row.c=row'.c∧(row'.m.isRo=false→row.m.isRo=false))→
   vF C o.dst {st with h:=h'} i (.arr tn (l++m)) (.ow i) some=some st'→NC C.P o a w (JC C w0 outer own i ρ st'):=by
  intro ao cap olds h' hx M0 holds G4 gW gX
  have IV:=run_append_grow_src (P:=C.P) w t t o.type e info z hu pZ E4 ao l.length cap olds G4 (a.eval y) m.length news T0 (by omega)
   (by have:((l.length+m.length:Nat):Int)≤(bA:Nat):=by omega
       omega) (growslice_fits (by omega) F4)
  rw[←hx]at IV;have zY:=grownCap_ge w (l.length+m.length) cap e;have N5:grownCap w (l.length+m.length) cap e≤maxLen:=grownCap_le_maxLen w (l.length+m.length) cap e (by unfold maxLen;omega);obtain⟨D3,I2⟩:=hr.heap.less gW;have PV:ZA C w0 outer own ρ {st with h:=h'} a w:=hr.turn D3 I2
  refine nC (fW _ _ IV) (PV.newRow hi ⟨w.heap.size,l.length+m.length,grownCap w (l.length+m.length) cap e,false⟩ (λ_=>rfl) _ (Wx.trans (zl0 w) (zV _ _))
   (λb hb=>uU w.drew _ b hb) (λ_=>by simp) (λbad KV=>?_) (λbad=>?_) gX)
  ·generalize PX:((olds++news).toArray++Builtin.zeroCells z.cells (grownCap w (l.length+m.length) cap e - (l.length+m.length)))=cells at KV⊢
   have n6:cells.size=grownCap w (l.length+m.length) cap e *sz tn:=by
    rw[←PX,Array.size_append,size_zeroCells,m6];have h5:(olds++news).toArray.size=(l.length+m.length) *sz tn:=by simp[holds.1,OX.1,Nat.add_mul]
    rw[h5, ←Nat.add_mul];congr 1;omega
   refine⟨by simp, .inr ⟨rfl,zf7 (w:=w.drew) (hC.tys e tn K3),zY,N5,λj hj=>⟨World.frozen?_alloc_new _ _ _ _,?_⟩,?_⟩⟩
   ·have:=cO w.drew cells e j (by rw[n6];exact hj);rw[World.size_drew]at this;rw[this];rfl
   ·refine zjd (ρ':=CA ρ i _) (bad':=bad) ⟨holds.1,λi hi j hj=>?_⟩ ⟨OX.1,λi hi j hj=>?_⟩ KV λj u hj=>?_
    ·obtain⟨u,h6,h7⟩:=holds.2 i hi j hj;exact⟨u,h6,I2 _ _ h7⟩
    ·obtain⟨u,h6,h7⟩:=OX.2 i hi j hj;exact⟨u,h6,I2 _ _ h7⟩
    ·have OV:j<(olds++news).length:=by
      rcases Nat.lt_or_ge j (olds++news).length with h | h
      ·exact h
      ·rw[List.getElem?_eq_none h]at hj;cases hj
     have rZ:j<cells.size:=by
      rw[←PX,Array.size_append];simp at OV⊢;omega
     have:=cO w.drew cells e j rZ;rw[World.size_drew]at this;rw[this,Array.getD_eq_getD_getElem?,Array.getElem?_eq_getElem rZ,Option.getD_some, ←hj,List.getElem?_eq_getElem OV];congr 1;subst PX;rw[Array.getElem_append_left (by simpa using OV)];simp
  ·exact .ow i ⟨w.heap.size,l.length+m.length,grownCap w (l.length+m.length) cap e,false⟩ (RA _ _ _) zY N5 rfl
 -- nothing there,nothing appended,or a new row
 have empty:∀(ao:Option Addr) (h':Nat→Option uA),l=[]→a.eval x= .slice ao 0 0→
   (∀r row',h' r=some row'→∃row,st.h r=some row∧row.c=row'.c∧(row'.m.isRo=false→row.m.isRo=false))→
   vF C o.dst {st with h:=h'} i (.arr tn (l++m)) (.ow i) some=some st'→NC C.P o a w (JC C w0 outer own i ρ st'):=by
  intro ao h' hl hx gW gX;subst hl
  by_cases hm:m=[]
  ·subst hm;obtain⟨D3,I2⟩:=hr.heap.less gW;have PV:ZA C w0 outer own ρ {st with h:=h'} a w:=hr.turn D3 I2;have U1:news=[]:=List.eq_nil_of_length_eq_zero (by rw[OX.1];simp);subst U1;have IV:=run_append_nothing w t t o.type e info hu pZ ao 0 0 (Nat.le_refl _) (a.eval y) T0;rw[←hx]at IV;refine nC (fW _ _ IV) (PV.newRow hi ⟨0,0,0,true⟩ (λh=>by cases h) w (Wx.refl _) (λb hb=>rfl) (λh=>by cases h) (c:= .arr tn ([]++[])) (λbad KV=>⟨rfl, .inl ⟨rfl,rfl⟩⟩) (λbad=>?_) gX);rw[hx];exact .owN i ⟨0,0,0,true⟩ ao (RA _ _ _) rfl rfl
  ·have O0:0<m.length:=List.length_pos_iff.2 hm;refine grown ao 0 [] h' hx (by simpa using O0) ⟨by simp,λi hi=>by simp at hi⟩ ?_ gW gX;cases ao with
   | none=>exact run_firstCells_none w.drew info.size 0 0 0
   | some ad=>exact run_firstCells_some w.drew info.size 0 ad 0 0 [] (by simp) (λj v h=>by simp at h)
 have killLess:∀(r:Option Nat) (q:Nat) (row':uA),JO st.h r q=some row'→∃row,st.h q=some row∧row.c=row'.c∧(row'.m.isRo=false→row.m.isRo=false):=by
  intro r q row' h1;cases r with
  | none=>exact⟨row',h1,rfl,id⟩
  | some r=>
   simp only[JO]at h1
   by_cases hq:q=r
   ·subst hq;rw[RA]at h1;cases h1
   ·rw[DA _ _ _ _ hq]at h1;exact⟨row',h1,rfl,id⟩
 -- a row of the call's own,or the beginning of one
 have full:∀(r:Nat) (l0:List (El tn)) (ri:RI) (cap:Nat),st.h r=some ⟨.arr tn l0, .own⟩→ρ r=some ri→ri.nl=false→l=l0.take l.length→l.length≤cap→cap≤ri.cap→
   a.eval x= .slice (some (at_ ri.b 0)) l.length cap→vF C o.dst {st with h:=JO st.h (some r)} i (.arr tn (l++m)) (.ow i) some=some st'→NC C.P o a w (JC C w0 outer own i ρ st'):=by
  intro r l0 ri cap JV hρ lW hl L3 S9 hx gX;have hll0:l.length≤l0.length:=by rw[hl];simp;omega
  obtain⟨_,hρ2,ZV,_⟩:=hr.heap.rows r _ JV;rw[hρ]at hρ2;cases hρ2
  rcases ZV.2 with h5 | ⟨_,ce,c1,c2,c3,c4⟩
  ·rw[lW]at h5;cases h5.1
  have holds:=zkn (w:=w) (ρ:=ρ) (bad:=tA outer ρ st.h) (t:=tn) (l:=l) (b:=ri.b) (off:=0) (λi hi j hj=>by
   obtain⟨u,h6,h7⟩:=c4 i (by omega) j hj;refine⟨u,by rw[Nat.zero_add];exact h6,?_⟩
   have:l[i]=l0[i]'(by omega):=by
    have h8:l[i]?=(l0.take l.length)[i]?:=by rw[←hl]
    rw[List.getElem?_eq_getElem hi,List.getElem?_take,if_pos hi,List.getElem?_eq_getElem (by omega)]at h8;exact Option.some.inj h8
   rw[this];exact h7)
  by_cases HZ:l.length+m.length≤cap
  ·have hcz:cap *sz tn≤ri.cap *sz tn:=Nat.mul_le_mul_right _ S9;have hrz:(l.length+m.length) *sz tn≤cap *sz tn:=Nat.mul_le_mul_right _ HZ;rw[Nat.add_mul]at hrz
   have NW:∀j,j<news.length→(w.cell? ⟨ri.b,0+l.length *info.size+j,none⟩).isSome=true:=λj hj=>by
    rw[hi2,Nat.zero_add];exact(c3 _ (by rw[OX.1]at hj;omega)).2
   have OW:∀j,j<news.length→w.frozen? ⟨ri.b,0+l.length *info.size+j,none⟩=false:=λj hj=>by
    rw[hi2,Nat.zero_add];exact(c3 _ (by rw[OX.1]at hj;omega)).1
   have IV:=run_append_room_src (P:=C.P) w t t o.type e info hu pZ ri.b 0 l.length cap (a.eval y) m.length news T0 HZ NW OW;rw[show(⟨ri.b,0,none⟩:Addr)=at_ ri.b 0 from rfl, ←hx,hi2,Nat.zero_add]at IV;rw[hi2,Nat.zero_add]at NW;generalize hW:w.setCells ri.b (l.length *sz tn) news=W at IV
   have Y5:=hr.heap.move JV hρ lW hi (ri':=⟨ri.b,l.length+m.length,cap,false⟩) rfl rfl W (by rw[←hW];exact zbv _ _ _ _) (by rw[←hW];exact zaZ _ _ _ _)
    (fun b hb=>by rw [← hW];exact zaV _ _ _ _ _ hb) (.arr tn (l++m)) (fun bad KV=>by
     refine⟨by simp, .inr ⟨rfl,by rw[←hW];exact ze6 _ _ ce,HZ,Nat.le_trans S9 c2,λj hj=>⟨by rw[←hW,World.frozen?_setCells];exact(c3 j (by have:j<cap *sz tn:=hj;omega)).1,?_⟩,?_⟩⟩
     ·by_cases hjj:l.length *sz tn≤j∧j<l.length *sz tn+news.length
      ·have:=World.cell?_setCells_in ri.b news (l.length *sz tn) w NW (j - l.length *sz tn) (by omega);rw[show l.length *sz tn+(j - l.length *sz tn)=j by omega,hW]at this;show(W.cell? ⟨ri.b,j,none⟩).isSome=true
       rw[this];rfl
      ·rw[←hW,World.cell?_setCells_out]
       ·exact(c3 j (by have:j<cap *sz tn:=hj;omega)).2
       ·intro _ _;simp only[at_];omega
     ·refine zjd holds.1 OX KV λj u hj=>?_;have O8:=holds.1.1
      by_cases pX:j<(YN w ri.b 0 (l.length *sz tn)).length
      ·rw[List.getElem?_append_left pX]at hj;have:=holds.2 j u hj;rw[vG,Nat.zero_add]at this;rw[←hW,World.cell?_setCells_out]
       ·exact this
       ·intro _ _;simp only[at_];left;rw[O8]at pX;exact pX
      ·rw[List.getElem?_append_right (by omega),O8]at hj;obtain⟨F0,rfl⟩:=List.getElem?_eq_some_iff.1 hj;have:=World.cell?_setCells_in ri.b news (l.length *sz tn) w NW (j - l.length *sz tn) F0;rw[show l.length *sz tn+(j - l.length *sz tn)=j by omega,hW]at this;exact this)
   obtain⟨hh,hv⟩:=Y5
   refine nC (fW _ _ IV) ⟨_,((hr.turn hh hv).put (?_:VR W _ _ _ (.ow i)) gX).1,λr' hn=>DA _ _ _ _ (by rintro rfl;exact hn ⟨Nat.le_refl _,by omega⟩),λq qi hq=>by
    rw[DA];exact hq;rintro rfl;simp[hi]at hq⟩
   exact .ow i ⟨ri.b,l.length+m.length,cap,false⟩ (RA _ _ _) HZ (Nat.le_trans S9 c2) rfl
  ·refine grown (some (at_ ri.b 0)) cap _ _ hx (by omega) holds.1 ?_ (killLess (some r)) gX;exact run_firstCells_some w.drew info.size l.length (at_ ri.b 0) l.length cap _ (by rw[holds.1.1,hi2]) (by simpa using holds.2)
 unfold XS at QW;split at QW
 ·rename_i kW;cases QW;have hx:=hr.opd x;rw[kW]at hx;have z4:a.eval x= .slice none 0 0:=by generalize a.eval x=v at hx;cases hx;rfl
  exact empty none st.h rfl z4 (λq row' h1=>⟨row',h1,rfl,id⟩) hk
 ·rename_i r kW;split at QW
  case h_2=>cases QW
  rename_i t' l1 JV;split at QW
  case isFalse=>cases QW
  rename_i e1;subst e1;simp only[GM,Option.some.injEq,Prod.mk.injEq]at QW;obtain⟨rfl,rfl⟩:=QW;obtain⟨ri,hρ,ZV⟩:=tJ hr JV;have jZ:ri.n=l1.length:=ZV.1;have hx:=hr.opd x;rw[kW]at hx
  rcases hx.ow_inv hρ with⟨h1,h2,h3,h4⟩ | ⟨ao,h1,h2,h3⟩
  ·exact full r l1 ri ri.cap JV hρ h2 (by simp) (by omega) (Nat.le_refl _) (by rw[←jZ];exact h1) hk
  ·exact empty ao _ (List.eq_nil_of_length_eq_zero (by omega)) h1 (killLess (some r)) hk
 ·rename_i r t0 len kW;split at QW
  case h_2=>cases QW
  rename_i t' l1 JV;split at QW
  case isFalse=>cases QW
  rename_i e1;subst e1;simp only[GM,Option.some.injEq,Prod.mk.injEq]at QW;obtain⟨rfl,rfl⟩:=QW;obtain⟨ri,hρ,ZV⟩:=tJ hr JV;have jZ:ri.n=l1.length:=ZV.1;have hx:=hr.opd x;rw[kW]at hx;obtain⟨ao,cap,h1,h2,h3,h4,h5⟩:=hx.ov_inv hρ;have MV:(l1.take len).length=len:=by simp;omega
  rcases h3 with⟨rfl,rfl⟩ | ⟨rfl,lW,hc⟩
  ·exact empty ao _ (by simp) h1 (killLess (some r)) hk
  ·rw[Nat.zero_mul]at h1;exact full r l1 ri cap JV hρ lW (by rw[MV]) (by omega) (by omega) (by rw[MV];exact h1) hk
 ·cases QW
end
end Go.D
namespace Go.D
variable [jA]
section
variable {C:Cx} {w0:World} {outer own:Nat→Prop} {ρ:Nat→Option RI} {st st':St} {a:Act} {w:World} {h:Nat→Option uA}
omit [jA]in
def zrB(s:List UInt8)(p q:Nat):(⟨s.toArray⟩:ByteArray).extract p q=⟨((s.drop p).take (q - p)).toArray⟩:=by
 apply ByteArray.ext;simp[ByteArray.data_extract]
omit [jA]in
def zj2{P:Program}(b:Bool)(len cap:Nat)(lo hi:Option Value)(p q:Nat)(M2:∀v,lo=some v→∃k,v= .int k (p:Int))(FY:lo=none→p=0)
  (V1:∀v,hi=some v→∃k,v= .int k (q:Int)) (oY:hi=none→q=len) (MX:p≤q) (P8:q≤cap):
  (Instr.sliceBounds b len cap lo hi none).run P w= .ok (p,q,cap) w:=by
 have e1:(q:Int)≤cap:=by omega
 have e2:(p:Int)≤q:=by omega
 cases lo with
 | none=>
  obtain rfl:=FY rfl;cases hi with
  | none=>obtain rfl:=oY rfl;simp[Instr.sliceBounds]
  | some v=>obtain⟨k,rfl⟩:=V1 v rfl;simp[Instr.sliceBounds,Instr.sliceBound,asIntOf,P8]
 | some u=>
  obtain⟨k,rfl⟩:=M2 u rfl;cases hi with
  | none=>obtain rfl:=oY rfl;simp[Instr.sliceBounds,Instr.sliceBound,asIntOf,MX]
  | some v=>obtain⟨k',rfl⟩:=V1 v rfl;simp[Instr.sliceBounds,Instr.sliceBound,asIntOf,P8,MX]
def zcp(hC:UF C){t e:TypeId}{tn:TN}{ao:Option Addr}{len cap p q:Nat}{lo hi:Option Value}(hu:C.P.underlying t=some (.slice e))(dX:UH C e tn=true)
  (M2:∀v,lo=some v→∃k,v= .int k (p:Int)) (FY:lo=none→p=0) (V1:∀v,hi=some v→∃k,v= .int k (q:Int)) (oY:hi=none→q=len) (MX:p≤q) (P8:q≤cap):
  (Instr.sliceAt t (.slice ao len cap) lo hi none).run C.P w= .ok (.slice (if cap=p then ao else ao.map (·.add (p *sz tn))) (q - p) (cap - p)) w:=by
 simp[Instr.sliceAt,xF hu,Instr.slice,zj2 (P:=C.P) (w:=w) true len cap lo hi p q M2 FY V1 oY MX P8,jL (zdn hC dX)]
variable {o:Oper} {i:Nat} (hr:ZA C w0 outer own ρ st a w)
include hr
def zul(hC:UF C)(t:TypeId)(x:Operand)(lo hi mx:Option Operand)(ho:o.op= .slice t x lo hi mx)(hk:qB C i o st some=some st'):NC C.P o a w (JC C w0 outer own i ρ st'):=by
 simp only[qB,ho]at hk;split at hk
 ·cases hk
 ·cases hk
 rename_i d hu;unfold NO at hk;split at hk
 ·cases hk
 rename_i len MV;split at hk
 case h_2=>cases hk
 rename_i pa pb W1 M3;cases hb:(decide (0≤pa)&&decide (pa≤pb)&&decide (pb≤(len:Int)))
 case false=>simp[hb]at hk
 simp only[hb,cond_true]at hk;simp only[Bool.and_eq_true,decide_eq_true_eq]at hb;obtain⟨⟨N3,N2⟩,hb3⟩:=hb;obtain⟨p,rfl⟩:=Int.eq_ofNat_of_zero_le N3;obtain⟨q,rfl⟩:=Int.eq_ofNat_of_zero_le (Int.le_trans N3 N2);have MX:p≤q:=by omega
 have sZ:q≤len:=by omega
 have e1:((q:Int) - (p:Int)).toNat=q - p:=by omega
 simp only[Int.toNat_natCast,e1]at hk
 have M2:∀v,lo.map a.eval=some v→∃k,v= .int k (p:Int):=λv hv=>by
  obtain⟨y,hy,rfl⟩:=Option.map_eq_some_iff.1 hv;subst hy;have:=hr.opd y;simp only[Option.map_some,dT]at W1;split at W1
  ·rename_i heq;cases heq
  ·rename_i k n heq;cases W1;simp only[Option.some.injEq]at heq;rw[heq]at this;exact⟨k,this.int_inv.1⟩
  ·cases W1
 have FY:lo.map a.eval=none→p=0:=λhv=>by
  have:lo=none:=by simpa using hv
  subst this;simp[dT]at W1;omega
 have V1:∀v,hi.map a.eval=some v→∃k,v= .int k (q:Int):=λv hv=>by
  obtain⟨y,hy,rfl⟩:=Option.map_eq_some_iff.1 hv;subst hy;have:=hr.opd y;simp only[Option.map_some,dT]at M3;split at M3
  ·rename_i heq;cases heq
  ·rename_i k n heq;cases M3;simp only[Option.some.injEq]at heq;rw[heq]at this;exact⟨k,this.int_inv.1⟩
  ·cases M3
 have oY:hi.map a.eval=none→q=len:=λhv=>by
  have:hi=none:=by simpa using hv
  subst this;simp[dT]at M3;omega
 have hx:=hr.opd x;obtain⟨VZ,hl⟩:=zk7 hr hx MV
 have fW:∀v,(Instr.sliceAt t (a.eval x) (lo.map a.eval) (hi.map a.eval) none).run C.P w= .ok v w→(execOp a.eval o).run C.P w= .ok (.value v) w:=λv h1=>by
  simp[execOp,ho,h1]
 split at hk
 ·rename_i e tn l kW;rw[kW]at hx MV;simp only[TM,Option.some.injEq]at MV;cases dX:UH C e tn
  case false=>simp[dX]at hk
  simp only[dX,aD]at hk;obtain⟨ao,cap,h1,h2,h3,h4⟩:=hx.sl_inv2;rw[MV]at h1 h2;have IV:=zcp (w:=w) hC hu dX M2 FY V1 oY MX (Nat.le_trans sZ h2) (ao:=ao);rw[←h1]at IV;refine nC (fW _ IV) (hr.after ?_ hk)
  by_cases T9:q - p=0
  ·rw[T9,List.take_zero];exact .slE _ _ _ (by omega)
  ·rw[if_neg (by omega)]
   rcases h4 with rfl | ⟨b,off,rfl,lZ,bW,eW⟩
   ·simp at MV;omega
   ·replace lZ:((l.drop p).take (q - p))≠[]→b<jA.base∨MF w b tn:=λ_=>lZ
    simp only[Option.map_some,vG];have Q8:((l.drop p).take (q - p)).length=q - p:=by simp;omega
    have:=VR.slC (w:=w) (ρ:=ρ) (bad:=tA outer ρ st.h) tn ((l.drop p).take (q - p)) b (off+p *sz tn) (cap - p)
     (λi j=>(w.cell? (at_ b (off+p *sz tn+i *sz tn+j))).getD undef) bW (by omega) (by omega) lZ
     (fun i hi j hj=>by
      obtain⟨u,h5,h6⟩:=eW (p+i) (by omega) j hj;rw[show off+p *sz tn+i *sz tn+j=off+(p+i) *sz tn+j by rw[Nat.add_mul];omega,h5];rfl)
     (fun i hi j hj=>by
      obtain⟨u,h5,h6⟩:=eW (p+i) (by omega) j hj
      rw[show off+p *sz tn+i *sz tn+j=off+(p+i) *sz tn+j by rw[Nat.add_mul];omega,h5,Option.getD_some,
       ziZ l p (q - p) i (by omega) hi]
      exact h6)
    rw[Q8]at this;exact this
 ·rename_i s kW;rw[kW]at hx MV;simp only[TM,Option.some.injEq]at MV;obtain⟨h1,h2⟩:=hx.str_inv;have IX:(⟨s.toArray⟩:ByteArray).size=s.length:=by simp[ByteArray.size]
  refine nC (fW (.string ⟨((s.drop p).take (q - p)).toArray⟩) ?_) (hr.after (.str _ (by simp;omega)) hk);rw[h1];have B3:=zj2 (P:=C.P) (w:=w) false s.length s.length (lo.map a.eval) (hi.map a.eval) p q M2 FY V1 (by rw[MV];exact oY) MX (by omega);simp[Instr.sliceAt,xF hu,Instr.slice,IX,B3,zrB]
 ·rename_i e r kW;rw[kW]at hx MV;split at hk
  case h_2=>cases hk
  rename_i tn l m JV;cases dX:UH C e tn
  case false=>simp[dX]at hk
  simp only[dX,aD]at hk;simp only[TM,JV,Option.some.injEq]at MV;obtain⟨ri,hρ,ZV⟩:=tJ hr JV;have jZ:ri.n=l.length:=ZV.1
  rcases hx.ow_inv hρ with⟨h1,h2,h3,h4⟩ | ⟨ao,h1,h2,h3⟩
  ·have IV:=zcp (w:=w) hC hu dX M2 FY V1 (λh=>by have:=oY h;omega) MX (show q≤ri.cap by omega) (ao:=some (at_ ri.b 0)) (len:=ri.n);rw[←h1]at IV;refine nC (fW _ IV) (hr.after (.ov r tn p (q - p) (ri.cap - p) _ ri hρ (by omega) ?_ (by omega) (by omega)) hk)
   by_cases U9:ri.cap=p
   ·left;omega
   ·right;rw[if_neg U9];refine⟨?_,h2,by omega⟩;simp[vG]
  ·have IV:=zcp (w:=w) hC hu dX M2 FY V1 (λh=>by have:=oY h;omega) MX (show q≤0 by omega) (ao:=ao) (len:=0);rw[←h1]at IV;exact nC (fW _ IV) (hr.after (.ov r tn p (q - p) (0 - p) _ ri hρ (by omega) (.inl ⟨by omega,by omega⟩) (by omega) (by unfold maxLen;omega)) hk)
 ·rename_i e r tn off len' kW;rw[kW]at hx MV;cases dX:UH C e tn
  case false=>simp[dX]at hk
  simp only[dX,aD]at hk;simp only[TM,Option.some.injEq]at MV;obtain⟨ri,hρ⟩:=hx.ov_row;obtain⟨ao,cap,h1,h2,h3,h4,h5⟩:=hx.ov_inv hρ;have IV:=zcp (w:=w) hC hu dX M2 FY V1 (λh=>by have:=oY h;omega) MX (show q≤cap by omega) (ao:=ao) (len:=len');rw[←h1]at IV;have g1:q - p≤cap - p:=Nat.sub_le_sub_right (Nat.le_trans sZ (by rw[←MV];exact h4)) p;have g2:cap - p≤maxLen:=Nat.le_trans (Nat.sub_le _ _) h5
  have g3:off+p+(q - p)≤ri.n:=by
   rw[Nat.add_assoc,Nat.add_sub_cancel' MX];exact Nat.le_trans (Nat.add_le_add_left (by rw[MV];exact sZ) off) h2
  refine nC (fW _ IV) (hr.after (.ov r tn (off+p) (q - p) (cap - p) _ ri hρ g3 ?_ g1 g2) hk)
  rcases h3 with⟨h6,h7⟩ | ⟨rfl,h6,h7⟩
  ·left;omega
  ·by_cases U9:cap=p
   ·left;omega
   ·right;rw[if_neg U9];refine⟨?_,h6,by omega⟩;simp[vG,Nat.add_mul]
 ·cases hk
end
end Go.D

/-
 Functions that write into what they are m7, and into all that lies below it.
-/
import Derived.Test.YtkpkommmdacjlaaGreatL7
import Derived.Test.YtkpkommmdacjlaaGreatL8
set_option linter.all false
namespace Go.D
variable [aA]
def VA:Nat→Prop:=λ_=>False
inductive uG where
 | sl (t:TN)
 | st (t:TN)
def uG.T:uG→Type
 | .sl t=>List (El t)
 | .st t=>El t
def uG.enc:(k:uG)→k.T→List V
 | .sl t,l=>[.sl t l]
 | .st t,x=>D.enc t x
def uG.agg:uG→Bool
 | .sl _=>false
 | .st _=>true
structure AC where
 ty:uG
 F:ty.T→Int→Option (ty.T×Int)
def GB(w:World)(T:Nat→Prop)(us:List Value)(ds:List V):Prop:=
 us.length=ds.length∧∃par X o,par X=none∧∀j (h:j<ds.length),DV w VA T par (X,o+j) (us.getD j undef) ds[j]
def RC(P:Program)(f:Nat)(ki:AC)(g:Gl):Prop:=
 ∀(w:World) (us:List Value) (v:Value) (x:ki.ty.T) (k:Int) (r:ki.ty.T×Int) (T:Nat→Prop),
  (v=bif ki.ty.agg then .agg us.toArray else us.getD 0 undef)→GB w T us (ki.ty.enc x)→FB .i64 k→ki.F x k=some r→RL g T w→
  MT P f #[v, .int .i64 k] w λz w'=>z= .int .i64 r.2∧FB .i64 r.2∧Wx w w'∧(∀b,b<w.heap.size→¬T b→w'.heap[b]?=w.heap[b]?)∧
   GB w' (λb=>T b∨w.heap.size≤b) us (ki.ty.enc r.1)
inductive nD(par:Nat→Option (Nat×Nat))(p:Nat×Nat):Nat→Prop where
 | one (b:Nat) (h:par b=some p):nD par p b
 | step (b c o:Nat) (h:par b=some (c,o)) (hc:nD par p c):nD par p b
omit [aA]in
def nD.ne{par:Nat→Option (Nat×Nat)}{p:Nat×Nat}{b:Nat}(h:nD par p b):par b≠none:=by
 cases h with
 | one _ h=>rw[h];simp
 | step _ _ _ h=>rw[h];simp
omit [aA]in
def nD.uniq{par:Nat→Option (Nat×Nat)}{p q:Nat×Nat}(hp:par p.1=none)(hq:par q.1=none){b:Nat}(h:nD par p b)(h':nD par q b):p=q:=by
 induction h with
 | one b h=>
  cases h' with
  | one _ h1=>rw[h]at h1;cases h1;rfl
  | step _ c o h1 hc=>rw[h]at h1;cases h1;exact absurd hp hc.ne
 | step b c o h hc ih=>
  cases h' with
  | one _ h1=>rw[h]at h1;cases h1;exact absurd hq hc.ne
  | step _ c' o' h1 bX=>rw[h]at h1;cases h1;exact ih bX
section
variable {w w':World} {bad bad' fr fr':Nat→Prop} {par par':Nat→Option (Nat×Nat)} {p p':Nat×Nat} {v:Value} {d d':V}
def DV.str(S:Nat→Prop)(hd:DV w bad fr par p v d)(s0:∀b,par b=some p→S b)(s1:∀b c o,S c→par b=some (c,o)→S b):
  DV w VA (λb=>¬bad b∧fr b∧S b) par p v d:=by
 induction hd with
 | triv p v d h=>exact .triv _ _ _ h
 | sl p t l b cap u DX eX hp he SW EX hz hu hv ih=>
  exact .sl p t l b cap u (λh=>h) ⟨DX,eX,s0 b hp⟩ hp he SW EX hz hu λi hi j hj=>ih i hi j hj λc hc=>s1 c b _ (s0 b hp) hc
def DV.sub(hd:DV w bad fr par p v d)(hs:dE d d'):DV w bad fr par p v d':=by
 cases hs with
 | refl=>exact hd
 | byte n=>cases hd with | triv _ _ _ h=>exact .triv _ _ _ λw' ρ' bad'=>(h w' ρ' bad').sub (.byte n)
 | nil t=>cases hd with | triv _ _ _ h=>exact .triv _ _ _ λw' ρ' bad'=>(h w' ρ' bad').sub (.nil t)
end
def mV(e:Bool):V→V
 | .int k n=> .int k n
 | .bool b=> .bool b
 | .ow r=>bif !e&&Nat.beq r 0 then .ow 0 else .undef
 | .ep r t i off=>bif !e&&Nat.beq r 0 then .ep 0 t i off else .undef
 | _=> .undef
def fB(t:TN)(e:Bool)(l:List (El t))(s:Nat→V):St:=
 ⟨λi=>bif e&&Nat.beq i 0 then .sl t []else mV e (s i),λq=>bif !e&&Nat.beq q 0 then some ⟨.arr t l, .tre⟩else none,128⟩
def qB(e:Bool)(ri:RI):Nat→Option RI:=λq=>bif !e&&Nat.beq q 0 then some ri else none
section
variable {R:Type}
def YL(t:TN)(e:Bool)(st:St)(K:List (El t)→Option R):Option R:=
 gd e (match st.s 0 with
  | .sl _ []=>K []
  | _=>none) (match st.h 0 with
  | some ⟨.arr t' l, .tre⟩=>if h:t'=t then K (TN.cast h l)else none
  | _=>none)
variable (C:Cx) (M:Nat→Option AC)
def VL(ops:Array Oper):Nat→Nat→St→(St→Option R)→Option R
 | _,0,st,K=>K st
 | k,m+1,st,K=>match ops[k]? with
  | some o=>gd o.guard.isNone (OA C (128+128 *k) o st λst'=>VL ops (k+1) m st' K) none
  | none=>none
def KT (ops:Array Oper) (n:Nat) (t:TN) (l:List (El t)) (s:Nat→V) (K:List (El t)→(Nat→V)→Option R):Option R:=
 match ops[n]?,ops[n+1]?,ops[n+2]? with
 | some ⟨some tx, .load T (.tmp ta),_,_,_,none⟩,some ⟨some tk, .move (.tmp kk),_,_,_,none⟩,some ⟨some tr, .call {callee:= .value (.func f),args,argTypes:=_},_,_,_,none⟩=>
  match args.toList,MC C.P T,BC C.P T,mV false (s ta),mV false (s kk)with
  | [.tmp tx', .tmp tk'],some false,some 1, .ep _ t' i off, .int .i64 k=>
   gd (Nat.beq tx tx'&&Nat.beq tk tk'&&!(Nat.beq tx tk)&&Nat.blt tx C.nt&&Nat.blt tk C.nt&&Nat.blt tr C.nt&&!(Nat.beq tx kk)&&decide (t'=t)) (
    xI l i λy=>match(enc t y).drop off with
     | .sl t2 l2 :: _=>match M f with
      | some ⟨.sl t3,F⟩=>if h:t2=t3 then
        Option.bind (F (TN.cast h l2) k) λr=>bnd (zB t (MB (enc t y) off [.sl t3 r.1])) λz=>
         K (l.set i z) (cA (cA (cA s tx .undef) tk .undef) tr (.int .i64 r.2))
       else none
      | _=>none
     | _=>none) none
  | _,_,_,_,_=>none
 | _,_,_=>none
def uJ(e:Bool)(v:V):Bool:=e||match v with
 | .ow r=>Nat.beq r 0
 | _=>false
def mL(k i:Int):Nat→V:=λj=>match j with
 | 0=> .ow 0
 | 1=> .int .i64 k
 | 5=> .int .i64 i
 | _=> .undef
noncomputable def FE(fu:Nat)(md:List (Nat×Nat))(t:TN)(e:Bool):Code→List (El t)→(Nat→V)→(Ex→List (El t)→(Nat→V)→Option R)→Option R
 | .skip,l,s,K=>K .normal l s
 | .region id ops d,l,s,K=>gd d none (match KA id md with
  | none=>VL C ops 0 ops.size (fB t e l s) λst=>YL t e st λl'=>K .normal l' st.s
  | some n=>gd (e||!(Nat.ble (n+3) ops.size)) none (VL C ops 0 n (fB t e l s) λst=>YL t e st λl1=>KT C M ops n t l1 st.s λl2 s2=>
    VL C ops (n+3) (ops.size - (n+3)) (fB t e l2 s2) λst=>YL t e st λl'=>K .normal l' st.s))
 | .seq a b,l,s,K=>FE fu md t e a l s λex l' s'=>match ex with
  | .normal=>FE fu md t e b l' s' K
  | ex=>K ex l' s'
 | .cond (.tmp c) a b,l,s,K=>gd (Nat.beq c 0) none (match mV e (s c)with
  | .bool x=>cond x (FE fu md t e a l s K) (FE fu md t e b l s K)
  | _=>none)
 | .block id b,l,s,K=>FE fu md t e b l s λex l' s'=>match ex with
  | .exit id'=>gd (Nat.beq id' id) (K .normal l' s') (K ex l' s')
  | ex=>K ex l' s'
 | .loop b,l,s,K=>match mV e (s 1),mV e (s 5)with
  | .int .i64 k, .int .i64 i=>gd (uJ e (s 0)) (yA fu (λ(x:List (El t)×Int×Int) (k':List (El t)×Int×Int→Option R)=>
    FE fu md t e b x.1 (mL x.2.1 x.2.2) λex l' s'=>match ex with
     | .normal=>match mV e (s' 1),mV e (s' 5)with
      | .int .i64 k1, .int .i64 i1=>gd (uJ e (s' 0)) (k' (l',k1,i1)) none
      | _,_=>none
     | ex=>K ex l' s') (l,k,i)) none
  | _,_=>none
 | .exit id,l,s,K=>K (.exit id) l s
 | .ret,l,s,K=>K .ret l s
 | _,_,_,_=>none
def UT(fn:Func)(t:TN)(e:Bool)(ex:Ex)(l':List (El t))(s':Nat→V):Option (List (El t)×Int):=
 match ex with
 | .exit _=>none
 | _=>match fn.results.toList with
  | [.tmp tr]=>gd (Nat.beq tr 0) none (match mV e (s' tr)with
   | .int .i64 k'=>gd e (match l' with | []=>some ([],k') | _=>none) (some (l',k'))
   | _=>none)
  | _=>none
noncomputable def OL(fu:Nat)(fn:Func)(body:Code)(md:List (Nat×Nat))(t:TN)(e:Bool)(l:List (El t))(k:Int):Option (List (El t)×Int):=
 FE C M fu md t e body l (λj=>match j with | 0=> .ow 0 | 1=> .int .i64 k | _=> .undef) (UT fn t e)
end
omit [aA]in
def zay{fn:Func}{t:TN}{e:Bool}{ex:Ex}{l':List (El t)}{s':Nat→V}{r:List (El t)×Int}:UT fn t e ex l' s'=some r→
  (ex= .normal∨ex= .ret)∧∃tr,fn.results.toList=[.tmp tr]∧Nat.beq tr 0=false∧mV e (s' tr)= .int .i64 r.2∧l'=r.1∧(e=true→r.1=[]):=by
 have key:(match fn.results.toList with
   | [.tmp tr]=>gd (Nat.beq tr 0) none (match mV e (s' tr)with
    | .int .i64 k'=>gd e (match l' with | []=>some ([],k') | _=>none) (some (l',k'))
    | _=>none)
   | _=>none)=some r→∃tr,fn.results.toList=[.tmp tr]∧Nat.beq tr 0=false∧mV e (s' tr)= .int .i64 r.2∧l'=r.1∧(e=true→r.1=[]):=λh=>by
  split at h
  case h_2=>cases h
  rename_i tr qW;refine⟨tr,qW,?_⟩;cases MY:Nat.beq tr 0
  case true=>rw[MY]at h;cases h
  rw[MY]at h;simp only[aG]at h;split at h
  case h_2=>cases h
  rename_i k' hs;cases e with
  | false=>cases h;exact⟨rfl,hs,rfl,λh=>by cases h⟩
  | true=>
   simp only[iB]at h;split at h
   ·cases h;exact⟨rfl,hs,rfl,λ_=>rfl⟩
   ·cases h
 intro h;cases ex with
 | exit id=>cases h
 | normal=>exact⟨.inl rfl,key h⟩
 | ret=>exact⟨.inr rfl,key h⟩
section
variable {C:Cx} {w0:World} {own:Ow} {ρ:Nat→Option RI} {st:St} {a:Act} {w:World} {R:Type} {t:TN} {e:Bool} {ri:RI} {s:Nat→V}
omit [aA]in
def UE{P:Program}{ops:Array Oper}{Q:Exit→Act→World→Prop}{i:Nat}{rest:List Nat}{o:Oper}(ho:ops[i]?=some o)(hg:o.guard=none)(h:o.wp P a w (wpOps P ops Q rest) Q):
  wpOps P ops Q (i :: rest) a w:=by
 simp only[wpOps,ho];rw[if_pos (by simp[Region.wanted,hg])];exact .inl h
def gQ(hC:VC C)(hΦ:cD C){outer:Nat→Prop}{ops:Array Oper}{Q:Exit→Act→World→Prop}{K:St→Option R}{r:R}(m2:Nat):∀(m k:Nat) (st:St) (a:Act) (w:World) (ρ:Nat→Option RI),
  AA C w0 outer own ρ st a w→(∀q,128+128 *k≤q→ρ q=none)→VL C ops k m st K=some r→
  (∀st' a' w' ρ',AA C w0 outer own ρ' st' a' w'→(∀q qi,ρ q=some qi→ρ' q=some qi)→K st'=some r→wpOps C.P ops Q (List.range' (k+m) m2) a' w')→
  wpOps C.P ops Q (List.range' k (m+m2)) a w
 | 0,k,st,a,w,ρ,hr,hf,qV,rV=>by
  rw[Nat.zero_add];exact rV st a w ρ hr (λ_ _ h=>h) qV
 | m+1,k,st,a,w,ρ,hr,hf,qV,rV=>by
  rw[show m+1+m2=(m+m2)+1 by omega,List.range'_succ];simp only[VL]at qV;split at qV
  case h_2=>cases qV
  rename_i o ho;cases hg:o.guard with
  | some x=>rw[hg]at qV;cases qV
  | none=>
   rw[hg]at qV;simp only[Option.isNone_none,iB]at qV;rw[MI]at qV;obtain⟨st1,h1,h2⟩:=Option.bind_eq_some_iff.1 qV;refine UE ho hg (dT hr hC hΦ ⟨_,hf⟩ (λq _=>hf _ (by omega)) h1 _ Q λa1 w1 hA=>?_);obtain⟨ρ1,tW,hE,hx⟩:=hA;refine gQ hC hΦ m2 m (k+1) st1 a1 w1 ρ1 tW (λq hq=>by rw[hE q (by omega)];exact hf q (by omega)) h2 λst' a' w' ρ' p1 p2 p3=>?_;have:=rV st' a' w' ρ' p1 (λq qi hq=>p2 _ _ (hx q qi hq)) p3;rwa [show k+1+m=k+(m+1) by omega]
def DT{bad bad':Nat→Prop}{ρ ρ':Nat→Option RI}{w':World}{v:Value}{d:V}(h:VR w ρ bad v d)(hρ:e=false→ρ' 0=ρ 0):VR w' ρ' bad' v (mV e d):=by
 unfold mV;split
 ·cases h with | int _ _ h=>exact .int _ _ h
 ·cases h;exact .bool _
 ·rename_i r;cases hb:(!e&&Nat.beq r 0)
  ·exact .undef _
  ·simp only[Bool.and_eq_true,Bool.not_eq_true']at hb;have hρ:=hρ hb.1;obtain rfl:=Nat.eq_of_beq_eq_true hb.2;cases h with
   | ow _ ri h hn hc CV=>exact .ow _ _ (hρ.trans h) hn hc CV
   | owN _ ri ao h hn CV=>exact .owN _ _ _ (hρ.trans h) hn CV
 ·rename_i r t i off;cases hb:(!e&&Nat.beq r 0)
  ·exact .undef _
  ·simp only[Bool.and_eq_true,Bool.not_eq_true']at hb;have hρ:=hρ hb.1;obtain rfl:=Nat.eq_of_beq_eq_true hb.2;cases h with
   | ep _ _ _ _ ri h CV=>exact .ep _ _ _ _ _ (hρ.trans h) CV
 ·exact .undef _
def FT(hr:AA C w0 VA own ρ st a w)(hρ:∀q qi,qB e ri q=some qi→ρ q=some qi){K:List (El t)→Option R}{r:R}(hx:YL t e st K=some r):
  ∃l',K l'=some r∧AA C w0 VA own (qB e ri) (fB t e l' st.s) a w:=by
 cases e with
 | true=>
  simp only[YL,iB]at hx;split at hx
  case h_2=>cases hx
  rename_i t0 h0;refine⟨[],hx,⟨?_,λi=>?_,hr.size,hr.defers,hr.glob⟩⟩
  ·exact⟨hr.heap.wx,hr.heap.old,hr.heap.outLt,λq row hq=>(by cases hq),λq q' row row' qi qi' h1=>(by cases h1),pB.zero λq t l m hq=>(by cases hq)⟩
  ·show VR w _ _ _ (bif true&&Nat.beq i 0 then .sl t []else mV true (st.s i))
   cases hb:Nat.beq i 0
   ·exact DT (hr.slots i) (λh=>by cases h)
   ·obtain rfl:=Nat.eq_of_beq_eq_true hb;have:=hr.slots 0;rw[h0]at this;generalize a.tmps.getD 0 undef=v at this⊢;cases this with
    | slE _ _ _ h=>exact .slE _ _ _ h
    | slC _ _ _ _ _ _ _ _ h=>exact .slE _ _ _ h
 | false=>
  simp only[YL,aG]at hx;split at hx
  case h_2=>cases hx
  rename_i t' l' sV;split at hx
  case isFalse=>cases hx
  rename_i ht;subst ht;have h0:ρ 0=some ri:=hρ 0 ri rfl;refine⟨l',hx,⟨?_,λi=>?_,hr.size,hr.defers,hr.glob⟩⟩
  ·have hb:∀b,bA VA (qB false ri) (fB t' false l' st.s).h b→bA VA ρ st.h b:=by
    rintro b (h | ⟨q,row,qi,h1,h2,h3,h4⟩)
    ·exact .inl h
    ·simp only[fB,Bool.not_false,Bool.true_and]at h1;cases hq:Nat.beq q 0
     ·rw[hq]at h1;cases h1
     ·obtain rfl:=Nat.eq_of_beq_eq_true hq;cases h1;exact .inr ⟨0,_,qi,sV,h2,hρ _ _ h3,h4⟩
   refine hr.heap.sub id hr.heap.wx hr.heap.old hr.heap.outLt (λq row hq=>?_) (λq q' row row' h1 h2 h3=>h3) (pB.sub hr.heap id hb (λ_ h=>h) λq t l m hq hm=>?_)
   ·simp only[fB,Bool.not_false,Bool.true_and]at hq;cases IW:Nat.beq q 0
    ·rw[IW]at hq;cases hq
    ·obtain rfl:=Nat.eq_of_beq_eq_true IW;cases hq;obtain⟨ri',k1,k2,k3⟩:=hr.heap.rows 0 _ sV;rw[h0]at k1;cases k1;exact⟨_,ri,sV,rfl,h0,uM k2 hb _,λhn=>⟨λh=>h,λhm=>(k3 hn).1.2 hm⟩⟩
   ·simp only[fB,Bool.not_false,Bool.true_and]at hq;cases IW:Nat.beq q 0
    ·rw[IW]at hq;cases hq
    ·obtain rfl:=Nat.eq_of_beq_eq_true IW;cases hq;exact⟨⟨_,sV,rfl⟩,h0.symm⟩
  ·exact DT (hr.slots i) λ_=>h0.symm
def AD(P:Program)(M:Nat→Option AC)(g:Gl):Prop:=∀f ki,M f=some ki→RC P f ki g
def zgf{l:List (El t)}{T0:Nat→Prop}(hh:EA w0 VA (Ow.of T0) (qB false ri) (fB t false l s).h w)(hn:ri.nl=false){i off:Nat}{y z:El t}{t2:TN}{l2 l3:List (El t2)}(hy:l[i]?=some y)(xW:off<sz t)
  (hd:(enc t y).getD off .undef= .sl t2 l2) (hz:zB t (MB (enc t y) off [.sl t2 l3])=some z):
  ∃u T,w.cell? (iA ri.b (i *sz t+off))=some u∧GB w T [u] [.sl t2 l2]∧(∀b,T b→w0.heap.size≤b∨T0 b)∧
   ∀w',Wx w w'→(∀b,b<w.heap.size→¬T b→w'.heap[b]?=w.heap[b]?)→GB w' (λb=>T b∨w.heap.size≤b) [u] [.sl t2 l3]→
    ∀s',EA w0 VA (Ow.of T0) (qB false ri) (fB t false (l.set i z) s').h w':=by
 classical
 have sV:(fB t false l s).h 0=some ⟨.arr t l, .tre⟩:=rfl;obtain⟨hi,o7⟩:=List.getElem?_eq_some_iff.1 hy;obtain⟨par,sW⟩:=hh.dep;obtain⟨eY,wV⟩:=sW 0 t l .tre ri sV rfl rfl hn;obtain⟨u,hu,K8⟩:=wV i hi off xW;rw[o7,hd]at K8;obtain⟨ri',k1,k2,k3⟩:=hh.rows 0 _ sV;cases k1
 have fY:∀b,bA VA (qB false ri) (fB t false l s).h b→b=ri.b:=by
  rintro b (h | ⟨q,row,qi,h1,h2,h3,h4,h5⟩)
  ·exact h.elim
  ·simp only[qB,Bool.not_false,Bool.true_and]at h3;cases hq:Nat.beq q 0
   ·rw[hq]at h3;cases h3
   ·rw[hq]at h3;cases h3;exact h5.symm
 have eZ:bA VA (qB false ri) (fB t false l s).h ri.b:= .inr ⟨0,_,ri,sV,rfl,rfl,hn,rfl⟩;have vV:ri.b<w.heap.size:=(k3 hn).2;let p:Nat×Nat:=(ri.b,i *sz t+off);let T:Nat→Prop:=λb=>¬bA VA (qB false ri) (fB t false l s).h b∧XC w0 (Ow.of T0) b∧nD par p b;refine⟨u,T,hu,⟨rfl,par,ri.b,i *sz t+off,eY,λj hj=>?_⟩,λb hb=>hb.2.1,λw' lW KV ⟨_,par',X,o,hX,hT⟩ s'=>?_⟩
 ·have:j=0:=by simpa using hj
  subst this;exact K8.str (nD par p) (λb h=> .one b h) λb c o hc h=> .step b c o h hc
 have VV:=hT 0 (by simp);rw[Nat.add_zero]at VV;simp only[List.getElem_cons_zero,List.getD_cons_zero]at VV;have Q4:¬T ri.b:=λh=>h.1 eZ;have WV:w'.heap[ri.b]?=w.heap[ri.b]?:=KV _ vV Q4;let Tf:Nat→Prop:=λb=>T b∨w.heap.size≤b;let par2:Nat→Option (Nat×Nat):=λb=>if Tf b then(if par' b=some (X,o)then some p else par' b)else par b
 have O3:∀b,bA VA (qB false ri) (fB t false (l.set i z) s').h b→b=ri.b:=by
  rintro b (h | ⟨q,row,qi,h1,h2,h3,h4,h5⟩)
  ·exact h.elim
  ·simp only[qB,Bool.not_false,Bool.true_and]at h3;cases hq:Nat.beq q 0
   ·rw[hq]at h3;cases h3
   ·rw[hq]at h3;cases h3;exact h5.symm
 have P3:¬Tf ri.b:=λh=>h.elim Q4 λh=>by omega
 -- the slice that was lent
 have Q3:DV w' (bA VA (qB false ri) (fB t false (l.set i z) s').h) (XC w0 (Ow.of T0)) par2 p u (.sl t2 l3):=by
  refine VV.gen (λ_ _ _ _=>rfl) (λb _ hb uV=>?_) (λb hb=>?_) (λb _ _ hb hp=>?_) λb q _ _ hb hq hp=>?_
  ·rw[O3 b uV]at hb;exact P3 hb
  ·rcases hb with hb | hb
   ·exact hb.2.1
   ·exact .inl (Nat.le_trans hh.wx.size hb)
  ·show(if Tf b then _ else _)=_
   rw[if_pos hb,if_pos hp]
  ·show(if Tf b then _ else _)=_
   rw[if_pos hb,if_neg,hp];rw[hp];rintro e;cases e;exact hq hX
 -- all other cells
 have zX:∀(p':Nat×Nat) (u':Value) (d':V),p'.1=ri.b→p'≠p→DV w (bA VA (qB false ri) (fB t false l s).h) (XC w0 (Ow.of T0)) par p' u' d'→
   DV w' (bA VA (qB false ri) (fB t false (l.set i z) s').h) (XC w0 (Ow.of T0)) par2 p' u' d':=λp' u' d' h1 h2 hd=>by
  have X7:par p'.1=none:=by rw[h1];exact eY
  have nW:∀b,nD par p' b→¬T b:=λb hb ht=>h2 (hb.uniq X7 eY ht.2.2);have L8:∀b,nD par p' b→EB w b→¬Tf b:=λb hb hc h=>h.elim (nW b hb) λh=>by have:=hc.lt;omega
  refine hd.genT (nD par p') (λb h=> .one b h) (λb q h h'=> .step b q.1 q.2 h' h) (λb hT _ hc _=>KV b hc.lt (nW b hT)) (λb _ _ _ hb=>?_) (λ_ _ h=>h) (λb hT _ hc _ hp=>?_) λb q hT _ hc _ _ hp=>?_
  ·rw[O3 b hb];exact eZ
  ·show(if Tf b then _ else _)=_
   rw[if_neg (L8 b hT hc)];exact hp
  ·show(if Tf b then _ else _)=_
   rw[if_neg (L8 b hT hc)];exact hp
 obtain⟨gY,QX⟩:=MK (enc t y) off [.sl t2 l3] (by rw[WA];simp;omega);have GV:=LC t hz
 -- each cell of the row as it is now
 have uX:∀i' (h:i'<(l.set i z).length) j,j<sz t→∃u',w'.cell? (iA ri.b (i' *sz t+j))=some u'∧
   DV w' (bA VA (qB false ri) (fB t false (l.set i z) s').h) (XC w0 (Ow.of T0)) par2 (ri.b,i' *sz t+j) u' ((enc t (l.set i z)[i']).getD j .undef):=λi' BW j hj=>by
  have hi2:i'<l.length:=by simpa using BW
  obtain⟨u',c1,c2⟩:=wV i' hi2 j hj;refine⟨u',(gD WV).trans c1,?_⟩
  by_cases s7:i'=i
  ·subst s7;rw[List.getElem_set_self];have tV:(MB (enc t y) off [.sl t2 l3]).length=sz t:=by rw[gY,WA]
   have hg:=GV.get j (by rw[tV];exact hj) (by rw[WA];exact hj);rw[QX j (by rw[WA];exact hj)]at hg;rw[vE _ _ _ (by rw[WA];exact hj)]
   by_cases fW:j=off
   ·subst fW;rw[dif_pos (by simp)]at hg;simp only[Nat.sub_self,List.getElem_cons_zero]at hg;rw[hu]at c1;cases c1;exact Q3.sub hg
   ·rw[dif_neg (by simp;omega)]at hg;rw[o7,vE _ _ _ (by rw[WA];exact hj)]at c2;exact(zX (ri.b,i' *sz t+j) u' _ rfl (λe=>fW (by have:=congrArg Prod.snd e;simp only[p]at this;omega)) c2).sub hg
  ·rw[List.getElem_set_ne (λe=>s7 e.symm)];refine zX (ri.b,i' *sz t+j) u' _ rfl (λe=>s7 ?_) c2;have:=congrArg Prod.snd e;simp only[p]at this
   rcases Nat.lt_trichotomy i' i with h | h | h
   ·have:(i'+1) *sz t≤i *sz t:=Nat.mul_le_mul_right _ h;rw[Nat.add_mul,Nat.one_mul]at this;omega
   ·exact h
   ·have:(i+1) *sz t≤i' *sz t:=Nat.mul_le_mul_right _ h;rw[Nat.add_mul,Nat.one_mul]at this;omega
 refine⟨hh.wx.trans lW,λb hb ho=>?_,λb h=>h.elim,λq row hq=>?_,λq q' row row' qi qi' h1 h2 _ _ _ _ _=>?_,par2,λq t1 l1 m1 qi h1 hm h2 h3=>?_⟩
 ·rw[←hh.old b hb ho];refine KV b (Nat.lt_of_lt_of_le hb hh.wx.size) λhT=>?_
  rcases hT.2.1 with h | h
  ·omega
  ·exact ho h
 ·simp only[fB,Bool.not_false,Bool.true_and]at hq;cases IW:Nat.beq q 0
  ·rw[IW]at hq;cases hq
  ·obtain rfl:=Nat.eq_of_beq_eq_true IW;cases hq;refine⟨ri,rfl,⟨by rw[List.length_set];exact k2.1,?_⟩,λ_=>⟨⟨λh=>h,λ_=>(k3 hn).1.2 rfl⟩,Nat.lt_of_lt_of_le vV lW.size⟩⟩
   rcases k2.2 with h | ⟨_,he,h1,h2,h3,_⟩
   ·rw[hn]at h;cases h.1
   ·refine .inr ⟨hn,he.same WV,h1,h2,λj hj=>?_,λi' BW j hj=>?_⟩
    ·rw[show w'.frozen? (iA ri.b j)=w.frozen? (iA ri.b j) by simp[World.frozen?,iA,WV],gD WV];exact h3 j hj
    ·obtain⟨u',c1,c2⟩:=uX i' BW j hj;exact⟨u',c1,c2.vr _⟩
 ·simp only[fB,Bool.not_false,Bool.true_and]at h1 h2;cases IW:Nat.beq q 0
  ·rw[IW]at h1;cases h1
  ·cases R3:Nat.beq q' 0
   ·rw[R3]at h2;cases h2
   ·rw[Nat.eq_of_beq_eq_true IW,Nat.eq_of_beq_eq_true R3]
 ·simp only[fB,Bool.not_false,Bool.true_and]at h1;cases IW:Nat.beq q 0
  ·rw[IW]at h1;cases h1
  ·obtain rfl:=Nat.eq_of_beq_eq_true IW;cases h1;cases h2;refine⟨?_,uX⟩;show(if Tf ri.b then _ else _)=_
   rw[if_neg P3];exact eY
omit [aA]in
def zfw{a:Act}{tx tk tr:Nat}{u v z:Value}{nt:Nat}(hs:a.tmps.size=nt)(h1:tx<nt)(h2:tk<nt)(h3:tr<nt)(i:Nat):
  (((a.put (some tx) u).put (some tk) v).put (some tr) z).tmps.getD i undef=if i=tr then z else if i=tk then v else if i=tx then u else a.tmps.getD i undef:=by
 rw[JC _ _ _ (by simp[Act.put,hs];exact h3),JC _ _ _ (by simp[Act.put,hs];exact h2),JC _ _ _ (by rw[hs];exact h1)]
def zgy{l:List (El t)}{M:Nat→Option AC}(hM:AD C.P M C.g){T0:Nat→Prop}{ops:Array Oper}{Q:Exit→Act→World→Prop}{n:Nat}{rest:List Nat}{K:List (El t)→(Nat→V)→Option R}{r:R}
  (hr:AA C w0 VA (Ow.of T0) (qB false ri) (fB t false l s) a w) (hk:KT C M ops n t l s K=some r)
  (rV:∀l' s' a' w',AA C w0 VA (Ow.of T0) (qB false ri) (fB t false l' s') a' w'→K l' s'=some r→wpOps C.P ops Q rest a' w'):wpOps C.P ops Q (n :: (n+1) :: (n+2) :: rest) a w:=by
 unfold KT at hk;split at hk
 case h_2=>cases hk
 rename_i tx T ta ty1 ps1 af1 tk kk ty2 ps2 af2 tr f args aty ty3 ps3 af3 E4 A0 ho3;split at hk
 case h_2=>cases hk
 rename_i tx' tk' r0 t' i off k QV RV xV dX OW;cases hb:(Nat.beq tx tx'&&Nat.beq tk tk'&&!(Nat.beq tx tk)&&Nat.blt tx C.nt&&Nat.blt tk C.nt&&Nat.blt tr C.nt&&!(Nat.beq tx kk)&&decide (t'=t))
 case false=>simp[hb]at hk
 simp only[hb,iB,xI]at hk;simp only[Bool.and_eq_true,decide_eq_true_eq,Bool.not_eq_true',Nat.blt_eq]at hb;obtain⟨⟨⟨⟨⟨⟨⟨b1,b2⟩,b3⟩,b4⟩,b5⟩,b6⟩,b7⟩,b8⟩:=hb;obtain rfl:=Nat.eq_of_beq_eq_true b1;obtain rfl:=Nat.eq_of_beq_eq_true b2;have t7:tx≠tk:=λe=>by rw[e,Nat.beq_refl]at b3;cases b3
 have u7:tx≠kk:=λe=>by rw[e,Nat.beq_refl]at b7;cases b7
 subst b8;obtain⟨y,hy,hk⟩:=Option.bind_eq_some_iff.1 hk;split at hk
 case h_2=>cases hk
 rename_i t2 l2 tl IX;split at hk
 case h_2=>cases hk
 rename_i t3 F v7;split at hk
 case isFalse=>cases hk
 rename_i ht;subst ht;simp only[XF]at hk;obtain⟨⟨l3,k'⟩,hF,hk⟩:=Option.bind_eq_some_iff.1 hk;rw[eF]at hk;obtain⟨z,hz,hk⟩:=Option.bind_eq_some_iff.1 hk
 have xW:off<sz t':=by
  rcases Nat.lt_or_ge off (sz t')with h | h
  ·exact h
  ·rw[List.drop_eq_nil_of_le (by rw[WA];exact h)]at IX;cases IX
 have hd:(enc t' y).getD off .undef= .sl t2 l2:=by
  have:=congrArg List.head? IX;rw[List.head?_drop]at this;rw[List.getD_eq_getElem?_getD,this];rfl
 -- the address
 have hA:=hr.slots ta;have hA:VR w (qB false ri) (bA VA (qB false ri) (fB t' false l s).h) (a.tmps.getD ta undef) (.ep r0 t' i off):=by rw[←dX];exact hA
 have nZ:r0=0:=by
  generalize s ta=dd at dX;cases dd<;>simp only[mV]at dX<;>try (cases dX;done)
  ·rename_i q;cases hq:(!false&&Nat.beq q 0)<;>rw[hq]at dX<;>cases dX
  ·rename_i q _ _ _;cases hq:(!false&&Nat.beq q 0)<;>rw[hq]at dX<;>cases dX;rfl
 subst nZ
 have M8:a.tmps.getD ta undef= .pointer (some (iA ri.b (i *sz t'+off)))∧ri.nl=false:=by
  generalize a.tmps.getD ta undef=v at hA;cases hA with
  | ep _ _ _ _ ri' h CV=>cases h;exact⟨rfl,CV⟩
 have N8:a.tmps.getD kk undef= .int .i64 k∧FB .i64 k:=by
  have h:=hr.slots kk;have h:VR w (qB false ri) (bA VA (qB false ri) (fB t' false l s).h) (a.tmps.getD kk undef) (.int .i64 k):=by rw[←OW];exact h
  generalize a.tmps.getD kk undef=v at h;cases h with | int _ _ h=>exact⟨rfl,h⟩
 obtain⟨u,T1,hu,z7,O8,oX⟩:=zgf hr.heap M8.2 hy xW hd hz
 -- the load
 have JX:(loadVar T (iA ri.b (i *sz t'+off))).run C.P w= .ok u w:=by
  obtain⟨d,v,e1,e2,e3⟩:=YS (P:=C.P) (w:=w) (ρ:=qB false ri) (bad:=VA) (b:=ri.b) (o:=i *sz t'+off) (off:=0) (cs:=[.raw u .undef]) (K:=some) (r:= .raw u .undef) RV xV
   (fun j hj=>by
    have:j=0:=by simpa using hj
    subst this;exact⟨u,hu, .raw _ _ (.undef _)⟩) rfl
  cases e1;cases e2;exact e3
 refine UE E4 rfl (bB (v:=u) (w':=w) (post:=λa' w'=>a'=a.put (some tx) u∧w'=w) ?_ ⟨rfl,rfl⟩ _ _ λa1 w1 ⟨ea,ew⟩=>?_)
 ·show(execOp a.eval _).run C.P w=_
  have:a.eval (.tmp ta)= .pointer (some (iA ri.b (i *sz t'+off))):=M8.1;simp[execOp,this,Instr.loadAt,Instr.sureAddr,JX]
 subst ea ew
 have ek:(a.put (some tx) u).eval (.tmp kk)= .int .i64 k:=by
  show(a.put (some tx) u).tmps.getD kk undef=_
  rw[JC _ _ _ (by rw[hr.size];exact b4),if_neg (λe=>u7 e.symm)];exact N8.1
 refine UE A0 rfl (bB (v:= .int .i64 k) (w':=w1) (post:=λa' w'=>a'=(a.put (some tx) u).put (some tk) (.int .i64 k)∧w'=w1) ?_ ⟨rfl,rfl⟩ _ _ λa2 w2 ⟨ea,ew⟩=>?_)
 ·simp[execOp,ek]
 subst ea ew
 have g1:((a.put (some tx) u).put (some tk) (.int .i64 k)).eval (.tmp tx)=u:=by
  show((a.put (some tx) u).put (some tk) (.int .i64 k)).tmps.getD tx undef=_
  rw[JC _ _ _ (by simp[Act.put,hr.size];exact b5),if_neg t7,JC _ _ _ (by rw[hr.size];exact b4),if_pos rfl]
 have g2:((a.put (some tx) u).put (some tk) (.int .i64 k)).eval (.tmp tk)= .int .i64 k:=by
  show((a.put (some tx) u).put (some tk) (.int .i64 k)).tmps.getD tk undef=_
  rw[JC _ _ _ (by simp[Act.put,hr.size];exact b5),if_pos rfl]
 have BV:(execOp ((a.put (some tx) u).put (some tk) (.int .i64 k)).eval ⟨some tr, .call {callee:= .value (.func f),args,argTypes:=aty},ty3,ps3,af3,none⟩).run C.P w2=(callFunc f #[u, .int .i64 k]).run C.P w2:=by
  have hm:args.map ((a.put (some tx) u).put (some tk) (.int .i64 k)).eval= #[u, .int .i64 k]:=by
   apply Array.toList_inj.1;rw[Array.toList_map,QV];simp[g1,g2]
  simp[execOp,resolve,Deferred.ofValue,Act.eval,invoke];rw[show(args.map ((a.put (some tx) u).put (some tk) (.int .i64 k)).eval)= #[u, .int .i64 k]from hm]
 have S3:RL C.g T1 w2:=by
  have vV:=C.g.lt _ hr.glob.p;refine⟨C.g.stay w0 w2 (λc hc=>hr.heap.old c (Nat.lt_of_lt_of_le hc vV) (hr.glob.own c hc)) hr.glob.p,λc hc ho=>?_,Nat.le_trans hr.glob.base hr.heap.wx.size,λc hc ho=>?_⟩
  ·rcases O8 c ho with h | h
   ·omega
   ·exact hr.glob.own c hc h
  ·have:=hr.glob.base
   rcases O8 c ho with h | h
   ·omega
   ·exact hr.glob.low c hc h
 have hG:=hM f _ v7 w2 [u] u l2 k (l3,k') T1 rfl z7 N8.2 hF S3
 have dW:∀v w',(v= .int .i64 k'∧FB .i64 k'∧Wx w2 w'∧(∀b,b<w2.heap.size→¬T1 b→w'.heap[b]?=w2.heap[b]?)∧GB w' (λb=>T1 b∨w2.heap.size≤b) [u] (uG.enc (.sl t2) l3))→
   wpOps C.P ops Q rest (((a.put (some tx) u).put (some tk) (.int .i64 k)).put (some tr) v) w':=by
  rintro v w' ⟨rfl,DZ,lW,KV,hT⟩;refine rV _ _ _ w' ⟨oX w' lW KV hT _,λq=>?_,?_,?_,hr.glob⟩ hk
  ·rw[zfw hr.size b4 b5 b6];show VR w' _ _ _ (mV false (cA (cA (cA s tx .undef) tk .undef) tr (.int .i64 k') q))
   by_cases h1:q=tr
   ·subst h1;rw[if_pos rfl,tA];exact .int _ _ DZ
   rw[if_neg h1,kA _ _ _ _ h1]
   by_cases h2:q=tk
   ·subst h2;rw[tA];exact .undef _
   rw[if_neg h2,kA _ _ _ _ h2]
   by_cases h3:q=tx
   ·subst h3;rw[tA];exact .undef _
   rw[if_neg h3,kA _ _ _ _ h3];have:=DT (e:=false) (ρ':=qB false ri) (bad':=bA VA (qB false ri) (fB t' false (l.set i z) (cA (cA (cA s tx .undef) tk .undef) tr (.int .i64 k'))).h) (w':=w') (hr.slots q) λ_=>rfl
   have e:mV false ((fB t' false l s).s q)=mV false (s q):=by
    show mV false (mV false (s q))=_
    generalize s q=d;cases d<;>try rfl
    ·rename_i r1;simp only[mV];cases Nat.beq r1 0<;>rfl
    ·rename_i r1 _ _ _;simp only[mV];cases Nat.beq r1 0<;>rfl
   rw[e]at this;exact this
  ·simp[Act.put,hr.size]
  ·exact hr.defers
 refine UE ho3 rfl ?_;unfold Oper.wp;rw[BV]
 rcases hG with⟨h1,h2⟩ | ⟨v,w',h1,h2⟩
 ·rw[h1,Oper.upon_enter];refine Calls.mono' h2 λex w' hp=>?_;obtain⟨v,rfl,hp⟩:=hp;exact dW v w' hp
 ·rw[h1,Oper.upon_value];exact dW v w' h2
def zaM{l:List (El t)}{T0:Nat→Prop}{s':Nat→V}{k1 i1:Int}(wW:AA C w0 VA (Ow.of T0) (qB e ri) (fB t e l s') a w)(h1:mV e (s' 1)= .int .i64 k1)(h5:mV e (s' 5)= .int .i64 i1)(h0:uJ e (s' 0)=true)(q:Nat):
  VR w (qB e ri) (bA VA (qB e ri) (fB t e l (mL k1 i1)).h) (a.tmps.getD q undef) ((fB t e l (mL k1 i1)).s q):=by
 have hq:=wW.slots q;have hs:∀s2,(fB t e l s2).h=(fB t e l s').h:=λ_=>rfl;rw[hs];show VR w _ _ _ (bif e&&Nat.beq q 0 then .sl t []else mV e (mL k1 i1 q))
 change VR w _ _ _ (bif e&&Nat.beq q 0 then .sl t []else mV e (s' q))at hq;cases he:(e&&Nat.beq q 0)
 ·rw[he]at hq;simp only[cond_false]at hq⊢
  match q,he,hq with
  | 0,he,hq=>
   cases e with
   | true=>cases he
   | false=>
    unfold uJ at h0;simp only[Bool.false_or]at h0;split at h0
    ·rename_i r1 NX;obtain rfl:=Nat.eq_of_beq_eq_true h0;rw[NX]at hq;exact hq
    ·cases h0
  | 1,_,hq=>rw[h1]at hq;exact hq
  | 2,_,_=>exact .undef _
  | 3,_,_=>exact .undef _
  | 4,_,_=>exact .undef _
  | 5,_,hq=>rw[h5]at hq;exact hq
  | q+6,_,_=>exact .undef _
 ·rw[he]at hq;exact hq
def zaJ{M:Nat→Option AC}{fu:Nat}{md:List (Nat×Nat)}{T0:Nat→Prop}{c:Code}{K:Ex→List (El t)→(Nat→V)→Option R}{r:R}{Q:Exit→Act→World→Prop}
  (body:∀ (l:List (El t)) (s:Nat→V) (a:Act) (w:World) (K:Ex→List (El t)→(Nat→V)→Option R) (Q:Exit→Act→World→Prop),AA C w0 VA (Ow.of T0) (qB e ri) (fB t e l s) a w→FE C M fu md t e c l s K=some r→
   (∀ex l' s' a' w',AA C w0 VA (Ow.of T0) (qB e ri) (fB t e l' s') a' w'→K ex l' s'=some r→Q (OF ex) a' w')→c.wp C.P Q a w)
  (rV:∀ex l' s' a' w',AA C w0 VA (Ow.of T0) (qB e ri) (fB t e l' s') a' w'→K ex l' s'=some r→Q (OF ex) a' w'):
  ∀ (n:Nat) (l:List (El t)) (k i:Int) (a:Act) (w:World),AA C w0 VA (Ow.of T0) (qB e ri) (fB t e l (mL k i)) a w→
   yA n (λ(x:List (El t)×Int×Int) (k':List (El t)×Int×Int→Option R)=>
    FE C M fu md t e c x.1 (mL x.2.1 x.2.2) λex l' s'=>match ex with
     | .normal=>match mV e (s' 1),mV e (s' 5)with
      | .int .i64 k1, .int .i64 i1=>gd (uJ e (s' 0)) (k' (l',k1,i1)) none
      | _,_=>none
     | ex=>K ex l' s') (l,k,i)=some r→Code.rounds C.P c Q n a w
 | 0,l,k,i,a,w,hr,h=>by simp[yA]at h
 | n+1,l,k,i,a,w,hr,h=>by
  rw[rounds_succ];simp only[yA]at h;refine body l _ a w _ _ hr h λex l' s' a' w' wW hk=>?_;cases ex with
  | exit id=>exact rV (.exit id) l' s' a' w' wW hk
  | ret=>exact rV .ret l' s' a' w' wW hk
  | normal=>
   simp only at hk;split at hk
   case h_2=>cases hk
   rename_i k1 i1 h1 h5;cases h0:uJ e (s' 0)
   ·rw[h0]at hk;cases hk
   rw[h0]at hk;simp only[iB]at hk;exact zaJ body rV n l' k1 i1 a' w' ⟨wW.heap,zaM wW h1 h5 h0,wW.size,wW.defers,wW.glob⟩ hk
def zbI(hC:VC C)(hΦ:cD C){M:Nat→Option AC}(hM:AD C.P M C.g){fu:Nat}{md:List (Nat×Nat)}{T0:Nat→Prop}{r:R}:
  ∀(c:Code) (l:List (El t)) (s:Nat→V) (a:Act) (w:World) (K:Ex→List (El t)→(Nat→V)→Option R) (Q:Exit→Act→World→Prop),
   AA C w0 VA (Ow.of T0) (qB e ri) (fB t e l s) a w→FE C M fu md t e c l s K=some r→
   (∀ex l' s' a' w',AA C w0 VA (Ow.of T0) (qB e ri) (fB t e l' s') a' w'→K ex l' s'=some r→Q (OF ex) a' w')→c.wp C.P Q a w:=by
 have KV:∀q,128+128 *0≤q→qB e ri q=none:=λq hq=>by
  simp only[qB]
  have:Nat.beq q 0=false:=by
   cases h:Nat.beq q 0
   ·rfl
   ·have:=Nat.eq_of_beq_eq_true h;omega
  rw[this,Bool.and_false];rfl
 intro c;induction c with
 | skip=>intro l s a w K Q hr qV rV;exact wp_skip (rV .normal l s a w hr qV)
 | exit id=>intro l s a w K Q hr qV rV;exact wp_exit (rV (.exit id) l s a w hr qV)
 | ret=>intro l s a w K Q hr qV rV;exact wp_ret (rV .ret l s a w hr qV)
 | region id ops d=>
  intro l s a w K Q hr qV rV;simp only[FE]at qV;cases d with
  | true=>cases qV
  | false=>
   simp only[aG]at qV;refine wp_region ?_;rw[List.range_eq_range'];split at qV
   ·have key:=λhp=>gQ hC hΦ (Q:=Q) 0 ops.size 0 _ a w _ hr KV qV hp;refine key λst' a' w' ρ' h1 h2 h3=>?_;obtain⟨l',k1,k2⟩:=FT h1 h2 h3;exact rV .normal l' _ a' w' k2 k1
   ·rename_i n _;cases e with
    | true=>cases qV
    | false=>
     simp only[Bool.false_or]at qV;cases hn:Nat.ble (n+3) ops.size
     ·rw[hn]at qV;cases qV
     rw[hn]at qV;simp only[Bool.not_true,aG]at qV;have JV:=Nat.le_of_ble_eq_true hn;have key:=λhp=>gQ hC hΦ (Q:=Q) (ops.size - n) n 0 _ a w _ hr KV qV hp;rw[show n+(ops.size - n)=ops.size by omega]at key
     ·refine key λst' a' w' ρ' h1 h2 h3=>?_;obtain⟨l1,k1,k2⟩:=FT h1 h2 h3;rw[show ops.size - n=(ops.size - (n+3))+1+1+1 by omega,Nat.zero_add,List.range'_succ,List.range'_succ,List.range'_succ];refine zgy hM k2 k1 λl2 s2 a2 w2 AY h4=>?_;have key2:=λhp=>gQ hC hΦ (Q:=Q) 0 (ops.size - (n+3)) (n+3) _ a2 w2 _ AY (λq hq=>KV q (by omega)) h4 hp;refine key2 λst3 a3 w3 ρ3 g1 g2 g3=>?_;obtain⟨l4,m1,m2⟩:=FT g1 g2 g3;exact rV .normal l4 _ a3 w3 m2 m1
 | seq x y ihx ihy=>
  intro l s a w K Q hr qV rV;simp only[FE]at qV;refine wp_seq (ihx l s a w _ _ hr qV λex l' s' a' w' wW hk=>?_);cases ex with
  | normal=>exact ihy l' s' a' w' K Q wW hk rV
  | exit id=>exact rV (.exit id) l' s' a' w' wW hk
  | ret=>exact rV .ret l' s' a' w' wW hk
 | cond c x y ihx ihy=>
  intro l s a w K Q hr qV rV;cases c with
  | tmp t1=>
   simp only[FE]at qV;cases MY:Nat.beq t1 0
   case true=>rw[MY]at qV;cases qV
   rw[MY]at qV;simp only[aG]at qV;split at qV
   case h_2=>cases qV
   rename_i b hs;have hc:=hr.slots t1
   have hc:VR w (qB e ri) (bA VA (qB e ri) (fB t e l s).h) (a.tmps.getD t1 undef) (.bool b):=by
    change VR w _ _ _ (bif e&&Nat.beq t1 0 then .sl t []else mV e (s t1))at hc;rw[MY,Bool.and_false]at hc;simp only[cond_false]at hc;rw[hs]at hc;exact hc
   have hv:a.eval (.tmp t1)= .bool b:=by
    show a.tmps.getD t1 undef=_
    generalize a.tmps.getD t1 undef=v at hc;cases hc;rfl
   cases b with
   | true=>exact wp_cond_true hv (ihx l s a w K Q hr qV rV)
   | false=>exact wp_cond_false hv (ihy l s a w K Q hr qV rV)
  | const v=>cases qV
  | global g=>cases qV
  | func f=>cases qV
 | block id x ih=>
  intro l s a w K Q hr qV rV;simp only[FE]at qV;refine wp_block (ih l s a w _ _ hr qV λex l' s' a' w' wW hk=>?_);cases ex with
  | normal=>exact rV .normal l' s' a' w' wW hk
  | ret=>exact rV .ret l' s' a' w' wW hk
  | exit id'=>
   simp only at hk;show(if id'=id then Q .normal a' w' else Q (.exit id') a' w')
   cases hb:Nat.beq id' id
   ·rw[hb]at hk;have:id'≠id:=λe=>by rw[e,Nat.beq_refl]at hb;cases hb
    rw[if_neg this];exact rV (.exit id') l' s' a' w' wW hk
   ·rw[hb]at hk;rw[if_pos (Nat.eq_of_beq_eq_true hb)];exact rV .normal l' s' a' w' wW hk
 | loop x ih=>
  intro l s a w K Q hr qV rV;simp only[FE]at qV;split at qV
  case h_2=>cases qV
  rename_i k i h1 h5;cases h0:uJ e (s 0)
  ·rw[h0]at qV;cases qV
  rw[h0]at qV;simp only[iB]at qV;exact wp_loop_rounds fu (zaJ (λl s a w K Q=>ih l s a w K Q) rV fu l k i a w ⟨hr.heap,zaM hr h1 h5 h0,hr.size,hr.defers,hr.glob⟩ qV)
 | _=>intro l s a w K Q hr qV rV;cases qV
def TU{outer:Nat→Prop}(hr:AA C w0 outer own ρ st a w){fn:Func}{tr:Nat}{k:Int}(h:fn.results.toList=[.tmp tr])(hs:st.s tr= .int .i64 k):
  (results fn a.tmps).run C.P w= .ok (.int .i64 k) w∧FB .i64 k:=by
 obtain⟨rv,cells,h1,h2,h3,h4⟩:=NR hr (fn:=fn) (sh:=[(false,1)]) (vs:=[.int .i64 k]) (by rw[h];simp[yE,hs,V.leaf]);cases h1 with
 | one v nZ=>
  cases nZ;have:=h3 0 (by simp);simp only[List.getD_cons_zero,List.getElem_cons_zero]at this;cases this with
  | int _ _ hf=>exact⟨by simpa using h4,hf⟩
def zhx{T:Nat→Prop}{b cap:Nat}{x:List (El t)}{par:Nat→Option (Nat×Nat)}{X o:Nat}(hX:par X=none)(hd:DV w VA T par (X,o) (.slice (some (iA b 0)) x.length cap) (.sl t x))(VW:x≠[])(s:Nat→V):
  EA w VA (Ow.of T) (qB false ⟨b,x.length,cap,false⟩) (fB t false x s).h w∧x.length≤cap∧cap≤maxLen:=by
 generalize P8:Value.slice (some (iA b 0)) x.length cap=v at hd;cases hd with
 | triv _ _ _ h=>
  have:=h w (λ_=>none) (λ_=>True);cases this with
  | slE=>exact absurd rfl VW
  | slC _ _ _ _ _ _ hb=>exact absurd trivial hb
 | sl _ _ _ b' cap' u hb hf hp he hl hc hz hu hv=>
  have e1:b=b':=by injection P8 with h _ _;injection h with h;exact congrArg Addr.block h
  have e2:cap=cap':=by injection P8
  subst e1 e2;have hXb:X≠b:=λe=>by rw[e,hp]at hX;cases hX
  have uV:∀c,bA VA (qB false ⟨b,x.length,cap,false⟩) (fB t false x s).h c→c=b:=by
   rintro c (h | ⟨q,row,qi,h1,h2,h3,h4,h5⟩)
   ·exact h.elim
   ·simp only[qB,Bool.not_false,Bool.true_and]at h3;cases hq:Nat.beq q 0
    ·rw[hq]at h3;cases h3
    ·rw[hq]at h3;cases h3;exact h5.symm
  have wY:∀o',¬nD par (b,o') b:=λo' h=>by
   cases h with
   | one _ h=>rw[hp]at h;cases h;exact hXb rfl
   | step _ c o1 h hc=>rw[hp]at h;cases h;exact hc.ne hX
  let par2:Nat→Option (Nat×Nat):=λc=>if c=b then none else par c
  have L1:∀i (h:i<x.length) j,j<sz t→DV w (bA VA (qB false ⟨b,x.length,cap,false⟩) (fB t false x s).h) (XC w (Ow.of T)) par2 (b,i *sz t+j) (u i j) ((enc t x[i]).getD j .undef):=λi hi j hj=>by
   refine(hv i hi j hj).genT (nD par (b,i *sz t+j)) (λc h=> .one c h) (λc q h h'=> .step c q.1 q.2 h' h) (λ_ _ _ _ _=>rfl) (λc hc _ _ h=>?_) (λc _ h=> .inr h) (λc hc _ _ _ h=>?_) λc q hc _ _ _ hq h=>?_
   ·have:=uV c h;subst this;exact absurd hc (wY _)
   ·show(if c=b then none else par c)=_
    rw[if_neg];exact h;intro e;subst e;exact wY _ hc
   ·show(if c=b then none else par c)=_
    rw[if_neg];exact h;intro e;subst e;exact wY _ hc
  refine⟨⟨Wx.refl _,λ_ _ _=>rfl,λb h=>h.elim,λq row hq=>?_,λq q' row row' qi qi' h1 h2 _ _ _ _ _=>?_,par2,λq t1 l1 m1 qi h1 hm h2 h3=>?_⟩,hl,hc⟩
  ·simp only[fB,Bool.not_false,Bool.true_and]at hq;cases IW:Nat.beq q 0
   ·rw[IW]at hq;cases hq
   ·obtain rfl:=Nat.eq_of_beq_eq_true IW;cases hq;refine⟨_,rfl,⟨rfl, .inr ⟨rfl,he,hl,hc,hz,λi hi j hj=>⟨u i j,hu i hi j hj,(L1 i hi j hj).vr _⟩⟩⟩,λ_=>⟨⟨λh=>h,λ_=> .inr hf⟩,?_⟩⟩;have:0<x.length:=List.length_pos_iff.2 VW;exact QH (hu 0 this 0 (xF t))
  ·simp only[fB,Bool.not_false,Bool.true_and]at h1 h2;cases IW:Nat.beq q 0
   ·rw[IW]at h1;cases h1
   ·cases R3:Nat.beq q' 0
    ·rw[R3]at h2;cases h2
    ·rw[Nat.eq_of_beq_eq_true IW,Nat.eq_of_beq_eq_true R3]
  ·simp only[fB,Bool.not_false,Bool.true_and]at h1;cases IW:Nat.beq q 0
   ·rw[IW]at h1;cases h1
   ·obtain rfl:=Nat.eq_of_beq_eq_true IW;cases h1;cases h2;exact⟨if_pos rfl,λi hi j hj=>⟨u i j,hu i hi j hj,L1 i hi j hj⟩⟩
def zgu{l:List (El t)}{T:Nat→Prop}{w':World}{b n cap:Nat}{s:Nat→V}(hh:EA w VA (Ow.of T) (qB false ⟨b,n,cap,false⟩) (fB t false l s).h w'):
  GB w' (λc=>T c∨w.heap.size≤c) [.slice (some (iA b 0)) n cap] [.sl t l]:=by
 have sV:(fB t false l s).h 0=some ⟨.arr t l, .tre⟩:=rfl;obtain⟨ri,k1,k2,k3⟩:=hh.rows 0 _ sV;cases k1;obtain⟨par,sW⟩:=hh.dep;obtain⟨eY,wV⟩:=sW 0 t l .tre _ sV rfl rfl rfl;have hn:n=l.length:=k2.1
 rcases k2.2 with h | ⟨_,he,h1,h2,h3,_⟩
 ·cases h.1
 have vV:b<w'.heap.size:=(k3 rfl).2;let par3:Nat→Option (Nat×Nat):=λc=>if c=b then some (w'.heap.size,0)else if c=w'.heap.size then none else par c
 refine⟨rfl,par3,w'.heap.size,0,?_,λj hj=>?_⟩
 ·show(if w'.heap.size=b then _ else if w'.heap.size=w'.heap.size then none else _)=none
  rw[if_neg (by omega),if_pos rfl]
 ·have:j=0:=by simpa using hj
  subst this;subst hn
  have L1:∀i (h:i<l.length) j,j<sz t→DV w' VA (λc=>T c∨w.heap.size≤c) par3 (b,i *sz t+j) ((w'.cell? (iA b (i *sz t+j))).getD undef) ((enc t l[i]).getD j .undef):=λi hi j hj=>by
   obtain⟨u,c1,c2⟩:=wV i hi j hj;have c1:w'.cell? (iA b (i *sz t+j))=some u:=c1;rw[c1,Option.getD_some]
   have iW:∀c q,EB w' c→par c=some q→par3 c=some q:=λc q hc h=>by
    show(if c=b then _ else if c=w'.heap.size then none else par c)=_
    rw[if_neg,if_neg]
    ·exact h
    ·have:=hc.lt;omega
    ·intro e;subst e;rw[eY]at h;cases h
   exact c2.gen (λ_ _ _ _=>rfl) (λ_ _ _ h=>h.elim) (λc h=>h.elim .inr .inl) (λc _ hc _ h=>iW c _ hc h) λc q _ hc _ _ h=>iW c q hc h
  exact .sl _ t l b cap (λi j=>(w'.cell? (iA b (i *sz t+j))).getD undef) (λh=>h) (((k3 rfl).1.2 rfl).elim .inr .inl) (by show(if b=b then _ else _)=_;rw[if_pos rfl]) he h1 h2 h3
   (fun i hi j hj=>by
    obtain⟨u,c1,_⟩:=wV i hi j hj;have c1:w'.cell? (iA b (i *sz t+j))=some u:=c1;rw[c1];rfl) L1
omit [aA]in
def zaz {P : Program} {f : Nat} {fn : Func} {body : Code} {args : Array Value} {w : World} (hf : P.funcs[f]? = some fn) (hb : fn.body = some body) (PV : (fn.name == "runtime.NumGoroutine") = false) {post : Value → World → Prop}
  (h:body.wp P (bodyPost P fn λe w'=>∃z,e= .returned z∧post z w') {tmps:=args++Array.replicate (fn.ntmps - args.size) undef,defers:=[]} w):MT P f args w post:=by
 refine .inl ⟨?_,calls_of_wp hf hb h⟩
 have uW : ¬ fn.name = "runtime.NumGoroutine" := by simpa using PV
 simp[callFunc,program,hf,hb,uW,Sem.run]
def zgO (hC : VC C) (hΦ : cD C) {M : Nat → Option AC} (hM : AD C.P M C.g) {f : Nat} {fn : Func} {body : Code} (hf : C.P.funcs[f]? = some fn) (hb : fn.body = some body) (PV : (fn.name == "runtime.NumGoroutine") = false)
  (I3:C.nt=fn.ntmps) (SY:Nat.ble 2 fn.ntmps=true) (md:List (Nat×Nat)) (t:TN) (F:List (El t)→Int→Option (List (El t)×Int))
  (wX:∀l k r,FB .i64 k→F l k=some r→OL C M FU fn body md t false l k=some r) (A7:∀k r,FB .i64 k→F [] k=some r→OL C M 1 fn body md t true [] k=some r):
  RC C.P f ⟨.sl t,F⟩ C.g:=by
 intro w us v x k r T hv hT hk hF hg;obtain⟨B7,par,X,o,hX,hd⟩:=hT;have B7:us.length=1:=B7;obtain⟨u,rfl⟩:=List.length_eq_one_iff.1 B7;have hv:v=u:=hv;subst hv;have hd:=hd 0 (by show 0<1;omega);rw[Nat.add_zero]at hd;have hd:DV w VA T par (X,o) v (.sl t x):=hd;have SY:=Nat.le_of_ble_eq_true SY;refine zaz hf hb PV ?_;generalize EZ:({tmps:= #[v, .int .i64 k]++Array.replicate (fn.ntmps - (#[v, .int .i64 k]:Array Value).size) undef,defers:=[]}:Act)=a0;have xV:a0.tmps.size=C.nt:=by subst EZ;simp;omega
 have R4:a0.defers=[]:=by subst EZ;rfl
 have g0:a0.tmps.getD 0 undef=v:=by subst EZ;rw[Array.getD_eq_getD_getElem?,Array.getElem?_append_left (by simp)];rfl
 have g1:a0.tmps.getD 1 undef= .int .i64 k:=by subst EZ;rw[Array.getD_eq_getD_getElem?,Array.getElem?_append_left (by simp)];rfl
 have frame:∀(e:Bool) (ri:RI) (l:List (El t)) (s:Nat→V) (a':Act) (w':World),AA C w VA (Ow.of T) (qB e ri) (fB t e l s) a' w'→
   Wx w w'∧∀b,b<w.heap.size→¬T b→w'.heap[b]?=w.heap[b]?:=λe ri l s a' w' h=>⟨h.heap.wx,h.heap.old⟩
 -- behind the body
 have aB:∀(e:Bool) (ri:RI) (ex:Ex) (l':List (El t)) (s':Nat→V) (a':Act) (w':World),AA C w VA (Ow.of T) (qB e ri) (fB t e l' s') a' w'→(l'=r.1→GB w' (λb=>T b∨w.heap.size≤b) [v] [.sl t r.1])→
   UT fn t e ex l' s'=some r→
   bodyPost C.P fn (λe w'=>∃z,e= .returned z∧z= .int .i64 r.2∧FB .i64 r.2∧Wx w w'∧(∀b,b<w.heap.size→¬T b→w'.heap[b]?=w.heap[b]?)∧GB w' (λb=>T b∨w.heap.size≤b) [v] [.sl t r.1]) (OF ex) a' w':=by
  intro e ri ex l' s' a' w' hr T3 hk;obtain⟨rZ,tr,qW,MY,hs,hl,_⟩:=zay hk
  have key : a'.defers =[]∧∃z,(results fn a'.tmps).run C.P w' = .ok z w'∧∃z', Ending.returned z = .returned z'∧z' = .int .i64 r.2∧FB .i64 r.2∧Wx w w'∧(∀b, b < w.heap.size→¬T b→w'.heap[b]? = w.heap[b]?)∧
      GB w' (λb=>T b∨w.heap.size≤b) [v] [.sl t r.1]:=by
   obtain⟨h1,h2⟩:=TU hr qW (k:=r.2) (by show(bif e&&Nat.beq tr 0 then _ else mV e (s' tr))=_;rw[MY,Bool.and_false];exact hs);obtain⟨h3,h4⟩:=frame e ri l' s' a' w' hr;exact⟨hr.defers,_,h1,_,rfl,rfl,h2,h3,h4,T3 hl⟩
  rcases rZ with rfl | rfl
  ·exact key
  ·exact key
 have slots0:∀(e:Bool) (ρ:Nat→Option RI) (bad:Nat→Prop) (q:Nat),VR w ρ bad v (bif e then .sl t []else .ow 0)→
   VR w ρ bad (a0.tmps.getD q undef) ((fB t e x (λj=>match j with | 0=> .ow 0 | 1=> .int .i64 k | _=> .undef)).s q):=λe ρ bad q h=>by
  match q with
  | 0=>rw[g0];cases e<;>exact h
  | 1=>rw[g1];cases e<;>exact .int _ _ hk
  | q+2=>
   have:(fB t e x (λj=>match j with | 0=> .ow 0 | 1=> .int .i64 k | _=> .undef)).s (q+2)= .undef:=by
    show(bif e&&Nat.beq (q+2) 0 then _ else _)=_
    have:Nat.beq (q+2) 0=false:=rfl;rw[this,Bool.and_false];rfl
   rw[this];exact .undef _
 by_cases VW:x=[]
 ·-- no row
  subst VW;have dZ:VR w (λ_=>none) VA v (.sl t []):=(hd.vr _)
  have rY:∃ao cap,v= .slice ao 0 cap∧cap≤maxLen:=by
   cases dZ with
   | slE _ ao cap h=>exact⟨ao,cap,rfl,h⟩
   | slC _ _ b off cap _ _ _ h=>exact⟨_,cap,rfl,h⟩
  obtain⟨ao,cap,rfl,tX⟩:=rY;have nZ:=A7 k r hk hF;refine zbI hC hΦ hM (T0:=T) (ri:=⟨0,0,0,true⟩) body [] _ a0 w _ _ ⟨?_,λq=>slots0 true _ _ q (.slE _ _ _ tX),xV,R4,hg⟩ nZ λex l' s' a' w' hr hk=>?_
  ·exact⟨Wx.refl _,λ_ _ _=>rfl,λb h=>h.elim,λq row hq=>(by cases hq),λq q' row row' qi qi' h1=>(by cases h1),pB.zero λq t l m hq=>(by cases hq)⟩
  ·have tW:r.1=[]:=(zay hk).2.elim λ_ h=>h.2.2.2.2 rfl;refine aB true _ ex l' s' a' w' hr (λ_=>?_) hk
   ·rw[tW];refine⟨rfl,λ_=>none,0,0,rfl,λj hj=>?_⟩;have:j=0:=by simpa using hj
    subst this;exact .triv _ _ _ λ_ _ _=> .slE _ _ _ tX
 ·have rY:∃b cap,v= .slice (some (iA b 0)) x.length cap:=by
   cases hd with
   | triv _ _ _ h=>
    have:=h w (λ_=>none) (λ_=>True);cases this with
    | slE=>exact absurd rfl VW
    | slC _ _ _ _ _ _ hb=>exact absurd trivial hb
   | sl _ _ _ b cap=>exact⟨b,cap,rfl⟩
  obtain⟨b,cap,rfl⟩:=rY;obtain⟨h1,h2,h3⟩:=zhx hX hd VW (λj=>match j with | 0=> .ow 0 | 1=> .int .i64 k | _=> .undef);refine zbI hC hΦ hM (T0:=T) (ri:=⟨b,x.length,cap,false⟩) body x _ a0 w _ _ ⟨h1,λq=>slots0 false _ _ q (.ow 0 ⟨b,x.length,cap,false⟩ rfl h2 h3 rfl),xV,R4,hg⟩ (wX x k r hk hF) λex l' s' a' w' hr hk=>?_;refine aB false _ ex l' s' a' w' hr (λe=>?_) hk;subst e;exact zgu hr.heap
end
end Go.D
namespace Go.D
variable [aA]
section
variable {w w':World} {bad bad' fr fr':Nat→Prop} {par par':Nat→Option (Nat×Nat)} {p p':Nat×Nat} {v:Value} {d d':V} {T:Nat→Prop} {us:List Value} {ds es:List V}
def DV.bnd(hd:DV w bad fr par p v d):DV w bad (λb=>fr b∧b<w.heap.size) par p v d:=by
 induction hd with
 | triv p v d h=>exact .triv _ _ _ h
 | sl p t l b cap u DX eX hp he SW EX hz hu hv ih=>
  by_cases hl:l.length=0
  ·obtain rfl:=List.eq_nil_of_length_eq_zero hl;exact .triv _ _ _ λ_ _ _=> .slE _ _ _ EX
  ·exact .sl p t l b cap u DX ⟨eX,QH (hu 0 (by omega) 0 (xF t))⟩ hp he SW EX hz hu ih
def GB.keep(h:GB w T us ds){T':Nat→Prop}(hw:∀b,T b→b<w.heap.size→w'.heap[b]?=w.heap[b]?)(hT:∀b,T b→b<w.heap.size→T' b):GB w' T' us ds:=by
 obtain⟨h1,par,X,o,hX,h2⟩:=h;refine⟨h1,par,X,o,hX,λj hj=>?_⟩;exact(h2 j hj).bnd.gen (λb _ _ hb=>hw b hb.1 hb.2) (λ_ _ _ h=>h) (λb hb=>hT b hb.1 hb.2) (λ_ _ _ _ h=>h) λ_ _ _ _ _ _ h=>h
def GB.bnd(h:GB w T us ds):GB w (λb=>T b∧b<w.heap.size) us ds:=h.keep (λ_ _ _=>rfl) λ_ h h'=>⟨h,h'⟩
def GB.vr(h:GB w T us ds)(ρ:Nat→Option RI)(j:Nat)(hj:j<ds.length):VR w ρ VA (us.getD j undef) ds[j]:=by
 obtain⟨_,par,X,o,hX,h2⟩:=h;exact(h2 j hj).vr ρ
omit [aA]in
def zhw{par:Nat→Option (Nat×Nat)}{X i j:Nat}(hX:par X=none){b:Nat}(h:nD par (X,i) b)(h':nD par (X,j) b):i=j:=by
 have:=h.uniq hX hX h';exact(Prod.mk.inj this).2
def zfN(hT:GB w T us ds){off n:Nat}(hn:off+n≤ds.length)(EW:es.length=n)(hs:∀j (hj:j<n) (h:j<es.length),dE (ds[off+j]'(by omega)) es[j]):
  ∃T',(∀b,T' b→T b)∧GB w T' ((us.drop off).take n) es∧
   ∀w' es',w.heap.size≤w'.heap.size→es'.length=n→(∀b,b<w.heap.size→¬T' b→w'.heap[b]?=w.heap[b]?)→GB w' (λb=>T' b∨w.heap.size≤b) ((us.drop off).take n) es'→
    GB w' (λb=>T b∨w.heap.size≤b) us (MB ds off es'):=by
 classical
 obtain⟨tV,par,X,o,hX,hd⟩:=hT;let T':Nat→Prop:=λb=>T b∧∃j,j<n∧nD par (X,o+(off+j)) b
 have AX:∀j,j<n→((us.drop off).take n).getD j undef=us.getD (off+j) undef:=λj hj=>by
  rw[List.getD_eq_getElem?_getD,List.getElem?_take,if_pos hj,List.getElem?_drop, ←List.getD_eq_getElem?_getD]
 refine⟨T',λb h=>h.1,⟨by simp;omega,par,X,o+off,hX,λj hj=>?_⟩,λw' es' xV U3 KV ⟨_,par1,X1,o1,hX1,hd1⟩=>?_⟩
 ·have EY:j<n:=by omega
  rw[AX j EY,Nat.add_assoc]
  exact((hd (off+j) (by omega)).str (λb=>∃j,j<n∧nD par (X,o+(off+j)) b) (λb h=>⟨j,EY, .one b h⟩) λb c o' ⟨i,hi,hc⟩ h=>⟨i,hi, .step b c o' h hc⟩).gen
   (λ_ _ _ _=>rfl) (λ_ _ _ h=>h) (λb h=>⟨h.2.1,h.2.2⟩) (λ_ _ _ _ h=>h) (λ_ _ _ _ _ _ h=>h) |>.sub (hs j EY hj)
 let Tf:Nat→Prop:=λb=>T' b∨w.heap.size≤b;let XX:=w'.heap.size
 let par2:Nat→Option (Nat×Nat):=λb=>if b=XX then none else if Tf b then
   (match par1 b with | some q=>if q.1=X1 then some (XX,off+(q.2 - o1))else some q | none=>none)
  else(match par b with | some q=>if q.1=X then some (XX,q.2 - o)else some q | none=>none)
 have hXX:par2 XX=none:=by simp[par2]
 have UV:∀b q,b<w'.heap.size→Tf b→par1 b=some q→par2 b=if q.1=X1 then some (XX,off+(q.2 - o1))else some q:=λb q hb ht hp=>by
  have:b≠XX:=λe=>by simp only[XX]at e;omega
  simp only[par2,if_neg this,if_pos ht,hp]
 have VV:∀b q,b<w'.heap.size→¬Tf b→par b=some q→par2 b=if q.1=X then some (XX,q.2 - o)else some q:=λb q hb ht hp=>by
  have:b≠XX:=λe=>by simp only[XX]at e;omega
  simp only[par2,if_neg this,if_neg ht,hp]
 have rY:(MB ds off es').length=ds.length:=by simp[MB];omega
 refine⟨by rw[rY];exact tV,par2,XX,0,hXX,λj hj=>?_⟩;rw[Nat.zero_add];obtain⟨_,hg⟩:=MK ds off es' (by omega);have Q8:j<ds.length:=by omega
 rw[hg j Q8 hj]
 by_cases fW:off≤j∧j<off+es'.length
 ·rw[dif_pos fW];have h1:=hd1 (j - off) (by omega);rw[AX _ (by omega),show off+(j - off)=j by omega]at h1;refine h1.bnd.gen (λ_ _ _ _=>rfl) (λ_ _ _ h=>h) (λb h=>h.1.imp (λh=>h.1) id) (λb _ _ hb hp=>?_) λb q _ _ hb hq hp=>?_
  ·rw[UV b _ hb.2 hb.1 hp,if_pos rfl];simp only[Option.some.injEq,Prod.mk.injEq,true_and];omega
  ·rw[UV b _ hb.2 hb.1 hp,if_neg];rintro e;rw[e]at hq;exact hq hX1
 ·rw[dif_neg fW];have h1:=hd j Q8
  have nW:∀b,nD par (X,o+j) b→b<w.heap.size→¬Tf b:=λb hb vV h=>by
   rcases h with⟨_,i,hi,h⟩ | h
   ·have:=zhw hX hb h;omega
   ·omega
  refine h1.genT (nD par (X,o+j)) (λb h=> .one b h) (λb q h h'=> .step b q.1 q.2 h' h) (λb hb _ hc _=>KV b hc.lt λh=>nW b hb hc.lt (.inl h)) (λ_ _ _ _ h=>h) (λb _ h=> .inl h) (λb hb _ hc _ hp=>?_) λb q hb _ hc _ hq hp=>?_
  ·rw[VV b _ (Nat.lt_of_lt_of_le hc.lt xV) (nW b hb hc.lt) hp,if_pos rfl];simp only[Option.some.injEq,Prod.mk.injEq,true_and];omega
  ·rw[VV b _ (Nat.lt_of_lt_of_le hc.lt xV) (nW b hb hc.lt) hp,if_neg];rintro e;rw[e]at hq;exact hq hX
end
def kJ(h:Nat→Option gA):V→V
 | .ow r=>match h r with
  | some ⟨.arr t l,_⟩=> .sl t l
  | _=> .undef
 | v=>v
def zcC(w:World)(ρ:Nat→Option RI)(h:Nat→Option gA)(cs:List V):Nat→Prop:=λb=>
 w.heap.size≤b∧(¬bA VA ρ h b∨∃(j r:Nat) (ri:RI),cs[j]?=some (V.ow r)∧ρ r=some ri∧ri.nl=false∧ri.b=b)
open Classical in
theorem zfl{w w':World}{ρ:Nat→Option RI}{h:Nat→Option gA}{us:List Value}{cs:List V}(hh:EA w VA (Ow.of VA) ρ h w')(ht:vD h [] cs=true)(hl:us.length=cs.length)
  (hv:∀j (hj:j<cs.length),VR w' ρ (bA VA ρ h) (us.getD j undef) cs[j]):GB w' (zcC w ρ h cs) us (cs.map (kJ h)):=by
 obtain⟨t1,t2⟩:=PI _ _ ht;obtain⟨par,sW⟩:=hh.dep;let At:Nat→Nat→Prop:=λc j=>∃r ri,cs[j]?=some (V.ow r)∧ρ r=some ri∧ri.nl=false∧ri.b=c
 have jF:∀j r,cs[j]?=some (V.ow r)→∃t,∃l:List (El t),∃m,h r=some ⟨.arr t l,m⟩∧AB true t m=true:=λj r hj=>by
  rcases t1 j _ hj with⟨r',t,l,m,e,h1,h2,_⟩ | ⟨_,h2,_⟩
  ·cases e;exact⟨t,l,m,h1,h2⟩
  ·exact absurd rfl (h2 r)
 have atUniq:∀c i j,At c i→At c j→i=j:=by
  rintro c i j ⟨r,ri,h1,h2,h3,h4⟩ ⟨r',ri',k1,k2,k3,k4⟩;obtain⟨_,_,_,e1,_⟩:=jF i r h1;obtain⟨_,_,_,e2,_⟩:=jF j r' k1;have:=hh.inj r r' _ _ ri ri' e1 e2 h2 k2 h3 k3 (h4.trans k4.symm);subst this;exact t2 i j r h1 k1
 have atBad:∀c j,At c j→bA VA ρ h c:=by
  rintro c j ⟨r,ri,h1,h2,h3,rfl⟩;obtain⟨_,_,m,e1,e2⟩:=jF j r h1;exact .inr ⟨r,_,ri,e1,DL e2,h2,h3,rfl⟩
 let X:=w'.heap.size;let par1:Nat→Option (Nat×Nat):=λc=>if c=X then none else if h1:∃j,At c j then some (X,Classical.choose h1)else par c
 have p1:∀c j,c<w'.heap.size→At c j→par1 c=some (X,j):=λc j hc ha=>by
  have h1:∃j,At c j:=⟨j,ha⟩;have h2:c≠X:=by simp only[X];omega
  simp only[par1,if_neg h2,dif_pos h1];rw[atUniq c _ j (Classical.choose_spec h1) ha]
 have p2:∀c q,¬bA VA ρ h c→EB w' c→par c=some q→par1 c=some q:=λc q hb hc hp=>by
  have h1:¬∃j,At c j:=λ⟨j,ha⟩=>hb (atBad c j ha);have h2:c≠X:=by have:=hc.lt;simp only[X];omega
  simp only[par1,if_neg h2,dif_neg h1,hp]
 refine⟨by simpa using hl,par1,X,0,by simp[par1],λj hj=>?_⟩;have R8:j<cs.length:=by simpa using hj
 rw[Nat.zero_add,List.getElem_map];have hu:=hv j R8;have S4:cs[j]?=some cs[j]:=List.getElem?_eq_getElem R8
 rcases t1 j _ S4 with⟨r,t,l,m,e,hr,EV,_⟩ | ⟨_,_,K6⟩
 ·rw[e]at hu S4⊢;have hcd:kJ h (.ow r)= .sl t l:=by simp only[kJ,hr]
  rw[hcd];obtain⟨ri,k1,k2,k3⟩:=hh.rows r _ hr;generalize us.getD j undef=u at hu⊢;cases hu with
  | owN _ ri' ao h1 h2 h3=>
   rw[k1]at h1;cases h1;have:l=[]:=List.eq_nil_of_length_eq_zero (by have:=k2.1;omega);subst this;exact .triv _ _ _ λ_ _ _=> .slE _ _ _ (Nat.zero_le _)
  | ow _ ri' h1 h2 h3 h4=>
   rw[k1]at h1;cases h1;have hn:ri.n=l.length:=k2.1;rw[hn]
   by_cases SW:l=[]
   ·subst SW;exact .triv _ _ _ λ_ _ _=> .slE _ _ _ h3
   rcases k2.2 with hx | ⟨_,he,d1,d2,d3,d4⟩
   ·exact absurd hx.2 SW
   have vV:=(k3 h4).2;have KV:w.heap.size≤ri.b:=((k3 h4).1.2 (DL EV)).elim id λh=>h.elim;refine .sl _ t l ri.b ri.cap (λi j=>(w'.cell? (iA ri.b (i *sz t+j))).getD undef) (λh=>h) ⟨KV, .inr ⟨j,r,ri,S4,k1,h4,rfl⟩⟩ (p1 _ j vV ⟨r,ri,S4,k1,h4,rfl⟩) he (by omega) d2 d3 (λa ha b hb=>?_) λa ha b hb=>?_
   ·obtain⟨x,f1,_⟩:=d4 a ha b hb;rw[f1];rfl
   ·obtain⟨x,f1,f9⟩:=d4 a ha b hb;rw[f1,Option.getD_some];cases m with
    | ro=>simp[AB]at EV
    | lock | tlk=>simp[AB]at EV
    | own=>exact .triv _ _ _ (GO (by simpa[AB]using EV) f9 hb)
    | tre=>
     obtain⟨x2,f2,f3⟩:=(sW r t l _ ri hr rfl k1 h4).2 a ha b hb;rw[f1]at f2;cases f2;exact(f3.str (λ_=>True) (λ_ _=>trivial) λ_ _ _ _ _=>trivial).gen (λ_ _ _ _=>rfl) (λ_ _ _ h=>h.elim) (λb hb=>⟨hb.2.1.elim id λh=>h.elim, .inl hb.1⟩) (λc _ hc NV hp=>p2 c _ NV.1 hc hp) λc q _ hc NV _ hp=>p2 c q NV.1 hc hp
 ·rcases K6 with e | ⟨k,n,e⟩ | ⟨b,e⟩ | ⟨s,e⟩<;>rw[e]at hu⊢ <;>generalize us.getD j undef=u at hu⊢ <;>cases hu
  ·exact .triv _ _ _ λ_ _ _=> .nil
  ·rename_i hf;exact .triv _ _ _ λ_ _ _=> .int _ _ hf
  ·exact .triv _ _ _ λ_ _ _=> .bool _
  ·rename_i hf;exact .triv _ _ _ λ_ _ _=> .str _ hf
end Go.D
namespace Go.D
variable [aA]
structure LP where
 slot:Nat
 k:Nat
 off:Nat
 n:Nat
structure LT where
 ds:List V
 pl:List LP
structure LS where
 f:Nat→V
 x:List LT
def Sx(L:LS)(Ts:Nat→Nat→Prop):Nat→Prop:=λb=>∃j,j<L.x.length∧Ts j b
def zH(a:Act)(w:World)(S:Nat→Prop)(us:List Value)(p:LP):Prop:=
 p.off+p.n≤us.length∧0<p.n∧match p.k with
  | 0=>p.n=1∧a.tmps.getD p.slot undef=us.getD p.off undef
  | 1=>∃bb,a.tmps.getD p.slot undef= .pointer (some (iA bb 0))∧bb<w.heap.size∧¬S bb∧∀j,j<p.n→w.cell? (iA bb j)=some (us.getD (p.off+j) undef)
  | _=>a.tmps.getD p.slot undef= .agg ((us.drop p.off).take p.n).toArray
structure oC(C:Cx)(w0:World)(T0:Nat→Prop)(L:LS)(a:Act)(w:World)(Ts:Nat→Nat→Prop):Prop where
 wx:Wx w0 w
 frame:∀b,b<w0.heap.size→¬T0 b→w.heap[b]?=w0.heap[b]?
 froz:∀i,VR w (λ_=>none) (Sx L Ts) (a.tmps.getD i undef) (L.f i)
 held:∀j (h:j<L.x.length),∃us,GB w (Ts j) us L.x[j].ds∧∀p∈L.x[j].pl,zH a w (Sx L Ts) us p
 apart:∀i j b,i<L.x.length→j<L.x.length→Ts i b→Ts j b→i=j
 low:∀j b,j<L.x.length→Ts j b→b<w.heap.size∧(T0 b∨w0.heap.size≤b)
 size:a.tmps.size=C.nt
 defers:a.defers=[]
 glob:RL C.g T0 w0
def oG:Nat→List LT→Nat→Option (Nat×LT×LP)
 | _,[],_=>none
 | g,t :: ts,i=>match t.pl.find? λp=>Nat.beq p.slot i with
  | some p=>some (g,t,p)
  | none=>oG (g+1) ts i
def oR(t:LT)(p:LP):V:=match p.k with
 | 0=>t.ds.getD p.off .undef
 | 1=> .fp ((t.ds.drop p.off).take p.n) 0
 | _=> .agg ((t.ds.drop p.off).take p.n)
def sH(L:LS):St:=⟨λi=>match oG 0 L.x i with | some (_,t,p)=>oR t p | none=>L.f i,λ_=>none,0⟩
section
variable {C:Cx} {w0 w:World} {T0:Nat→Prop} {L:LS} {a:Act} {Ts:Nat→Nat→Prop}
def oC.globW(h:oC C w0 T0 L a w Ts){T:Nat→Prop}(hT:∀b,T b→T0 b∨w0.heap.size≤b):RL C.g T w:=by
 have vV:=C.g.lt _ h.glob.p;refine⟨C.g.stay w0 w (λc hc=>h.frame c (Nat.lt_of_lt_of_le hc vV) (h.glob.own c hc)) h.glob.p,λc hc ho=>?_,Nat.le_trans h.glob.base h.wx.size,λc hc ho=>?_⟩
 ·rcases hT c ho with h1 | h1
  ·exact h.glob.own c hc h1
  ·omega
 ·have:=h.glob.base
  rcases hT c ho with h1 | h1
  ·exact h.glob.low c hc h1
  ·omega
omit [aA]in
def QM:∀{xs:List LT} {g i g':Nat} {t:LT} {p:LP},oG g xs i=some (g',t,p)→g≤g'∧xs[g' - g]?=some t∧p∈t.pl∧p.slot=i
 | [],g,i,g',t,p,h=>by cases h
 | x :: xs,g,i,g',t,p,h=>by
  simp only[oG]at h;split at h
  ·rename_i p' hf;cases h;refine⟨Nat.le_refl _,by simp,List.mem_of_find?_eq_some hf,?_⟩;have:=List.find?_some hf;exact Nat.eq_of_beq_eq_true this
  ·obtain⟨h1,h2,h3,h4⟩:=QM h;refine⟨by omega,?_,h3,h4⟩;rw[show g' - g=(g' - (g+1))+1 by omega,List.getElem?_cons_succ];exact h2
omit [aA]in
def KP{α:Type}{l:List α}{off n j:Nat}(d:α)(hj:j<n):((l.drop off).take n).getD j d=l.getD (off+j) d:=by
 rw[List.getD_eq_getElem?_getD,List.getElem?_take,if_pos hj,List.getElem?_drop, ←List.getD_eq_getElem?_getD]
def oC.vr(h:oC C w0 T0 L a w Ts)(i:Nat){bad:Nat→Prop}(hb:∀b,¬bad b):VR w (λ_=>none) bad (a.tmps.getD i undef) ((sH L).s i):=by
 show VR w _ _ _ (match oG 0 L.x i with | some (_,t,p)=>oR t p | none=>L.f i)
 cases hf:oG 0 L.x i with
 | none=>exact(h.froz i).mono (λ_ _ h=>h) (λ_ _ _=>rfl) λb h=>absurd h (hb b)
 | some q=>
  obtain⟨g,t,p⟩:=q;obtain⟨_,h2,h3,rfl⟩:=QM hf;obtain⟨hg,ht⟩:=List.getElem?_eq_some_iff.1 h2;obtain⟨us,k1,k2⟩:=h.held _ hg;rw[ht]at k1 k2;obtain⟨e1,e2,e3⟩:=k2 p h3;have tV:us.length=t.ds.length:=k1.1
  have cell:∀j,j<p.n→VR w (λ_=>none) bad (us.getD (p.off+j) undef) (t.ds.getD (p.off+j) .undef):=λj hj=>by
   have SX:p.off+j<t.ds.length:=by omega
   rw[vE _ _ _ SX];exact(k1.vr _ (p.off+j) SX).mono (λ_ _ h=>h) (λ_ _ _=>rfl) λb h=>absurd h (hb b)
  show VR w _ _ _ (oR t p)
  have hl:((t.ds.drop p.off).take p.n).length=p.n:=by simp;omega
  have gv:∀j (hj:j<((t.ds.drop p.off).take p.n).length),((t.ds.drop p.off).take p.n)[j]=t.ds.getD (p.off+j) .undef:=λj hj=>by
   rw[←vE _ _ V.undef hj,KP _ (by omega)]
  unfold oR;split at e3
  ·rw[e3.2];exact cell 0 e2
  ·obtain⟨bb,f1,f2,f3,f4⟩:=e3;rw[f1];refine .fp _ 0 bb 0 (λj=>us.getD (p.off+j) undef) (by rw[hl];exact e2) (hb bb) (λj hj=>?_) λj hj=>?_
   ·rw[Nat.zero_add];exact f4 j (by omega)
   ·rw[gv j hj];exact cell j (by omega)
  ·rw[e3];refine .agg _ _ (by simp;omega) λj hj=>?_;rw[gv j hj];have:=cell j (by omega);rw[←KP (n:=p.n) undef (by omega)]at this;rw[Array.getD_eq_getD_getElem?,List.getElem?_toArray, ←List.getD_eq_getElem?_getD];exact this
def oC.rel(h:oC C w0 T0 L a w Ts):AA C w VA (Ow.of VA) (λ_=>none) (sH L) a w:=by
 have hb:∀b,¬bA VA (λ_=>none) (sH L).h b:=by
  rintro b (h | ⟨q,row,ri,h1,_⟩)
  ·exact h
  ·cases h1
 refine⟨?_,λi=>h.vr i hb,h.size,h.defers,h.globW λb hb=>hb.elim⟩;exact⟨Wx.refl _,λ_ _ _=>rfl,λb h=>h.elim,λq row hq=>(by cases hq),λq q' row row' qi qi' h1=>(by cases h1),pB.zero λq t l m hq=>(by cases hq)⟩
end
def TG:Code→List Nat
 | .region _ ops _=>ops.toList.filterMap (·.dst)
 | .seq a b=>TG a++TG b
 | .cond _ a b=>TG a++TG b
 | .block _ b=>TG b
 | .loop b=>TG b
 | .scope b=>TG b
 | _=>[]
def dU:An:=⟨[],[],[],[],[]⟩
omit [aA]in
def zeR{D:Nat→Prop}:∀c:Code,(∀s∈TG c,D s)→gF dU D c:=by
 intro c;induction c with
 | region id ops d=>exact λh=>⟨λo ho d hd=>h d (List.mem_filterMap.2 ⟨o,by simpa using ho,hd⟩),trivial⟩
 | seq x y hx hy=>exact λh=>⟨hx λs hs=>h s (List.mem_append_left _ hs),hy λs hs=>h s (List.mem_append_right _ hs)⟩
 | cond c x y hx hy=>
  intro h;have h1:=hx λs hs=>h s (List.mem_append_left _ hs);have h2:=hy λs hs=>h s (List.mem_append_right _ hs);cases c<;>first | exact⟨h1,h2,trivial⟩ | exact⟨h1,h2⟩
 | block id x hx=>exact λh=>⟨hx h,trivial⟩
 | loop x hx=>
  intro h;refine⟨hx h,?_⟩;split<;>trivial
 | scope x hx=>exact hx
 | _=>exact λ_=>trivial
def cP(st:St):Nat→List (Nat×Bool)→Option (List V×List LP)
 | _,[]=>some ([],[])
 | off,(s,bx) :: r=>
  match(match bx,st.s s with
   | true, .bp b 0=>match st.h b with
    | some ⟨.box cs, .own⟩=>some cs
    | _=>none
   | false, .ow b=>some [.ow b]
   | _,_=>none)with
  | none=>none
  | some cs=>match cP st (off+cs.length) r with
   | none=>none
   | some (c2,p2)=>some (cs++c2,⟨s,bif bx then 1 else 0,off,cs.length⟩ :: p2)
def LQ(st:St):List Nat→Option (List (Nat×V))
 | []=>some []
 | s :: r=>match(match st.s s with
   | .bp b 0=>match st.h b with
    | some ⟨.box (c :: cs),_⟩=>match ZC st.h (c :: cs)with
     | some (cs',_)=>some (.fp cs' 0)
     | none=>none
    | _=>none
   | v=>match kC st.h v with
    | some (d,_)=>some d
    | none=>none),LQ st r with
  | some d,some ds=>some ((s,d) :: ds)
  | _,_=>none
def MN:V→V
 | .int k n=> .int k n
 | .bool b=> .bool b
 | .str s=> .str s
 | _=> .undef
def nT{R:Type}(dl:List Nat)(tr:List (Nat×Bool))(fz:List Nat)(L:LS)(st:St)(K:LS→Option R):Option R:=
 gd (L.x.all fun t=>t.pl.all fun p=>!(cC p.slot dl)) (
  match cP st 0 tr with
  | none=>none
  | some (cs,pl)=>gd (vD st.h [] cs&&pl.all (λp=>Nat.blt 0 p.n)) (
   match LQ st fz with
   | none=>none
   | some fs=>gd (fs.isEmpty||(L.x.isEmpty&&tr.isEmpty)) (K ⟨λi=>bif cC i dl then(match KA i fs with | some d=>d | none=>MN (st.s i))else L.f i,
     bif tr.isEmpty then L.x else L.x++[⟨cs.map (kJ st.h),pl⟩]⟩) none) none) none
section
variable {C:Cx} {w0 w w':World} {T0:Nat→Prop} {L:LS} {a a':Act} {Ts:Nat→Nat→Prop} {R:Type} {st:St} {ρ:Nat→Option RI}
def PlB(a:Act)(w:World)(ρ:Nat→Option RI)(h:Nat→Option gA)(us:List Value)(p:LP):Prop:=
 p.off+p.n≤us.length∧match p.k with
  | 0=>p.n=1∧a.tmps.getD p.slot undef=us.getD p.off undef
  | 1=>∃bb r cs ri,h r=some ⟨.box cs, .own⟩∧ρ r=some ri∧ri.nl=false∧ri.b=bb∧a.tmps.getD p.slot undef= .pointer (some (iA bb 0))∧∀j,j<p.n→w.cell? (iA bb j)=some (us.getD (p.off+j) undef)
  | _=>False
def zbD{own:Ow}(hr:AA C w0 VA own ρ st a' w'):∀(tr:List (Nat×Bool)) (pre:List Value) (cs:List V) (pl:List LP),cP st pre.length tr=some (cs,pl)→
  ∃us:List Value,us.length=cs.length∧(∀j (hj:j<cs.length),VR w' ρ (bA VA ρ st.h) (us.getD j undef) cs[j])∧∀suf,∀p∈pl,PlB a' w' ρ st.h (pre++us++suf) p
 | [],pre,cs,pl,h=>by
  cases h;exact⟨[],rfl,λj hj=>by simp at hj,λ_ p hp=>by simp at hp⟩
 | (s,bx) :: tr,pre,cs,pl,h=>by
  simp only[cP]at h;split at h
  ·cases h
  rename_i cs1 vY
  have one:∃us1:List Value,us1.length=cs1.length∧(∀j (hj:j<cs1.length),VR w' ρ (bA VA ρ st.h) (us1.getD j undef) cs1[j])∧
    ∀suf,PlB a' w' ρ st.h (pre++us1++suf) ⟨s,bif bx then 1 else 0,pre.length,cs1.length⟩:=by
   have hs:=hr.slots s;split at vY
   ·rename_i b hb;split at vY
    case h_2=>cases vY
    rename_i cs0 sV;cases vY;rw[hb]at hs;obtain⟨ri,k1,k2,k3⟩:=hr.heap.rows b _ sV
    have hv:a'.tmps.getD s undef= .pointer (some (iA ri.b 0))∧ri.nl=false:=by
     generalize a'.tmps.getD s undef=v at hs;cases hs with | bp _ _ ri' h1 h2=>rw[k1]at h1;cases h1;exact⟨rfl,h2⟩
    refine⟨(List.range cs1.length).map λj=>(w'.cell? (iA ri.b j)).getD undef,by simp,λj hj=>?_,λsuf=>⟨by simp,ri.b,b,cs1,ri,sV,k1,hv.2,rfl,hv.1,λj hj=>?_⟩⟩
    ·obtain⟨_,u,f1,f2⟩:=k2.2 j hj;rw[List.getD_eq_getElem?_getD,List.getElem?_map,List.getElem?_range hj];simp only[Option.map_some,Option.getD_some,f1];exact f2
    ·have hj:j<cs1.length:=hj;obtain⟨_,u,f1,f2⟩:=k2.2 j hj;simp only[List.append_assoc];rw[List.getD_eq_getElem?_getD,List.getElem?_append_right (by omega),Nat.add_sub_cancel_left,List.getElem?_append_left (by simpa using hj),List.getElem?_map,List.getElem?_range hj];simp only[Option.map_some,Option.getD_some,f1]
   ·rename_i b hb;cases vY;refine⟨[a'.tmps.getD s undef],rfl,λj hj=>?_,λsuf=>⟨by simp,rfl,?_⟩⟩
    ·have:j=0:=by simpa using hj
     subst this;simp only[List.getD_cons_zero,List.getElem_cons_zero];rw[hb]at hs;exact hs
    ·simp only[List.append_assoc];rw[List.getD_eq_getElem?_getD,List.getElem?_append_right (by simp)];simp
   ·cases vY
  obtain⟨us1,e1,e2,e3⟩:=one;split at h
  ·cases h
  rename_i c2 p2 AV;cases h;obtain⟨us2,f1,f2,f3⟩:=zbD hr tr (pre++us1) c2 p2 (by rw[List.length_append,e1];exact AV);refine⟨us1++us2,by simp[e1,f1],λj hj=>?_,λsuf p hp=>?_⟩
  ·by_cases h1:j<cs1.length
   ·rw[List.getElem_append_left h1,List.getD_eq_getElem?_getD,List.getElem?_append_left (by omega), ←List.getD_eq_getElem?_getD];exact e2 j h1
   ·rw[List.getElem_append_right (by omega),List.getD_eq_getElem?_getD,List.getElem?_append_right (by omega),e1, ←List.getD_eq_getElem?_getD];exact f2 (j - cs1.length) (by simp at hj;omega)
  ·rcases List.mem_cons.1 hp with rfl | hp
   ·have:=e3 (us2++suf);rwa [show pre++(us1++us2)++suf=pre++us1++(us2++suf) by simp]
   ·have:=f3 suf p hp;rwa [show pre++(us1++us2)++suf=pre++us1++us2++suf by simp]
def zbM{own:Ow}(hr:AA C w0 VA own ρ st a' w'){bad:Nat→Prop}(hb:∀b,¬bad b):∀(fz:List Nat) (fs:List (Nat×V)),LQ st fz=some fs→∀(s:Nat) (d:V),KA s fs=some d→VR w' (λ_=>none) bad (a'.tmps.getD s undef) d
 | [],fs,h,s,d,hl=>by cases h;cases hl
 | s0 :: fz,fs,h,s,d,hl=>by
  simp only[LQ]at h;split at h
  case h_2=>cases h
  rename_i d0 ds h1 h2;cases h;simp only[KA]at hl;cases hq:Nat.beq s0 s
  ·rw[hq]at hl;exact zbM hr hb fz ds h2 s d hl
  ·rw[hq]at hl;cases hl;obtain rfl:=Nat.eq_of_beq_eq_true hq;have hs:=hr.slots s0;have none_of:∀{u:Value} {d:V} {ids:List Nat},VR w' ρ (bA VA ρ (eB st.h ids)) u d→vB d→VR w' (λ_=>none) bad u d:=λhv hn=>(hv.noRef hn _).mono (λ_ _ h=>h) (λ_ _ _=>rfl) λb h=>absurd h (hb b);split at h1
   ·rename_i b Z1;split at h1
    case h_2=>cases h1
    rename_i c cs m sV;split at h1
    case h_2=>cases h1
    rename_i cs' ids hf;cases h1;rw[Z1]at hs;obtain⟨ri,k1,k2,k3⟩:=hr.heap.rows b _ sV
    have hv:a'.tmps.getD s0 undef= .pointer (some (iA ri.b 0)):=by
     generalize a'.tmps.getD s0 undef=v at hs;cases hs with | bp _ _ ri' h1 h2=>rw[k1]at h1;cases h1;rfl
    obtain⟨g1,g2⟩:=NM hr.heap (vs:=λj=>(w'.cell? (iA ri.b j)).getD undef) (λj hj=>by
     obtain⟨_,u,f1,f2⟩:=k2.2 j hj;rw[f1];exact f2) hf
    rw[hv];refine .fp _ 0 ri.b 0 (λj=>(w'.cell? (iA ri.b j)).getD undef) (by rw[g1];simp) (hb _) (λj hj=>?_) λj hj=>?_
    ·obtain⟨_,u,f1,f2⟩:=k2.2 j (by omega);rw[Nat.zero_add,f1];rfl
    ·exact none_of (g2 j hj).1 (g2 j hj).2.1
   ·split at h1
    case h_2=>cases h1
    rename_i d1 ids hf;cases h1;obtain⟨g1,g2,_⟩:=MO hr.heap hs hf;exact none_of g1 g2
def zhp{bad bad':Nat→Prop}{ρ ρ':Nat→Option RI}{v:Value}{d:V}(h:VR w ρ bad v d):VR w' ρ' bad' v (MN d):=by
 unfold MN;split
 ·cases h with | int _ _ h=>exact .int _ _ h
 ·cases h;exact .bool _
 ·cases h with | str _ h=>exact .str _ h
 ·exact .undef _
def zgR(hi:oC C w0 T0 L a w Ts){dl:List Nat}{tr:List (Nat×Bool)}{fz:List Nat}{K:LS→Option R}{r:R}(hg:mB C w VA (Ow.of VA) (λs=>s∈dl) (sH L) a (λ_=>none) st a' w' ρ)
  (hk:nT dl tr fz L st K=some r):∃L' Ts',K L'=some r∧oC C w0 T0 L' a' w' Ts':=by
 unfold nT at hk;cases h1:(L.x.all λt=>t.pl.all λp=>!(cC p.slot dl))
 ·rw[h1]at hk;cases hk
 rw[h1]at hk;simp only[iB]at hk;split at hk
 ·cases hk
 rename_i cs pl V3;cases h2:(vD st.h [] cs&&pl.all (λp=>Nat.blt 0 p.n))
 ·rw[h2]at hk;cases hk
 rw[h2]at hk;simp only[iB]at hk;split at hk
 ·cases hk
 rename_i fs W3;cases h3:(fs.isEmpty||(L.x.isEmpty&&tr.isEmpty))
 ·rw[h3]at hk;cases hk
 rw[h3]at hk;simp only[iB]at hk;simp only[Bool.and_eq_true]at h2;have lW:=hg.rel.heap.wx;have bW:∀b,b<w.heap.size→w'.heap[b]?=w.heap[b]?:=λb hb=>hg.rel.heap.old b hb λh=>h;have pW:∀s,s∉dl→a'.tmps.getD s undef=a.tmps.getD s undef:=hg.vals;obtain⟨us,u1,u2,u3⟩:=zbD hg.rel tr [] cs pl V3;have hT:=zfl hg.rel.heap h2.1 u1 u2;have Q4:=hT.bnd;let newT:Nat→Prop:=λb=>zcC w ρ st.h cs b∧b<w'.heap.size;let Ts':Nat→Nat→Prop:=λj b=>if j<L.x.length then Ts j b else newT b
 let x':List LT:=bif tr.isEmpty then L.x else L.x++[⟨cs.map (kJ st.h),pl⟩]
 let f':Nat→V:=λi=>bif cC i dl then(match KA i fs with | some d=>d | none=>MN (st.s i))else L.f i
 have hx:(tr=[]∧x'=L.x)∨(tr≠[]∧x'=L.x++[⟨cs.map (kJ st.h),pl⟩]):=by
  cases tr with
  | nil=>exact .inl ⟨rfl,rfl⟩
  | cons=>exact .inr ⟨by simp,rfl⟩
 have tV:L.x.length≤x'.length:=by rcases hx with⟨_,h⟩ | ⟨_,h⟩<;>rw[h]<;>simp
 have hS:∀b,Sx ⟨f',x'⟩ Ts' b→Sx L Ts b∨(w.heap.size≤b∧newT b):=λb ⟨j,hj,hb⟩=>by
  simp only[Ts']at hb;split at hb
  ·rename_i MV;exact .inl ⟨j,MV,hb⟩
  ·exact .inr ⟨hb.1.1,hb⟩
 refine⟨_,Ts',hk,hi.wx.trans lW,λb hb ht=>(bW b (Nat.lt_of_lt_of_le hb hi.wx.size)).trans (hi.frame b hb ht),λi=>?_,λj hj=>?_,λi j b h4 h5 h6 h7=>?_,λj b hj hb=>?_,hg.rel.size,hg.rel.defers,hi.glob⟩
 ·show VR w' _ _ _ (bif cC i dl then(match KA i fs with | some d=>d | none=>MN (st.s i))else L.f i)
  cases hm:cC i dl
  ·simp only[cond_false];rw[pW i (xG.1 hm)];exact(hi.froz i).mono (λ_ _ h=>h) (λb _ hb=>bW b hb) λb hb=>(hS b hb).imp id (·.1)
  ·simp only[cond_true];cases gZ:KA i fs with
   | none=>exact zhp (hg.rel.slots i)
   | some d=>
    simp only[Bool.or_eq_true,Bool.and_eq_true]at h3
    have CZ:L.x=[]∧tr=[]:=by
     rcases h3 with h3 | ⟨h3,h4⟩
     ·rw[List.isEmpty_iff]at h3;subst h3;cases gZ
     ·exact⟨List.isEmpty_iff.1 h3,List.isEmpty_iff.1 h4⟩
    refine zbM hg.rel (λb=>?_) fz fs W3 i d gZ;rintro⟨j,hj,_⟩;have:x'=[]:=by simp only[x',CZ.2,CZ.1];rfl
    have hj:j<x'.length:=hj;rw[this]at hj;simp at hj
 ·have old:∀(h:j<L.x.length),∃us,GB w' (Ts' j) us L.x[j].ds∧∀p∈L.x[j].pl,zH a' w' (Sx ⟨f',x'⟩ Ts') us p:=λh=>by
   obtain⟨us0,k1,k2⟩:=hi.held j h;refine⟨us0,k1.keep (λb _ hb=>bW b hb) λb hb _=>by simp only[Ts',if_pos h];exact hb,λp hp=>?_⟩;obtain⟨e1,e2,e3⟩:=k2 p hp
   have X3:p.slot∉dl:=by
    have:=List.all_eq_true.1 (List.all_eq_true.1 h1 _ (List.getElem_mem h)) p hp;simp only[Bool.not_eq_true']at this;exact xG.1 this
   refine⟨e1,e2,?_⟩;rw[pW _ X3];split at e3
   ·exact e3
   ·obtain⟨bb,g1,g2,g3,g4⟩:=e3;exact⟨bb,g1,Nat.lt_of_lt_of_le g2 lW.size,λh=>(hS bb h).elim g3 λh=>by omega,λj hj=>(gD (bW bb g2)).trans (g4 j hj)⟩
   ·exact e3
  show ∃us,GB w' (Ts' j) us (x'[j]'hj).ds∧∀p∈(x'[j]'hj).pl,zH a' w' (Sx ⟨f',x'⟩ Ts') us p
  rcases hx with⟨_,hx⟩ | ⟨_,hx⟩
  ·have MV:j<L.x.length:=by rw[←hx];exact hj
   have:x'[j]'hj=L.x[j]:=by simp only[hx]
   rw[this];exact old MV
  ·by_cases MV:j<L.x.length
   ·have:x'[j]'hj=L.x[j]:=by simp only[hx];exact List.getElem_append_left MV
    rw[this];exact old MV
   ·have SX:j=L.x.length:=by
     have:j<x'.length:=hj;rw[hx]at this;simp at this;omega
    have:x'[j]'hj=⟨cs.map (kJ st.h),pl⟩:=by
     simp only[hx];rw[List.getElem_append_right (by omega)];simp[SX]
    rw[this];refine⟨us,Q4.keep (λ_ _ _=>rfl) λb hb _=>by simp only[Ts',if_neg MV];exact hb,λp hp=>?_⟩;have h4:=u3 [] p hp;rw[List.nil_append,List.append_nil]at h4;obtain⟨e1,e3⟩:=h4;have e2:=List.all_eq_true.1 h2.2 p hp;simp only[Nat.blt_eq]at e2;refine⟨e1,e2,?_⟩;split at e3
    ·exact e3
    ·obtain⟨bb,r0,cs0,ri,g1,g2,g3,g4,g5,g6⟩:=e3;obtain⟨ri2,k1,_,k3⟩:=hg.rel.heap.rows r0 _ g1;rw[g2]at k1;cases k1;have uV:bA VA ρ st.h bb:= .inr ⟨r0,_,ri,g1,rfl,g2,g3,g4⟩;refine⟨bb,g5,by rw[←g4];exact(k3 g3).2,λh=>?_,g6⟩;obtain⟨j',YV,NV⟩:=h;simp only[Ts']at NV;split at NV
     ·rename_i hj3;have:=(hi.low j' bb hj3 NV).1;have:=(k3 g3).1.2 rfl;rw[g4]at this
      rcases this with h | h
      ·omega
      ·exact h
     ·rcases NV.1.2 with h | ⟨i2,r2,ri2,q1,q2,q3,q4⟩
      ·exact h uV
      ·obtain⟨t1,_⟩:=PI _ _ h2.1
       rcases t1 i2 _ q1 with⟨r',t,l,m,e,hh,_⟩ | ⟨_,h,_⟩
       ·cases e;have:=hg.rel.heap.inj r0 r2 _ _ ri ri2 g1 hh g2 q2 g3 q3 (g4.trans q4.symm);subst this;rw[g1]at hh;cases hh
       ·exact h r2 rfl
    ·exact e3.elim
 ·have h4:i<x'.length:=h4;have h5:j<x'.length:=h5;have hlx:x'.length≤L.x.length+1:=by rcases hx with⟨_,h⟩ | ⟨_,h⟩<;>rw[h]<;>simp
  simp only[Ts']at h6 h7;split at h6<;>split at h7
  ·exact hi.apart i j b ‹_› ‹_› h6 h7
  ·have:=(hi.low i b ‹_› h6).1;have:=h7.1.1;omega
  ·have:=(hi.low j b ‹_› h7).1;have:=h6.1.1;omega
  ·omega
 ·simp only[Ts']at hb;split at hb
  ·obtain⟨k1,k2⟩:=hi.low j b ‹_› hb;exact⟨Nat.lt_of_lt_of_le k1 lW.size,k2⟩
  ·exact⟨hb.2, .inr (Nat.le_trans hi.wx.size hb.1.1)⟩
def yC(L:LS)(d:Nat):Bool:=L.x.all λt=>t.pl.all λp=>!(Nat.beq p.slot d)
def oC.put(hi:oC C w0 T0 L a w Ts){d:Nat}{v:Value}{x:V}(hd:d<C.nt)(hf:yC L d=true)(hv:VR w (λ_=>none) (Sx L Ts) v x):
  oC C w0 T0 ⟨cA L.f d x,L.x⟩ (a.put (some d) v) w Ts:=by
 have iW:∀j (h:j<L.x.length),∀p∈L.x[j].pl,(a.put (some d) v).tmps.getD p.slot undef=a.tmps.getD p.slot undef:=λj h p hp=>by
  have:=List.all_eq_true.1 (List.all_eq_true.1 hf _ (List.getElem_mem h)) p hp;rw[JC _ _ _ (by rw[hi.size];exact hd),if_neg];intro e;rw[e,Nat.beq_refl]at this;cases this
 refine⟨hi.wx,hi.frame,λi=>?_,λj hj=>?_,hi.apart,hi.low,by simp[Act.put,hi.size],hi.defers,hi.glob⟩
 ·rw[JC _ _ _ (by rw[hi.size];exact hd)];show VR w _ _ _ (cA L.f d x i)
  by_cases h:i=d
  ·subst h;rw[if_pos rfl,tA];exact hv
  ·rw[if_neg h,kA _ _ _ _ h];exact hi.froz i
 ·obtain⟨us,k1,k2⟩:=hi.held j hj;refine⟨us,k1,λp hp=>?_⟩;obtain⟨e1,e2,e3⟩:=k2 p hp;exact⟨e1,e2,by rw[iW j hj p hp];exact e3⟩
def zgQ(hi:oC C w0 T0 L a w Ts){g:Nat}{t:LT}(hg:L.x[g]?=some t){off n:Nat}(hn:off+n≤t.ds.length){es:List V}(EW:es.length=n)
  (hs:∀j (hj:j<n) (h:j<es.length),dE (t.ds[off+j]'(by omega)) es[j]):
  ∃us T',us.length=t.ds.length∧GB w T' ((us.drop off).take n) es∧(∀p∈t.pl,zH a w (Sx L Ts) us p)∧(∀b,T' b→T0 b∨w0.heap.size≤b)∧
   ∀w' es',Wx w w'→es'.length=n→(∀b,b<w.heap.size→¬T' b→w'.heap[b]?=w.heap[b]?)→GB w' (λb=>T' b∨w.heap.size≤b) ((us.drop off).take n) es'→
    ∃Ts',oC C w0 T0 ⟨L.f,L.x.set g ⟨MB t.ds off es',t.pl⟩⟩ a w' Ts':=by
 obtain⟨aY,ht⟩:=List.getElem?_eq_some_iff.1 hg;obtain⟨us,k1,k2⟩:=hi.held g aY;rw[ht]at k1 k2;obtain⟨T',q1,q2,q3⟩:=zfN k1 hn EW hs;refine⟨us,T',k1.1,q2,k2,λb hb=>(hi.low g b aY (q1 b hb)).2,λw' es' lW U3 KV hT=>?_⟩;have rW:=(q3 w' es' lW.size U3 KV hT).bnd;let Ts':Nat→Nat→Prop:=λj b=>if j=g then(Ts g b∨w.heap.size≤b)∧b<w'.heap.size else Ts j b
 have WV:∀b,b<w.heap.size→¬Sx L Ts b→w'.heap[b]?=w.heap[b]?:=λb hb h=>KV b hb λh'=>h ⟨g,aY,q1 b h'⟩;have tV:(L.x.set g ⟨MB t.ds off es',t.pl⟩).length=L.x.length:=List.length_set
 have hS:∀b,Sx ⟨L.f,L.x.set g ⟨MB t.ds off es',t.pl⟩⟩ Ts' b→Sx L Ts b∨w.heap.size≤b:=λb ⟨j,hj,hb⟩=>by
  have MV:j<L.x.length:=by rw[←tV];exact hj
  simp only[Ts']at hb;split at hb
  ·rename_i e;subst e;exact hb.1.imp (λh=>⟨_,MV,h⟩) id
  ·exact .inl ⟨j,MV,hb⟩
 have yX:∀us p,zH a w (Sx L Ts) us p→zH a w' (Sx ⟨L.f,L.x.set g ⟨MB t.ds off es',t.pl⟩⟩ Ts') us p:=λus p ⟨e1,e2,e3⟩=>by
  refine⟨e1,e2,?_⟩;split at e3
  ·exact e3
  ·obtain⟨bb,g1,g2,g3,g4⟩:=e3;exact⟨bb,g1,Nat.lt_of_lt_of_le g2 lW.size,λh=>(hS bb h).elim g3 λh=>by omega,λj hj=>(gD (WV bb g2 g3)).trans (g4 j hj)⟩
  ·exact e3
 refine⟨Ts',hi.wx.trans lW,λb hb ho=>?_,λi=>?_,λj hj=>?_,λi j b h1 h2 h3 h4=>?_,λj b hj hb=>?_,hi.size,hi.defers,hi.glob⟩
 ·rw[←hi.frame b hb ho];refine KV b (Nat.lt_of_lt_of_le hb hi.wx.size) λh=>?_
  rcases(hi.low g b aY (q1 b h)).2 with h | h
  ·exact ho h
  ·omega
 ·exact(hi.froz i).mono (λ_ _ h=>h) (λb h hb=>WV b hb h) hS
 ·have hj:j<L.x.length:=by rw[←tV];exact hj
  show ∃us,GB w' (Ts' j) us ((L.x.set g ⟨MB t.ds off es',t.pl⟩)[j]'(by rw[tV];exact hj)).ds∧∀p∈((L.x.set g ⟨MB t.ds off es',t.pl⟩)[j]'(by rw[tV];exact hj)).pl,_
  by_cases A1:j=g
  ·subst A1;rw[List.getElem_set_self];refine⟨us,rW.keep (λ_ _ _=>rfl) λb hb _=>by simp only[Ts',if_true];exact hb,λp hp=>yX us p (k2 p hp)⟩
  ·rw[List.getElem_set_ne (λe=>A1 e.symm)];obtain⟨us2,m1,m2⟩:=hi.held j hj;refine⟨us2,m1.keep (λb hb vV=>KV b vV λh=>A1 (hi.apart j g b hj aY hb (q1 b h))) λb hb _=>by simp only[Ts',if_neg A1];exact hb,λp hp=>yX us2 p (m2 p hp)⟩
 ·have m1:i<L.x.length:=by rw[←tV];exact h1
  have m2:j<L.x.length:=by rw[←tV];exact h2
  clear h1 h2;simp only[Ts']at h3 h4;split at h3<;>split at h4
  ·omega
  ·rename_i e1 e2;subst e1
   rcases h3.1 with h | h
   ·exact hi.apart i j b m1 m2 h h4
   ·have:=(hi.low j b m2 h4).1;omega
  ·rename_i e1 e2;subst e2
   rcases h4.1 with h | h
   ·exact hi.apart i j b m1 m2 h3 h
   ·have:=(hi.low i b m1 h3).1;omega
  ·exact hi.apart i j b m1 m2 h3 h4
 ·have MV:j<L.x.length:=by rw[←tV];exact hj
  simp only[Ts']at hb;split at hb
  ·rename_i e;subst e;refine⟨hb.2,?_⟩
   rcases hb.1 with h | h
   ·exact(hi.low j b MV h).2
   ·exact .inr (Nat.le_trans hi.wx.size h)
  ·obtain⟨m1,m2⟩:=hi.low j b MV hb;exact⟨Nat.lt_of_lt_of_le m1 lW.size,m2⟩
omit [aA]in
def zbs{P:Program}{T:TypeId}{ag:Bool}{n b o:Nat}{c:Nat→Value}(h1:MC P T=some ag)(h2:BC P T=some n)(hn:0<n)(hc:∀j,j<n→w.cell? (iA b (o+j))=some (c j)):
  (loadVar T (iA b o)).run P w= .ok (bif ag then .agg ((List.range n).map c).toArray else c 0) w:=by
 cases ag with
 | true=>
  have wV:∀j,j<n→w.cell? ((iA b o).add j)=some (c j):=λj hj=>by rw[uD];exact hc j hj
  simp only[loadVar,Sem.run_bind,JH h1,Result.andThen_ok,Sem.run_ite,if_true,YF h2,run_loadCells w _ n _ wV,Sem.run_pure,cond_true]
 | false=>
  have h3:=hc 0 hn;rw[Nat.add_zero]at h3;simp only[loadVar,Sem.run_bind,JH h1,Result.andThen_ok,Sem.run_ite,Bool.false_eq_true,if_false,run_load,h3,cond_false]
def iR(t:TN):List V→Option (List (El t))
 | [.sl t' l]=>if e:t'=t then some (TN.cast e l)else none
 | _=>none
def zc2(ty:uG)(ag:Bool)(cs:List V):Option ty.T:=match ty with
 | .sl t=>gd ag none (iR t cs)
 | .st t=>gd ag (zB t cs) none
omit [aA]in
def zin{t:TN}{cs:List V}{x:List (El t)}(h:iR t cs=some x):cs=[.sl t x]:=by
 unfold iR at h;split at h
 ·split at h
  case isFalse=>cases h
  rename_i e;subst e;cases h;rfl
 ·cases h
omit [aA]in
def zh2{ty:uG}{ag:Bool}{cs:List V}{x:ty.T}(h:zc2 ty ag cs=some x):ag=ty.agg∧(ty.enc x).length=cs.length∧(∀j (hj:j<cs.length) (YV:j<(ty.enc x).length),dE cs[j] (ty.enc x)[j])∧(ag=false→cs.length=1):=by
 cases ty with
 | sl t=>
  cases ag with
  | true=>cases h
  | false=>
   have h:iR t cs=some x:=h;obtain rfl:=zin h;refine⟨rfl,rfl,λj hj YV=>?_,λ_=>rfl⟩;have:j=0:=by simpa using hj
   subst this;exact .refl _
 | st t=>
  cases ag with
  | false=>cases h
  | true=>
   have:=LC t (show zB t cs=some x from h);exact⟨rfl,this.len.symm,λj hj YV=>this.get j hj YV,λh=>by cases h⟩
section
variable (C:Cx) (M:Nat→Option AC)
def LN(g:Nat)(t:LT)(off n:Nat)(ag:Bool)(tx:Nat)(f1:Nat→V)(o2 o3 o4:Oper)(L:LS)(K:LS→Option R):Option R:=
 match o2,o3,o4 with
 | ⟨some tk, .move (.tmp kk),_,_,_,none⟩,⟨some tr, .call {callee:= .value (.func f),args,argTypes:=_},_,_,_,none⟩,⟨some tc, .assign (.tmp tr'),_,_,_,none⟩=>
  match args.toList,f1 kk,M f with
  | [.tmp tx', .tmp tk'], .int .i64 k,some ki=>
   gd (Nat.beq tx tx'&&Nat.beq tk tk'&&Nat.beq tr tr'&&!(Nat.beq tx tk)&&Nat.blt tk C.nt&&Nat.blt tr C.nt&&Nat.blt tc C.nt&&yC L tk&&yC L tr&&yC L tc&&Nat.ble (off+n) t.ds.length) (
    bnd (zc2 ki.ty ag ((t.ds.drop off).take n)) λx=>Option.bind (ki.F x k) λr=>
     gd (Nat.beq (ki.ty.enc r.1).length n) (K ⟨cA (cA (cA f1 tk .undef) tr (.int .i64 r.2)) tc (.int .i64 r.2),L.x.set g ⟨MB t.ds off (ki.ty.enc r.1),t.pl⟩⟩) none) none
  | _,_,_=>none
 | _,_,_=>none
def CT(ops:Array Oper)(L:LS)(K:LS→Option R):Option R:=
 match ops.toList with
 | [⟨some tx, .load T (.tmp tb),_,_,_,none⟩,o2,o3,o4]=>
  match oG 0 L.x tb,MC C.P T,BC C.P T with
  | some (g,t,p),some ag,some n=>gd (Nat.beq p.k 1&&Nat.beq n p.n&&Nat.blt tx C.nt&&yC L tx) (LN C M g t p.off n ag tx (cA L.f tx .undef) o2 o3 o4 L K) none
  | _,_,_=>none
 | [⟨some tx, .move (.tmp ts),_,_,_,none⟩,o2,o3,o4]=>
  match oG 0 L.x ts with
  | some (g,t,p)=>gd (Nat.beq p.k 0&&Nat.blt tx C.nt&&yC L tx) (LN C M g t p.off 1 false tx (cA L.f tx .undef) o2 o3 o4 L K) none
  | _=>none
 | [⟨some tp, .fieldAddr T0 (.tmp tb) fi,_,_,_,none⟩,⟨some tx, .load T (.tmp tp'),_,_,_,none⟩,o2,o3,o4]=>
  match oG 0 L.x tb,WI C.P T0 fi,MC C.P T,BC C.P T with
  | some (g,t,p),some (fo,ft),some ag,some n=>match BC C.P ft with
   | some (_+1)=>gd (Nat.beq p.k 1&&Nat.beq tp tp'&&Nat.ble (fo+n) p.n&&Nat.blt 0 n&&Nat.blt tx C.nt&&Nat.blt tp C.nt&&yC L tx&&yC L tp) (
     LN C M g t (p.off+fo) n ag tx (cA (cA L.f tp .undef) tx .undef) o2 o3 o4 L K) none
   | _=>none
  | _,_,_,_=>none
 | _=>none
end
def sS{M:Nat→Option AC}(hM:AD C.P M C.g){ops:Array Oper}{Q:Exit→Act→World→Prop}{i2 i3 i4:Nat}{o2 o3 o4:Oper}(h2:ops[i2]?=some o2)(h3:ops[i3]?=some o3)(h4:ops[i4]?=some o4)
  {g:Nat} {t:LT} {off n:Nat} {ag:Bool} {tx:Nat} {f1:Nat→V} {K:LS→Option R} {r:R} (hx:L.x[g]?=some t) (hi:oC C w0 T0 ⟨f1,L.x⟩ a w Ts) (htx:tx<C.nt)
  (hv:∀us:List Value,us.length=t.ds.length→(∀p∈t.pl,zH a w (Sx ⟨f1,L.x⟩ Ts) us p)→a.tmps.getD tx undef=bif ag then .agg ((us.drop off).take n).toArray else us.getD off undef)
  (hk:LN C M g t off n ag tx f1 o2 o3 o4 L K=some r)
  (rV:∀L' a' w' Ts',oC C w0 T0 L' a' w' Ts'→K L'=some r→Q .normal a' w'):wpOps C.P ops Q [i2,i3,i4] a w:=by
 unfold LN at hk;split at hk
 case h_2=>cases hk
 rename_i tk kk ty2 ps2 af2 tr f args aty ty3 ps3 af3 tc tr' ty4 ps4 af4;split at hk
 case h_2=>cases hk
 rename_i tx' tk' k ki QV OW v7;cases hb:(Nat.beq tx tx'&&Nat.beq tk tk'&&Nat.beq tr tr'&&!(Nat.beq tx tk)&&Nat.blt tk C.nt&&Nat.blt tr C.nt&&Nat.blt tc C.nt&&yC L tk&&yC L tr&&yC L tc&&Nat.ble (off+n) t.ds.length)
 case false=>simp[hb]at hk
 simp only[hb,iB]at hk;simp only[Bool.and_eq_true,Bool.not_eq_true',Nat.blt_eq]at hb;obtain⟨⟨⟨⟨⟨⟨⟨⟨⟨⟨b1,b2⟩,b3⟩,b4⟩,b5⟩,b6⟩,b7⟩,b8⟩,b9⟩,b10⟩,b11⟩:=hb;obtain rfl:=Nat.eq_of_beq_eq_true b1;obtain rfl:=Nat.eq_of_beq_eq_true b2;obtain rfl:=Nat.eq_of_beq_eq_true b3;have JV:=Nat.le_of_ble_eq_true b11;have t7:tx≠tk:=λe=>by rw[e,Nat.beq_refl]at b4;cases b4
 rw[eF]at hk;obtain⟨x,C7,hk⟩:=Option.bind_eq_some_iff.1 hk;obtain⟨r1,hF,hk⟩:=Option.bind_eq_some_iff.1 hk;cases ZX:Nat.beq (ki.ty.enc r1.1).length n
 case false=>rw[ZX]at hk;cases hk
 rw[ZX]at hk;simp only[iB]at hk;have ZX:=Nat.eq_of_beq_eq_true ZX;obtain⟨d1,d2,d3,d4⟩:=zh2 C7;have kZ:((t.ds.drop off).take n).length=n:=by simp;omega
 obtain⟨us,T',u1,u2,u3,u4,u5⟩:=zgQ hi hx (off:=off) (n:=n) JV (es:=ki.ty.enc x) (by omega) (λj hj h=>by
  have:=d3 j (by omega) h;rwa [List.getElem_take,List.getElem_drop]at this)
 have pW:=hv us u1 u3
 have sZ:a.tmps.getD kk undef= .int .i64 k∧FB .i64 k:=by
  have h:=hi.froz kk;have h:VR w (λ_=>none) (Sx ⟨f1,L.x⟩ Ts) (a.tmps.getD kk undef) (.int .i64 k):=by rw[←OW];exact h
  generalize a.tmps.getD kk undef=v at h;cases h with | int _ _ h=>exact⟨rfl,h⟩
 have xV:=hi.size;obtain⟨v0,gW⟩:∃v0,a.tmps.getD tx undef=v0:=⟨_,rfl⟩;refine UE h2 rfl (bB (v:= .int .i64 k) (w':=w) (post:=λa' w'=>a'=a.put (some tk) (.int .i64 k)∧w'=w) ?_ ⟨rfl,rfl⟩ _ _ λa2 w2 ⟨ea,ew⟩=>?_)
 ·have:a.eval (.tmp kk)= .int .i64 k:=sZ.1;simp[execOp,this]
 subst ea ew;have hi2:oC C w0 T0 ⟨cA f1 tk .undef,L.x⟩ (a.put (some tk) (.int .i64 k)) w2 Ts:=hi.put b5 b8 (.undef _)
 have g1:(a.put (some tk) (.int .i64 k)).eval (.tmp tx)=a.tmps.getD tx undef:=by
  show(a.put (some tk) (.int .i64 k)).tmps.getD tx undef=_
  rw[JC _ _ _ (by rw[xV];exact b5),if_neg t7]
 have g2:(a.put (some tk) (.int .i64 k)).eval (.tmp tk)= .int .i64 k:=by
  show(a.put (some tk) (.int .i64 k)).tmps.getD tk undef=_
  rw[JC _ _ _ (by rw[xV];exact b5),if_pos rfl]
 have BV:(execOp (a.put (some tk) (.int .i64 k)).eval ⟨some tr, .call {callee:= .value (.func f),args,argTypes:=aty},ty3,ps3,af3,none⟩).run C.P w2=(callFunc f #[v0, .int .i64 k]).run C.P w2:=by
  have hm:args.map (a.put (some tk) (.int .i64 k)).eval= #[v0, .int .i64 k]:=by
   apply Array.toList_inj.1;rw[Array.toList_map,QV];show[(a.put (some tk) (.int .i64 k)).eval (.tmp tx),(a.put (some tk) (.int .i64 k)).eval (.tmp tk)]=_
   rw[g1,g2,gW]
  simp[execOp,resolve,Deferred.ofValue,Act.eval,invoke];rw[show(args.map (a.put (some tk) (.int .i64 k)).eval)= #[v0, .int .i64 k]from hm]
 have hG:=hM f _ v7 w2 ((us.drop off).take n) v0 x k r1 T' (by
  rw[←gW,pW,d1];cases RV:ki.ty.agg with
  | true=>rfl
  | false=>
   have:n=1:=by have:=d4 (d1.trans RV);omega
   subst this;show us.getD off undef=((us.drop off).take 1).getD 0 undef
   rw[KP undef (by omega),Nat.add_zero]) u2 sZ.2 hF (hi.globW u4)
 have dW:∀v w',(v= .int .i64 r1.2∧FB .i64 r1.2∧Wx w2 w'∧(∀b,b<w2.heap.size→¬T' b→w'.heap[b]?=w2.heap[b]?)∧GB w' (λb=>T' b∨w2.heap.size≤b) ((us.drop off).take n) (ki.ty.enc r1.1))→
   wpOps C.P ops Q [i4] ((a.put (some tk) (.int .i64 k)).put (some tr) v) w':=by
  rintro v w' ⟨rfl,DZ,lW,KV,hT⟩;obtain⟨Ts1,F1⟩:=u5 w' (ki.ty.enc r1.1) lW ZX KV hT
  have KX:∀(L2:LS) d,L2.x=L.x.set g ⟨MB t.ds off (ki.ty.enc r1.1),t.pl⟩→yC L d=true→yC L2 d=true:=λL2 d hL2 h=>by
   unfold yC at h⊢;rw[hL2,List.all_eq_true];intro t2 UY;obtain⟨aY,BH⟩:=List.getElem?_eq_some_iff.1 hx
   rcases List.mem_or_eq_of_mem_set UY with h5 | h5
   ·exact List.all_eq_true.1 h t2 h5
   ·subst h5;have:=List.all_eq_true.1 h t (by rw[←BH];exact List.getElem_mem aY);exact this
  have wZ:=F1.put (v:= .int .i64 k) (x:= .undef) b5 (KX _ tk rfl b8) (.undef _);have NZ:=wZ.put (v:= .int .i64 r1.2) (x:= .int .i64 r1.2) b6 (KX _ tr rfl b9) (.int _ _ DZ);have hi6:=NZ.put (v:= .int .i64 r1.2) (x:= .int .i64 r1.2) b7 (KX _ tc rfl b10) (.int _ _ DZ);refine UE h4 rfl (bB (v:= .int .i64 r1.2) (w':=w') (post:=λa' w2=>a'=((a.put (some tk) (.int .i64 k)).put (some tr) (.int .i64 r1.2)).put (some tc) (.int .i64 r1.2)∧w2=w') ?_ ⟨rfl,rfl⟩ _ _ λa5 w5 ⟨ea,ew⟩=>?_)
  ·have:((a.put (some tk) (.int .i64 k)).put (some tr) (.int .i64 r1.2)).eval (.tmp tr)= .int .i64 r1.2:=by
    show((a.put (some tk) (.int .i64 k)).put (some tr) (.int .i64 r1.2)).tmps.getD tr undef=_
    rw[JC _ _ _ (by simp[Act.put,xV];exact b6),if_pos rfl]
   simp[execOp,this]
  subst ea ew;exact rV _ _ _ _ hi6 hk
 refine UE h3 rfl ?_;unfold Oper.wp;rw[BV]
 rcases hG with⟨h5,h6⟩ | ⟨v,w',h5,h6⟩
 ·rw[h5,Oper.upon_enter];refine Calls.mono' h6 λex w' hp=>?_;obtain⟨v,rfl,hp⟩:=hp;exact dW v w' hp
 ·rw[h5,Oper.upon_value];exact dW v w' h6
omit [aA]in
def nV{us:List Value}{off n:Nat}(h:off+n≤us.length):(us.drop off).take n=(List.range n).map λj=>us.getD (off+j) undef:=by
 apply List.ext_getElem
 ·simp;omega
 ·intro j h1 h2;have hj:j<n:=by simpa using h2
  rw[List.getElem_take,List.getElem_drop,List.getElem_map,List.getElem_range,vE _ _ _ (by omega)]
omit [aA]in
def zfG{P:Program}{o:Oper}{t:TypeId}{x:Operand}{f:Nat}{ev:Operand→Value}{off n b p:Nat}{ft:TypeId}(ho:o.op= .fieldAddr t x f)(hf:WI P t f=some (off,ft))(xV:BC P ft=some (n+1))
  (hx:ev x= .pointer (some (iA b p))):(execOp ev o).run P w= .ok (.value (.pointer (some (iA b (p+off))))) w:=by
 unfold WI at hf;split at hf
 case h_2=>cases hf
 rename_i fs hu;split at hf
 case h_2=>cases hf
 rename_i fld KY;cases hf;simp[execOp,ho,hx,Instr.fieldAt,BD hu,KY,Instr.sureAddr,fieldPlace,YF xV,uD]
omit [aA]in
def MM{d:Nat}(hf:yC L d=true){g:Nat}{t:LT}{p:LP}(hg:L.x[g]?=some t)(hp:p∈t.pl):p.slot≠d:=λe=>by
 obtain⟨h1,h2⟩:=List.getElem?_eq_some_iff.1 hg;have:=List.all_eq_true.1 (List.all_eq_true.1 hf t (by rw[←h2];exact List.getElem_mem h1)) p hp;rw[e,Nat.beq_refl]at this;cases this
def zgl{M:Nat→Option AC}(hM:AD C.P M C.g){ops:Array Oper}{Q:Exit→Act→World→Prop}{K:LS→Option R}{r:R}(hi:oC C w0 T0 L a w Ts)(hk:CT C M ops L K=some r)
  (rV:∀L' a' w' Ts',oC C w0 T0 L' a' w' Ts'→K L'=some r→Q .normal a' w'):wpOps C.P ops Q (List.range' 0 ops.size) a w:=by
 have at?:∀(l:List Oper),ops.toList=l→∀i,ops[i]?=l[i]?:=λl h i=>by rw[←h,Array.getElem?_toList]
 have size:∀(l:List Oper),ops.toList=l→ops.size=l.length:=λl h=>by rw[←h,Array.length_toList]
 -- a part in a variable
 have box:∀{g:Nat} {t:LT} {p:LP} {tb:Nat},oG 0 L.x tb=some (g,t,p)→p.k=1→L.x[g]?=some t∧p∈t.pl∧p.slot=tb∧∃(us:List Value) (bb:Nat),us.length=t.ds.length∧a.tmps.getD tb undef= .pointer (some (iA bb 0))∧p.off+p.n≤us.length∧0<p.n∧
   ∀j,j<p.n→w.cell? (iA bb j)=some (us.getD (p.off+j) undef):=λ{g t p tb} hf KZ=>by
  obtain⟨_,e1,e2,e3⟩:=QM hf;obtain⟨h1,h2⟩:=List.getElem?_eq_some_iff.1 e1;obtain⟨us,k1,k2⟩:=hi.held _ h1;rw[h2]at k1 k2;obtain⟨m1,m2,m3⟩:=k2 p e2;rw[KZ]at m3;obtain⟨bb,q1,_,_,q4⟩:=m3;exact⟨e1,e2,e3,us,bb,k1.1,by rw[←e3];exact q1,m1,m2,q4⟩
 have same:∀{us us':List Value} {n off bb:Nat} {N:Nat} {o:Nat},(∀j,j<N→w.cell? (iA bb j)=some (us.getD (o+j) undef))→(∀j,j<N→w.cell? (iA bb j)=some (us'.getD (o+j) undef))→off+n≤N→∀j,j<n→us.getD (o+off+j) undef=us'.getD (o+off+j) undef:=λ{us us' n off bb N o} h1 h2 h3 j hj=>by
  have e1:=h1 (off+j) (by omega);have e2:=h2 (off+j) (by omega);rw[e1]at e2;rw[Nat.add_assoc];exact Option.some.inj e2
 unfold CT at hk;split at hk
 ·rename_i tx T tb ty1 ps1 af1 o2 o3 o4 XV;split at hk
  case h_2=>cases hk
  rename_i g t p ag n WX RV xV;cases hb:(Nat.beq p.k 1&&Nat.beq n p.n&&Nat.blt tx C.nt&&yC L tx)
  case false=>simp[hb]at hk
  simp only[hb,iB]at hk;simp only[Bool.and_eq_true,Nat.blt_eq]at hb;obtain⟨⟨⟨b1,b2⟩,b3⟩,b4⟩:=hb;obtain rfl:=Nat.eq_of_beq_eq_true b2;obtain⟨e1,e2,e3,us,bb,f1,f2,f3,f4,f5⟩:=box WX (Nat.eq_of_beq_eq_true b1);rw[size _ XV];show wpOps C.P ops Q [0,1,2,3] a w
  have JX:=zbs (P:=C.P) (w:=w) (b:=bb) (o:=0) (c:=λj=>us.getD (p.off+j) undef) RV xV f4 λj hj=>by rw[Nat.zero_add];exact f5 j hj
  refine UE (at? _ XV 0) rfl (bB (v:=bif ag then .agg ((List.range p.n).map λj=>us.getD (p.off+j) undef).toArray else us.getD p.off undef) (w':=w)
   (post:=λa' w'=>a'=a.put (some tx) (bif ag then .agg ((List.range p.n).map λj=>us.getD (p.off+j) undef).toArray else us.getD p.off undef)∧w'=w) ?_ ⟨rfl,rfl⟩ _ _ λa1 w1 ⟨ea,ew⟩=>?_)
  ·have:a.eval (.tmp tb)= .pointer (some (iA bb 0)):=f2;simp[execOp,this,Instr.loadAt,Instr.sureAddr,JX]
  subst ea ew;have iW:tb≠tx:=by rw[←e3];exact MM b4 e1 e2
  refine sS hM (at? _ XV 1) (at? _ XV 2) (at? _ XV 3) e1 (hi.put b3 b4 (.undef _)) b3 (λus' hl hp=>?_) hk rV;obtain⟨m1,_,m3⟩:=hp p e2;rw[Nat.eq_of_beq_eq_true b1]at m3;obtain⟨bb',q1,_,_,q4⟩:=m3
  have eZ:bb'=bb:=by
   rw[e3,JC _ _ _ (by rw[hi.size];exact b3),if_neg iW,f2]at q1;injection q1 with h;injection h with h;exact(congrArg Addr.block h).symm
  subst eZ;rw[JC _ _ _ (by rw[hi.size];exact b3),if_pos rfl];have WV:=same f5 q4 (off:=0) (n:=p.n) (by omega);cases ag with
  | true=>
   simp only[cond_true];rw[nV m1];congr 2;exact List.map_congr_left λj hj=>by have:=WV j (by simpa using hj);simpa using this
  | false=>have:=WV 0 f4;simpa using this
 ·rename_i tx ts ty1 ps1 af1 o2 o3 o4 XV;split at hk
  case h_2=>cases hk
  rename_i g t p WX;cases hb:(Nat.beq p.k 0&&Nat.blt tx C.nt&&yC L tx)
  case false=>simp[hb]at hk
  simp only[hb,iB]at hk;simp only[Bool.and_eq_true,Nat.blt_eq]at hb;obtain⟨⟨b1,b3⟩,b4⟩:=hb;obtain⟨_,e1,e2,e3⟩:=QM WX;rw[size _ XV];show wpOps C.P ops Q [0,1,2,3] a w
  refine UE (at? _ XV 0) rfl (bB (v:=a.tmps.getD ts undef) (w':=w) (post:=λa' w'=>a'=a.put (some tx) (a.tmps.getD ts undef)∧w'=w) ?_ ⟨rfl,rfl⟩ _ _ λa1 w1 ⟨ea,ew⟩=>?_)
  ·simp[execOp,Act.eval]
  subst ea ew;have iW:ts≠tx:=by rw[←e3];exact MM b4 e1 e2
  refine sS hM (at? _ XV 1) (at? _ XV 2) (at? _ XV 3) e1 (hi.put b3 b4 (.undef _)) b3 (λus' hl hp=>?_) hk rV;obtain⟨m1,_,m3⟩:=hp p e2;rw[Nat.eq_of_beq_eq_true b1]at m3;have m3:=m3.2;rw[e3,JC _ _ _ (by rw[hi.size];exact b3),if_neg iW]at m3;rw[JC _ _ _ (by rw[hi.size];exact b3),if_pos rfl];exact m3
 ·rename_i tp T1 tb fi ty0 ps0 af0 tx T tp' ty1 ps1 af1 o2 o3 o4 XV;split at hk
  case h_2=>cases hk
  rename_i g t p fo ft ag n WX hfo RV xV;split at hk
  case h_2=>cases hk
  rename_i m hft;cases hb:(Nat.beq p.k 1&&Nat.beq tp tp'&&Nat.ble (fo+n) p.n&&Nat.blt 0 n&&Nat.blt tx C.nt&&Nat.blt tp C.nt&&yC L tx&&yC L tp)
  case false=>simp[hb]at hk
  simp only[hb,iB]at hk;simp only[Bool.and_eq_true,Nat.blt_eq]at hb;obtain⟨⟨⟨⟨⟨⟨⟨b1,b2⟩,b3⟩,b4⟩,b5⟩,b6⟩,b7⟩,b8⟩:=hb;obtain rfl:=Nat.eq_of_beq_eq_true b2;have b3:=Nat.le_of_ble_eq_true b3;obtain⟨e1,e2,e3,us,bb,f1,f2,f3,f4,f5⟩:=box WX (Nat.eq_of_beq_eq_true b1);rw[size _ XV];show wpOps C.P ops Q [0,1,2,3,4] a w
  have JX:=zbs (P:=C.P) (w:=w) (b:=bb) (o:=fo) (c:=λj=>us.getD (p.off+fo+j) undef) RV xV b4 λj hj=>by rw[Nat.add_assoc];exact f5 (fo+j) (by omega)
  refine UE (at? _ XV 0) rfl (bB (v:= .pointer (some (iA bb (0+fo)))) (w':=w) (post:=λa' w'=>a'=a.put (some tp) (.pointer (some (iA bb (0+fo))))∧w'=w) ?_ ⟨rfl,rfl⟩ _ _ λa1 w1 ⟨ea,ew⟩=>?_)
  ·exact zfG rfl hfo hft f2
  subst ea ew;have NW:oC C w0 T0 ⟨cA L.f tp .undef,L.x⟩ (a.put (some tp) (.pointer (some (iA bb (0+fo))))) w1 Ts:=hi.put b6 b8 (.undef _);have D7:tb≠tp:=by rw[←e3];exact MM b8 e1 e2
  have E7:tb≠tx:=by rw[←e3];exact MM b7 e1 e2
  refine UE (at? _ XV 1) rfl (bB (v:=bif ag then .agg ((List.range n).map λj=>us.getD (p.off+fo+j) undef).toArray else us.getD (p.off+fo) undef) (w':=w1)
   (post:=λa' w'=>a'=(a.put (some tp) (.pointer (some (iA bb (0+fo))))).put (some tx) (bif ag then .agg ((List.range n).map λj=>us.getD (p.off+fo+j) undef).toArray else us.getD (p.off+fo) undef)∧w'=w1) ?_ ⟨rfl,rfl⟩ _ _ λa1 w2 ⟨ea,ew⟩=>?_)
  ·have:(a.put (some tp) (.pointer (some (iA bb (0+fo))))).eval (.tmp tp)= .pointer (some (iA bb (0+fo))):=by
    show(a.put (some tp) _).tmps.getD tp undef=_
    rw[JC _ _ _ (by rw[hi.size];exact b6),if_pos rfl]
   rw[Nat.zero_add]at this;simp only[Nat.zero_add]at this⊢;simp[execOp,this,Instr.loadAt,Instr.sureAddr,JX]
  subst ea ew;refine sS hM (at? _ XV 2) (at? _ XV 3) (at? _ XV 4) e1 (NW.put b5 b7 (.undef _)) b5 (λus' hl hp=>?_) hk rV;obtain⟨m1,_,m3⟩:=hp p e2;rw[Nat.eq_of_beq_eq_true b1]at m3;obtain⟨bb',q1,_,_,q4⟩:=m3
  have eZ:bb'=bb:=by
   rw[e3,JC _ _ _ (by rw[NW.size];exact b5),if_neg E7,JC _ _ _ (by rw[hi.size];exact b6),if_neg D7,f2]at q1;injection q1 with h;injection h with h;exact(congrArg Addr.block h).symm
  subst eZ;rw[JC _ _ _ (by rw[NW.size];exact b5),if_pos rfl];have WV:=same f5 q4 (off:=fo) (n:=n) b3;cases ag with
  | true=>
   simp only[cond_true];rw[nV (by omega)];congr 2;exact List.map_congr_left λj hj=>WV j (by simpa using hj)
  | false=>have:=WV 0 b4;simpa using this
 ·cases hk
section
variable (C:Cx) (M:Nat→Option AC)
def ZT(ops:Array Oper)(L:LS)(K:LS→Option R):Option R:=
 match ops.toList with
 | [⟨some tb, .box _ (.tmp ts),_,_,_,none⟩,⟨some tc, .assign (.const v),_,_,_,none⟩]=>
  match oG 0 L.x ts with
  | some (g,t,p)=>gd (Nat.beq p.k 2&&Nat.blt tb C.nt&&Nat.blt tc C.nt&&yC L tb&&yC L tc&&!(Nat.beq tb tc)) (
    K ⟨cA (cA L.f tb .undef) tc (xH v),L.x.set g ⟨t.ds,⟨tb,1,p.off,p.n⟩ :: t.pl⟩⟩) none
  | _=>none
 | _=>none
noncomputable def qT(md:List (Nat×Nat))(tr:List (Nat×List (Nat×Bool)))(fz:List (Nat×List Nat))(c:Code)(L:LS)(K:Ex→LS→Option R):Option R:=
 match wG c with
 | none=>none
 | some id=>match KA id md with
  | some k=>match c with
   | .region _ ops false=>gd (Nat.beq k 1) (CT C M ops L (K .normal)) (ZT C ops L (K .normal))
   | _=>none
  | none=>mD C dU c (sH L) λe st=>nT (TG c) ((KA id tr).getD []) ((KA id fz).getD []) L st (K e)
noncomputable def PN(md:List (Nat×Nat))(tr:List (Nat×List (Nat×Bool)))(fz:List (Nat×List Nat)):Code→LS→(Ex→LS→Option R)→Option R
 | .seq c rest,L,K=>qT C M md tr fz c L λe L'=>match e with
  | .normal=>PN md tr fz rest L' K
  | e=>K e L'
 | .ret,L,K=>K .ret L
 | _,_,_=>none
end
def zh3{ops:Array Oper}{Q:Exit→Act→World→Prop}{K:LS→Option R}{r:R}(hi:oC C w0 T0 L a w Ts)(hk:ZT C ops L K=some r)
  (rV:∀L' a' w' Ts',oC C w0 T0 L' a' w' Ts'→K L'=some r→Q .normal a' w'):wpOps C.P ops Q (List.range' 0 ops.size) a w:=by
 have at?:∀(l:List Oper),ops.toList=l→∀i,ops[i]?=l[i]?:=λl h i=>by rw[←h,Array.getElem?_toList]
 have size:∀(l:List Oper),ops.toList=l→ops.size=l.length:=λl h=>by rw[←h,Array.length_toList]
 unfold ZT at hk;split at hk
 case h_2=>cases hk
 rename_i tb e ts ty1 ps1 af1 tc v ty2 ps2 af2 XV;split at hk
 case h_2=>cases hk
 rename_i g t p WX;cases hb:(Nat.beq p.k 2&&Nat.blt tb C.nt&&Nat.blt tc C.nt&&yC L tb&&yC L tc&&!(Nat.beq tb tc))
 case false=>simp[hb]at hk
 simp only[hb,iB]at hk;simp only[Bool.and_eq_true,Nat.blt_eq,Bool.not_eq_true']at hb;obtain⟨⟨⟨⟨⟨b1,b2⟩,b3⟩,b4⟩,b5⟩,b6⟩:=hb;have hbc:tb≠tc:=λe=>by rw[e,Nat.beq_refl]at b6;cases b6
 obtain⟨_,e1,e2,e3⟩:=QM WX;have e1:L.x[g]?=some t:=e1;obtain⟨aY,BH⟩:=List.getElem?_eq_some_iff.1 e1;obtain⟨us,k1,k2⟩:=hi.held g aY;rw[BH]at k1 k2;obtain⟨m1,m2,m3⟩:=k2 p e2;rw[Nat.eq_of_beq_eq_true b1,e3]at m3;have m3:a.tmps.getD ts undef= .agg ((us.drop p.off).take p.n).toArray:=m3;rw[size _ XV];show wpOps C.P ops Q [0,1] a w
 have IV:∀(o:Obj) j,j<w.heap.size→(w.alloc o).heap[j]?=w.heap[j]?:=λo j hj=>VG w o j hj;have xV:∀o:Obj,(w.alloc o).heap.size=w.heap.size+1:=λo=>by simp
 refine UE (at? _ XV 0) rfl (bB (v:= .pointer (some (iA w.heap.size 0))) (w':=w.alloc (.cells ((us.drop p.off).take p.n).toArray e)) (post:=λa' w'=>a'=a.put (some tb) (.pointer (some (iA w.heap.size 0)))∧w'=w.alloc (.cells ((us.drop p.off).take p.n).toArray e)) ?_ ⟨rfl,rfl⟩ _ _ λa1 w1 ⟨ea,ew⟩=>?_)
 ·have:a.eval (.tmp ts)= .agg ((us.drop p.off).take p.n).toArray:=m3;simp[execOp,this,Instr.box,newVar,newRow,Value.cells,iA]
 subst ea ew
 -- memory has one block more
 have tV:∀(t':LT),(L.x.set g t').length=L.x.length:=λt'=>List.length_set;have T8:∀b,Sx ⟨L.f,L.x.set g ⟨t.ds,⟨tb,1,p.off,p.n⟩ :: t.pl⟩⟩ Ts b→Sx L Ts b:=λb ⟨j,hj,hb⟩=>⟨j,by rw[←tV];exact hj,hb⟩
 have Z0:∀j (h:j<L.x.length),∀q∈L.x[j].pl,(a.put (some tb) (.pointer (some (iA w.heap.size 0)))).tmps.getD q.slot undef=a.tmps.getD q.slot undef:=λj h q hq=>by
  rw[JC _ _ _ (by rw[hi.size];exact b2),if_neg];exact MM b4 (List.getElem?_eq_getElem h) hq
 have yX:∀us' j (h:j<L.x.length),∀q∈L.x[j].pl,zH a w (Sx L Ts) us' q→zH (a.put (some tb) (.pointer (some (iA w.heap.size 0)))) (w.alloc (.cells ((us.drop p.off).take p.n).toArray e)) (Sx ⟨L.f,L.x.set g ⟨t.ds,⟨tb,1,p.off,p.n⟩ :: t.pl⟩⟩ Ts) us' q:=λus' j h q hq ⟨q1,q2,q3⟩=>by
  refine⟨q1,q2,?_⟩;rw[Z0 j h q hq];split at q3
  ·exact q3
  ·obtain⟨bb,g1,g2,g3,g4⟩:=q3;exact⟨bb,g1,by rw[xV];omega,λh=>g3 (T8 bb h),λj hj=>(gD (IV _ bb g2)).trans (g4 j hj)⟩
  ·exact q3
 have NW:oC C w0 T0 ⟨cA L.f tb .undef,L.x.set g ⟨t.ds,⟨tb,1,p.off,p.n⟩ :: t.pl⟩⟩ (a.put (some tb) (.pointer (some (iA w.heap.size 0)))) (w.alloc (.cells ((us.drop p.off).take p.n).toArray e)) Ts:=by
  refine⟨hi.wx.trans (vL _ _),λb hb ho=>(IV _ b (Nat.lt_of_lt_of_le hb hi.wx.size)).trans (hi.frame b hb ho),λi=>?_,λj hj=>?_,λi j b h1 h2 h3 h4=>hi.apart i j b (by rw[←tV];exact h1) (by rw[←tV];exact h2) h3 h4,
   λj b hj hb=>?_,by simp[Act.put,hi.size],hi.defers,hi.glob⟩
  ·rw[JC _ _ _ (by rw[hi.size];exact b2)];show VR _ _ _ _ (cA L.f tb .undef i)
   by_cases h:i=tb
   ·subst h;rw[tA];exact .undef _
   ·rw[if_neg h,kA _ _ _ _ h];exact(hi.froz i).mono (λ_ _ h=>h) (λb _ hb=>IV _ b hb) λb hb=> .inl (T8 b hb)
  ·have MV:j<L.x.length:=by rw[←tV];exact hj
   show ∃us',GB _ (Ts j) us' ((L.x.set g ⟨t.ds,⟨tb,1,p.off,p.n⟩ :: t.pl⟩)[j]'(by rw[tV];exact MV)).ds∧∀q∈((L.x.set g ⟨t.ds,⟨tb,1,p.off,p.n⟩ :: t.pl⟩)[j]'(by rw[tV];exact MV)).pl,_
   by_cases A1:j=g
   ·subst A1;rw[List.getElem_set_self];refine⟨us,k1.keep (λb _ hb=>IV _ b hb) λ_ h _=>h,λq hq=>?_⟩
    rcases List.mem_cons.1 hq with rfl | hq
    ·refine⟨m1,m2,w.heap.size,?_,by rw[xV];omega,λ⟨j',YV,NV⟩=>?_,λi BW=>?_⟩
     ·rw[JC _ _ _ (by rw[hi.size];exact b2),if_pos rfl]
     ·have:=(hi.low j' _ (by rw[←tV];exact YV) NV).1;omega
     ·have BW:i<p.n:=BW;rw[iA,World.cell?_alloc_new];show(((us.drop p.off).take p.n).toArray)[i]?=some (us.getD (p.off+i) undef)
      rw[List.getElem?_toArray, ←KP (n:=p.n) undef BW,List.getD_eq_getElem?_getD,List.getElem?_eq_getElem (by simp;omega)];rfl
    ·exact yX us j MV q (by rw[BH];exact hq) (k2 q hq)
   ·rw[List.getElem_set_ne (λe=>A1 e.symm)];obtain⟨us2,n1,n2⟩:=hi.held j MV;exact⟨us2,n1.keep (λb _ hb=>IV _ b hb) λ_ h _=>h,λq hq=>yX us2 j MV q hq (n2 q hq)⟩
  ·obtain⟨n1,n2⟩:=hi.low j b (by rw[←tV];exact hj) hb;exact⟨by rw[xV];omega,n2⟩
 have KX:yC ⟨cA L.f tb .undef,L.x.set g ⟨t.ds,⟨tb,1,p.off,p.n⟩ :: t.pl⟩⟩ tc=true:=by
  unfold yC at b5⊢;rw[List.all_eq_true];intro t2 UY
  rcases List.mem_or_eq_of_mem_set UY with h5 | h5
  ·exact List.all_eq_true.1 b5 t2 h5
  ·subst h5;simp only[List.all_cons,Bool.and_eq_true];refine⟨by simpa using b6,List.all_eq_true.1 b5 t (by rw[←BH];exact List.getElem_mem aY)⟩
 have hi2:=NW.put (v:=v) (x:=xH v) b3 KX (CL v);refine UE (at? _ XV 1) rfl (bB (v:=v) (w':=w.alloc (.cells ((us.drop p.off).take p.n).toArray e)) (post:=λa' w'=>a'=(a.put (some tb) (.pointer (some (iA w.heap.size 0)))).put (some tc) v∧w'=w.alloc (.cells ((us.drop p.off).take p.n).toArray e)) ?_ ⟨rfl,rfl⟩ _ _ λa2 w2 ⟨ea,ew⟩=>?_)
 ·simp[execOp,Act.eval]
 subst ea ew;exact rV _ _ _ _ hi2 hk
def zbH(hC:VC C)(hΦ:cD C){M:Nat→Option AC}(hM:AD C.P M C.g){md:List (Nat×Nat)}{tr:List (Nat×List (Nat×Bool))}{fz:List (Nat×List Nat)}{r:R}{Q:Exit→Act→World→Prop}:
  ∀(c:Code) (L:LS) (a:Act) (w:World) (Ts:Nat→Nat→Prop) (K:Ex→LS→Option R),oC C w0 T0 L a w Ts→PN C M md tr fz c L K=some r→
   (∀ex L' a' w' Ts',oC C w0 T0 L' a' w' Ts'→K ex L'=some r→Q (OF ex) a' w')→c.wp C.P Q a w:=by
 have piece:∀(c:Code) (L:LS) (a:Act) (w:World) (Ts:Nat→Nat→Prop) (K:Ex→LS→Option R) (Q:Exit→Act→World→Prop),oC C w0 T0 L a w Ts→qT C M md tr fz c L K=some r→
   (∀ex L' a' w' Ts',oC C w0 T0 L' a' w' Ts'→K ex L'=some r→Q (OF ex) a' w')→c.wp C.P Q a w:=λc L a w Ts K Q hi qV rV=>by
  unfold qT at qV;split at qV
  ·cases qV
  rename_i id _;split at qV
  ·rename_i k _;split at qV
   ·rename_i rid ops;refine wp_region ?_;rw[List.range_eq_range'];cases hk:Nat.beq k 1
    ·rw[hk]at qV;exact zh3 hi qV λL' a' w' Ts' h1 h2=>rV .normal L' a' w' Ts' h1 h2
    ·rw[hk]at qV;exact zgl hM hi qV λL' a' w' Ts' h1 h2=>rV .normal L' a' w' Ts' h1 h2
   ·cases qV
  ·refine zbx hC hΦ dU c (λs=>s∈TG c) (zeR c λ_ h=>h) _ a w _ _ r Q hi.rel (λ_ _=>rfl) qV λe st' a' w' ρ' hg hk=>?_;obtain⟨L',Ts',h1,h2⟩:=zgR hi hg hk;exact rV e L' a' w' Ts' h2 h1
 intro c;induction c with
 | seq x y _ ihy=>
  intro L a w Ts K hi qV rV;simp only[PN]at qV;refine wp_seq (piece x L a w Ts _ _ hi qV λex L' a' w' Ts' h1 h2=>?_);cases ex with
  | normal=>exact ihy L' a' w' Ts' K h1 h2 rV
  | exit id=>exact rV (.exit id) L' a' w' Ts' h1 h2
  | ret=>exact rV .ret L' a' w' Ts' h1 h2
 | ret=>intro L a w Ts K hi qV rV;exact wp_ret (rV .ret L a w Ts hi qV)
 | _=>intro L a w Ts K hi qV rV;cases qV
end
end Go.D
namespace Go.D
variable [aA]
omit [aA]in
def dV:∀(base:Nat) (h:Nat→Option gA) (p:Nat) (rs:List V),HA [] base h p rs=h
 | base,h,p,[]=>rfl
 | base,h,p,v :: vs=>by cases v<;>simp[HA,dV]
omit [aA]in
def kU:∀(m:Nat) (as:List V) (bs:List Nat) (vs:List V) (h:Nat→Option gA),RA (lA m) as bs vs h=h
 | 0,as,bs,vs,h=>by cases as<;>rfl
 | m+1,[],bs,vs,h=>rfl
 | m+1,a :: as,bs,vs,h=>kU m as bs vs h
omit [aA]in
def vU:∀(m k:Nat) (bs:List Nat) (q:Nat),NA (lA m) k bs q=none
 | 0,k,bs,q=>rfl
 | m+1,k,bs,q=>vU m (k+1) bs q
def zcD:Ty→Bool
 | .v _=>true
 | .sl _=>true
 | _=>false
omit [aA]in
def zaC{ty:Ty}(h:zcD ty=true)(x:ty.T):vB (uB ty x):=by
 cases ty with
 | v t=>
  have uX:∀c∈enc t x,vB c:=λc hc S=>by
   obtain⟨j,hj,rfl⟩:=List.getElem_of_mem hc;have:=oH S t x j;rwa [List.getD_eq_getElem?_getD,List.getElem?_eq_getElem hj]at this
  show vB (GF t x)
  unfold GF;cases t.isAgg with
  | true=>exact zao λj hj=>uX _ (List.getElem_mem hj)
  | false=>
   simp only[cond_false];split
   ·rename_i c cs he;exact uX c (by rw[he];simp)
   ·exact λS=> .undef
 | sl t=>exact eH t x
 | _=>cases h
def aI:List Ty→Bool
 | []=>true
 | t :: ts=>zcD t&&aI ts
omit [aA]in
def zak:∀(ts:List Ty) (x:MA ts),aI ts=true→∀j (hj:j<(CA ts x).length),vB (CA ts x)[j]
 | [],x,h,j,hj=>by simp[CA]at hj
 | [t],x,h,j,hj=>by
  simp only[aI,Bool.and_true]at h;have:j=0:=by simp[CA]at hj;omega
  subst this;exact zaC h x
 | t :: d :: r,x,h,j,hj=>by
  simp only[aI,Bool.and_eq_true]at h;cases j with
  | zero=>exact zaC h.1 x.1
  | succ j=>exact zak (d :: r) x.2 (by simp only[aI,Bool.and_eq_true];exact h.2) j (by simpa[CA]using hj)
omit [aA]in
def lV:∀(ts:List Ty) (x:MA ts),(CA ts x).length=ts.length
 | [],_=>rfl
 | [t],x=>rfl
 | t :: d :: r,x=>by simp only[CA,List.length_cons];rw[lV (d :: r) x.2];rfl
omit [aA]in
def OU:∀(n:Nat) (ts:List Ty),QA (lA n) ts=true→ts.length=n
 | 0,[],_=>rfl
 | 0,_ :: _,h=>by simp[lA,QA]at h
 | n+1,[],h=>by simp[lA,QA,List.replicate_succ]at h
 | n+1,t :: ts,h=>by
  simp only[lA,List.replicate_succ,QA]at h;simp only[List.length_cons];rw[OU n ts h]
def lR(as:List V):Nat→V:=λi=>match as.drop i with
 | v :: _=>v
 | []=> .undef
def zcI(fn:Func)(e:Ex)(L:LS):Option Bool:=match e with
 | .exit _=>none
 | _=>match fn.results.toList with
  | [.tmp t]=>match(sH L).s t with
   | .bool b=>some b
   | _=>none
  | _=>none
section
variable (C:Cx) (M:Nat→Option AC)
noncomputable def GT(fn:Func)(body:Code)(md:List (Nat×Nat))(tr:List (Nat×List (Nat×Bool)))(fz:List (Nat×List Nat))(as:List V):Option Bool:=
 PN C M md tr fz body ⟨lR as,[]⟩ (zcI fn)
def zc7(fn:Func)(t:TN)(e:Ex)(L:LS):Option (El t×Int×Value):=match e with
 | .exit _=>none
 | _=>match fn.results.toList,L.x,L.f 0 with
  | [.tmp tr],[⟨ds,pl⟩], .raw u _=>gd (pl.any (λp=>Nat.beq p.slot 0&&Nat.beq p.k 2&&Nat.beq p.off 0&&Nat.beq p.n (sz t))&&Nat.beq ds.length (sz t)) (match(sH L).s tr with
   | .int .i64 k=>bnd (zB t ds) λz=>some (z,k,u)
   | _=>none) none
  | _,_,_=>none
noncomputable def IT(fn:Func)(body:Code)(md:List (Nat×Nat))(t:TN)(u:Value)(x:El t)(k:Int):Option (El t×Int×Value):=
 PN C M md [] [] body ⟨λi=>match i with | 0=> .raw u .undef | 1=> .int .i64 k | _=> .undef,[⟨enc t x,[⟨0,2,0,sz t⟩]⟩]⟩ (zc7 fn t)
end
section
variable {C:Cx}
def zeH{w0:World}{own:Ow}{ρ:Nat→Option RI}{st:St}{a:Act}{w:World}{outer:Nat→Prop}(hr:AA C w0 outer own ρ st a w){fn:Func}{tr:Nat}{b:Bool}(h:fn.results.toList=[.tmp tr])(hs:st.s tr= .bool b):
  (results fn a.tmps).run C.P w= .ok (.bool b) w:=by
 obtain⟨rv,cells,h1,h2,h3,h4⟩:=NR hr (fn:=fn) (sh:=[(false,1)]) (vs:=[.bool b]) (by rw[h];simp[yE,hs,V.leaf]);cases h1 with
 | one v nZ=>
  cases nZ;have:=h3 0 (by simp);simp only[List.getD_cons_zero,List.getElem_cons_zero]at this;cases this with
  | bool _=>simpa using h4
def zgX (hC : VC C) (hΦ : cD C) {M : Nat → Option AC} (hM : AD C.P M C.g) {f : Nat} {fn : Func} {body : Code} (hf : C.P.funcs[f]? = some fn) (hb : fn.body = some body) (PV : (fn.name == "runtime.NumGoroutine") = false)
  (I3:C.nt=fn.ntmps) (md:List (Nat×Nat)) (tr:List (Nat×List (Nat×Bool))) (fz:List (Nat×List Nat)) (n:Nat) (ats:List Ty) (F:MA ats→Option Bool)
  (oW:QA (lA n) ats=true) (hdt:aI ats=true) (FX:Nat.ble n fn.ntmps=true)
  (wX:∀x r,sA ats x→F x=some r→GT C M fn body md tr fz (CA ats x)=some r):
  nA C.P f ⟨lA n,MA ats,MA [.v .bool],DB ats,F,tC [.v .bool],[(false,1)],[],false⟩ C.g:=by
 generalize fZ:lA n=ks at oW⊢;have R7:ks.length=n:=by rw[←fZ];simp[lA]
 refine⟨EI ks ats oW,?_⟩;intro w args as outer ownw ρ x r base bs xV EW hh WW KV N1 P4 lY hF Q2 aY;simp only at xV EW hh WW KV lY hF Q2;have FX:=Nat.le_of_ble_eq_true FX;refine .inl ⟨?_,calls_of_wp hf hb ?_⟩
 ·have uW : ¬ fn.name = "runtime.NumGoroutine" := by simpa using PV
  simp[callFunc,program,hf,hb,uW,Sem.run]
 obtain⟨ρ2,H1,H2,H3,H4,H5⟩:=za6 oW lY hh KV;obtain⟨e1,e2⟩:=zbr (w:=w) (ρ:=ρ) H2 ks ats as x 0 (λj=>args.getD j undef) oW lY (λq t m h1 h2=>H5 q _ h1 h2) WW;have fY:=pS ats x (zcn H1 ks ats x 0 (λj=>args.getD j undef) oW (λ_ _ h=>h) λj hj=>e2 j hj)
 obtain⟨g1,g2⟩:UA ks 0 (CA ats x)=CA ats x∧pA ks 0 (CA ats x)=λ_=>none:=by
  rw[←fZ];exact OR n 0 _ ((lV ats x).trans (OU n ats (by rw[fZ];exact oW)))
 rw[g1]at e1 e2;have SW:(λj=>args.getD j undef)=λj=>args.getD j undef:=rfl
 have XY:∀i,VR w (λ_=>none) (Sx ⟨lR (CA ats x),[]⟩ λ_ _=>False) (({tmps:=args++Array.replicate (fn.ntmps - args.size) undef,defers:=[]}:Act).tmps.getD i undef) (lR (CA ats x) i):=λi=>by
  show VR w _ _ _ (match(CA ats x).drop i with | v :: _=>v | []=> .undef)
  by_cases hi:i<(CA ats x).length
  ·rw[List.drop_eq_getElem_cons hi];have h3:=e2 i hi;have g7:i<args.size:=by omega
   rw[Array.getD_eq_getD_getElem?]at h3⊢;rw[Array.getElem?_append_left g7]
   exact(h3.noRef (zak ats x hdt i hi) _).mono (λ_ _ h=>h) (λ_ _ _=>rfl) λb h=>by
    obtain⟨j,hj,_⟩:=h;simp at hj
  ·rw[List.drop_eq_nil_of_le (by omega)];exact .undef _
 have B1:oC C w VA ⟨lR (CA ats x),[]⟩ {tmps:=args++Array.replicate (fn.ntmps - args.size) undef,defers:=[]} w λ_ _=>False:=by
  refine⟨Wx.refl _,λ_ _ _=>rfl,XY,λj hj=>?_,λi j b h=>?_,λj b h=>?_,by simp;omega,rfl,⟨aY.p,λb _ h=>h,aY.base,λb _ h=>h⟩⟩
  ·simp at hj
  ·simp at h
  ·simp at h
 refine zbH (T0:=VA) hC hΦ hM (r:=r) body _ _ w _ _ B1 (wX x r fY hF) λex L' a' w' Ts' hi hk=>?_
 have key:(match fn.results.toList with
  | [.tmp t]=>match(sH L').s t with
   | .bool b=>some b
   | _=>none
  | _=>none)=some r→a'.defers=[]∧∃v,(results fn a'.tmps).run C.P w'= .ok v w'∧∃v',Ending.returned v= .returned v'∧∃ρf,EA w outer ownw ρf (fC ⟨ks,MA ats,MA [.v .bool],DB ats,λx=>F x,tC [.v .bool],[(false,1)],[],false⟩ as bs base (tC [.v .bool] r)) w'∧
   VR w' ρf (bA outer ρf (fC ⟨ks,MA ats,MA [.v .bool],DB ats,λx=>F x,tC [.v .bool],[(false,1)],[],false⟩ as bs base (tC [.v .bool] r))) v' (HF ⟨ks,MA ats,MA [.v .bool],DB ats,λx=>F x,tC [.v .bool],[(false,1)],[],false⟩ base (tC [.v .bool] r))∧
   (∀q b,NA ks 0 bs q=some b→ρf b=ρ q)∧(∀r,ρf r≠none→(base≤r∧r<base+128)∨r∈bs):=by
  intro hk;split at hk
  case h_2=>cases hk
  rename_i t qW;split at hk
  case h_2=>cases hk
  rename_i b hs;cases hk
  have hx:fC ⟨ks,MA ats,MA [.v .bool],DB ats,λx=>F x,tC [.v .bool],[(false,1)],[],false⟩ as bs base (tC [.v .bool] r)=λ_=>none:=by
   unfold fC oD;simp only[cond_false];rw[dV, ←fZ,kU]
  refine⟨hi.defers, .bool r,zeH hi.rel qW hs,_,rfl,λ_=>none,?_,?_,?_,λr hr=>absurd rfl hr⟩
  ·rw[hx];exact⟨hi.wx,λb hb _=>hi.frame b hb λh=>h,hh.outLt,λr row hr=>(by cases hr),λq q' row row' qi qi' hq=>(by cases hq),pB.zero λq t l m hq=>(by cases hq)⟩
  ·exact .bool _
  ·rw[←fZ];intro q b hq;rw[vU]at hq;cases hq
 unfold zcI at hk;cases ex with
 | exit id=>cases hk
 | normal=>exact key hk
 | ret=>exact key hk
def GB.subs{w:World}{T:Nat→Prop}{us:List Value}{ds es:List V}(h:GB w T us ds)(hs:ZA ds es):GB w T us es:=by
 obtain⟨h1,par,X,o,hX,h2⟩:=h;exact⟨h1.trans hs.len,par,X,o,hX,λj hj=>(h2 j (by rw[hs.len];exact hj)).sub (hs.get j (by rw[hs.len];exact hj) hj)⟩
def zhi (hC : VC C) (hΦ : cD C) {M : Nat → Option AC} (hM : AD C.P M C.g) {f : Nat} {fn : Func} {body : Code} (hf : C.P.funcs[f]? = some fn) (hb : fn.body = some body) (PV : (fn.name == "runtime.NumGoroutine") = false)
  (I3:C.nt=fn.ntmps) (SY:Nat.ble 2 fn.ntmps=true) (md:List (Nat×Nat)) (t:TN) (F:El t→Int→Option (El t×Int))
  (wX:∀u x k r,FB .i64 k→F x k=some r→IT C M fn body md t u x k=some (r.1,r.2,u)):
  RC C.P f ⟨.st t,F⟩ C.g:=by
 intro w us v x k r T hv hT hk hF hg;have hv:v= .agg us.toArray:=hv;have tV:us.length=sz t:=hT.1.trans (WA t x);have SY:=Nat.le_of_ble_eq_true SY;refine zaz hf hb PV ?_;generalize EZ:({tmps:= #[v, .int .i64 k]++Array.replicate (fn.ntmps - (#[v, .int .i64 k]:Array Value).size) undef,defers:=[]}:Act)=a0;have xV:a0.tmps.size=C.nt:=by subst EZ;simp;omega
 have R4:a0.defers=[]:=by subst EZ;rfl
 have g0:a0.tmps.getD 0 undef=v:=by subst EZ;rw[Array.getD_eq_getD_getElem?,Array.getElem?_append_left (by simp)];rfl
 have g1:a0.tmps.getD 1 undef= .int .i64 k:=by subst EZ;rw[Array.getD_eq_getD_getElem?,Array.getElem?_append_left (by simp)];rfl
 let L0:LS:=⟨λi=>match i with | 0=> .raw v .undef | 1=> .int .i64 k | _=> .undef,[⟨enc t x,[⟨0,2,0,sz t⟩]⟩]⟩
 have B1:oC C w T L0 a0 w λ_ b=>T b∧b<w.heap.size:=by
  refine⟨Wx.refl _,λ_ _ _=>rfl,λi=>?_,λj hj=>?_,λi j b h1 h2 _ _=>?_,λj b _ h=>⟨h.2, .inl h.1⟩,xV,R4,hg⟩
  ·match i with
   | 0=>rw[g0];exact .raw _ _ (.undef _)
   | 1=>rw[g1];exact .int _ _ hk
   | i+2=>exact .undef _
  ·have hj:j<1:=hj;have:j=0:=by omega
   subst this;refine⟨us,hT.bnd,λp hp=>?_⟩;have hp:p∈[(⟨0,2,0,sz t⟩:LP)]:=hp;simp only[List.mem_singleton]at hp;subst hp;refine⟨by simp;omega,xF t,?_⟩;show a0.tmps.getD 0 undef= .agg ((us.drop 0).take (sz t)).toArray
   rw[g0,hv,List.drop_zero,List.take_of_length_le (by omega)]
  ·have h1:i<1:=h1;have h2:j<1:=h2;omega
 refine zbH (T0:=T) hC hΦ hM (r:=(r.1,r.2,v)) body _ _ w _ _ B1 (wX v x k r hk hF) λex L' a' w' Ts' hi SV=>?_
 have key:(match fn.results.toList,L'.x,L'.f 0 with
  | [.tmp tr],[⟨ds,pl⟩], .raw u _=>gd (pl.any (λp=>Nat.beq p.slot 0&&Nat.beq p.k 2&&Nat.beq p.off 0&&Nat.beq p.n (sz t))&&Nat.beq ds.length (sz t)) (match(sH L').s tr with
   | .int .i64 k=>bnd (zB t ds) λz=>some (z,k,u)
   | _=>none) none
  | _, _, _ => none) = some (r.1, r.2, v)→a'.defers =[]∧∃z,(results fn a'.tmps).run C.P w' = .ok z w'∧∃z', Ending.returned z = .returned z'∧z' = .int .i64 r.2∧FB .i64 r.2∧Wx w w'∧(∀b, b < w.heap.size→¬T b→w'.heap[b]? = w.heap[b]?)∧
      GB w' (λb=>T b∨w.heap.size≤b) us (uG.enc (.st t) r.1):=by
  intro SV;split at SV
  case h_2=>cases SV
  rename_i tr ds pl u d qW hx h0;cases eZ:(pl.any (λp=>Nat.beq p.slot 0&&Nat.beq p.k 2&&Nat.beq p.off 0&&Nat.beq p.n (sz t))&&Nat.beq ds.length (sz t))
  ·rw[eZ]at SV;cases SV
  rw[eZ]at SV;simp only[iB]at SV;simp only[Bool.and_eq_true]at eZ;obtain⟨b1,b2⟩:=eZ;have b2:=Nat.eq_of_beq_eq_true b2;obtain⟨p,hp,U8⟩:=List.any_eq_true.1 b1;simp only[Bool.and_eq_true]at U8;obtain⟨⟨⟨p1,p2⟩,p3⟩,p4⟩:=U8;have p1:=Nat.eq_of_beq_eq_true p1;have p2:=Nat.eq_of_beq_eq_true p2;have p3:=Nat.eq_of_beq_eq_true p3;have p4:=Nat.eq_of_beq_eq_true p4;split at SV
  case h_2=>cases SV
  rename_i k' hs;rw[eF]at SV;obtain⟨z,hz,SV⟩:=Option.bind_eq_some_iff.1 SV;have SV:=Option.some.inj SV;have q1:z=r.1:=(Prod.mk.inj SV).1;have q2:k'=r.2:=(Prod.mk.inj (Prod.mk.inj SV).2).1;have q3:u=v:=(Prod.mk.inj (Prod.mk.inj SV).2).2;subst q2 q3;obtain⟨h1,h2⟩:=TU hi.rel qW hs;have vV:0<L'.x.length:=by rw[hx];simp
  obtain⟨us',t1,t2⟩:=hi.held 0 vV;have PW:L'.x[0]=⟨ds,pl⟩:=by simp only[hx,List.getElem_cons_zero]
  rw[PW]at t1 t2;obtain⟨o1,_,o3⟩:=t2 p hp;rw[p2]at o3;have o3:a'.tmps.getD p.slot undef= .agg ((us'.drop p.off).take p.n).toArray:=o3;have hu:=hi.froz 0;rw[h0]at hu
  have kY:a'.tmps.getD 0 undef=u:=by
   generalize a'.tmps.getD 0 undef=uu at hu;cases hu;rfl
  have hl':us'.length=sz t:=t1.1.trans b2;rw[p1,p3,p4,List.drop_zero,List.take_of_length_le (by omega),kY,hv]at o3
  have huu:us'=us:=by
   have:=(Value.agg.inj o3).symm;have:=congrArg Array.toList this;simpa using this
  subst huu;refine⟨hi.defers,_,h1,_,rfl,rfl,h2,hi.wx,λb hb ho=>hi.frame b hb ho,?_⟩;rw[←q1];exact(t1.keep (λ_ _ _=>rfl) λb hb _=>(hi.low 0 b vV hb).2).subs (LC t hz)
 unfold zc7 at SV;cases ex with
 | exit id=>cases SV
 | normal=>exact key SV
 | ret=>exact key SV
def zhF{P:Program}{g:Gl}:AD P (λf=>KA f []) g:=λf ki h=>by cases h
def zgK{P:Program}{g:Gl}{f:Nat}{ki:AC}{l:List (Nat×AC)}(h:RC P f ki g)(hl:AD P (λf=>KA f l) g):AD P (λk=>KA k ((f,ki) :: l)) g:=λk c hk=>by
 have hk:KA k ((f,ki) :: l)=some c:=hk;simp only[KA]at hk;cases hb:Nat.beq f k
 ·rw[hb]at hk;exact hl k c hk
 ·rw[hb]at hk;obtain rfl:=Nat.eq_of_beq_eq_true hb;cases hk;exact h
end
end Go.D

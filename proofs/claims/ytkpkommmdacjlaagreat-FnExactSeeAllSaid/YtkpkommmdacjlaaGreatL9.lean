/-
 Functions that write into what they are k7, and into all that lies below it.
-/
import Derived.Test.YtkpkommmdacjlaaGreatL7
import Derived.Test.YtkpkommmdacjlaaGreatL8
set_option linter.all false
namespace Go.D
variable [aA]
def VA:Nat→Prop:=λ_=>False
inductive gF where
 | sl (t:TN)
 | st (t:TN)
def gF.T:gF→Type
 | .sl t=>List (El t)
 | .st t=>El t
def gF.enc:(k:gF)→k.T→List V
 | .sl t,l=>[.sl t l]
 | .st t,x=>D.enc t x
def gF.agg:gF→Bool
 | .sl _=>false
 | .st _=>true
structure nC where
 ty:gF
 F:ty.T→Int→Option (ty.T×Int)
def BB(w:World)(T:Nat→Prop)(us:List Value)(ds:List V):Prop:=
 us.length=ds.length∧∃par X o,par X=none∧∀j (h:j<ds.length),DV w VA T par (X,o+j) (us.getD j undef) ds[j]
def BC(P:Program)(f:Nat)(ki:nC)(g:Gl):Prop:=
 ∀(w:World) (us:List Value) (v:Value) (x:ki.ty.T) (k:Int) (r:ki.ty.T×Int) (T:Nat→Prop),
  (v=bif ki.ty.agg then .agg us.toArray else us.getD 0 undef)→BB w T us (ki.ty.enc x)→LB .i64 k→ki.F x k=some r→xJ g T w→
  EP P f #[v, .int .i64 k] w λz w'=>z= .int .i64 r.2∧LB .i64 r.2∧Wx w w'∧(∀b,b<w.heap.size→¬T b→w'.heap[b]?=w.heap[b]?)∧
   BB w' (λb=>T b∨w.heap.size≤b) us (ki.ty.enc r.1)
inductive QC(par:Nat→Option (Nat×Nat))(p:Nat×Nat):Nat→Prop where
 | one (b:Nat) (h:par b=some p):QC par p b
 | step (b c o:Nat) (h:par b=some (c,o)) (hc:QC par p c):QC par p b
omit [aA]in
def QC.ne{par:Nat→Option (Nat×Nat)}{p:Nat×Nat}{b:Nat}(h:QC par p b):par b≠none:=by
 cases h with
 | one _ h=>rw[h];simp
 | step _ _ _ h=>rw[h];simp
omit [aA]in
def QC.uniq{par:Nat→Option (Nat×Nat)}{p q:Nat×Nat}(hp:par p.1=none)(hq:par q.1=none){b:Nat}(h:QC par p b)(h':QC par q b):p=q:=by
 induction h with
 | one b h=>
  cases h' with
  | one _ h1=>rw[h]at h1;cases h1;rfl
  | step _ c o h1 hc=>rw[h]at h1;cases h1;exact absurd hp hc.ne
 | step b c o h hc ih=>
  cases h' with
  | one _ h1=>rw[h]at h1;cases h1;exact absurd hq hc.ne
  | step _ c' o' h1 lX=>rw[h]at h1;cases h1;exact ih lX
section
variable {w w':World} {bad bad' fr fr':Nat→Prop} {par par':Nat→Option (Nat×Nat)} {p p':Nat×Nat} {v:Value} {d d':V}
def DV.str(S:Nat→Prop)(hd:DV w bad fr par p v d)(s0:∀b,par b=some p→S b)(s1:∀b c o,S c→par b=some (c,o)→S b):
  DV w VA (λb=>¬bad b∧fr b∧S b) par p v d:=by
 induction hd with
 | triv p v d h=>exact .triv _ _ _ h
 | sl p t l b cap u OX qX hp he dX PX hz hu hv ih=>
  exact .sl p t l b cap u (λh=>h) ⟨OX,qX,s0 b hp⟩ hp he dX PX hz hu λi hi j hj=>ih i hi j hj λc hc=>s1 c b _ (s0 b hp) hc
def DV.sub(hd:DV w bad fr par p v d)(hs:tD d d'):DV w bad fr par p v d':=by
 cases hs with
 | refl=>exact hd
 | byte n=>cases hd with | triv _ _ _ h=>exact .triv _ _ _ λw' ρ' bad'=>(h w' ρ' bad').sub (.byte n)
 | nil t=>cases hd with | triv _ _ _ h=>exact .triv _ _ _ λw' ρ' bad'=>(h w' ρ' bad').sub (.nil t)
end
def mV(e:Bool):V→V
 | .int k n=> .int k n
 | .bool b=> .bool b
 | .ow r=>bif !e&&Nat.beq r 0 then .ow 0 else .undef
 | .ep r t i off=>bif !e&&Nat.beq r 0 then .ep 0 t i off else .undef
 | _=> .undef
def eB(t:TN)(e:Bool)(l:List (El t))(s:Nat→V):St:=
 ⟨λi=>bif e&&Nat.beq i 0 then .sl t []else mV e (s i),λq=>bif !e&&Nat.beq q 0 then some ⟨.arr t l, .tre⟩else none,128⟩
def mB(e:Bool)(ri:RI):Nat→Option RI:=λq=>bif !e&&Nat.beq q 0 then some ri else none
section
variable {R:Type}
def DJ(t:TN)(e:Bool)(st:St)(K:List (El t)→Option R):Option R:=
 gd e (match st.s 0 with
  | .sl _ []=>K []
  | _=>none) (match st.h 0 with
  | some ⟨.arr t' l, .tre⟩=>if h:t'=t then K (TN.cast h l)else none
  | _=>none)
variable (C:Cx) (M:Nat→Option nC)
def zJ(ops:Array Oper):Nat→Nat→St→(St→Option R)→Option R
 | _,0,st,K=>K st
 | k,m+1,st,K=>match ops[k]? with
  | some o=>gd o.guard.isNone (OA C (128+128 *k) o st λst'=>zJ ops (k+1) m st' K) none
  | none=>none
def DP (ops:Array Oper) (n:Nat) (t:TN) (l:List (El t)) (s:Nat→V) (K:List (El t)→(Nat→V)→Option R):Option R:=
 match ops[n]?,ops[n+1]?,ops[n+2]? with
 | some ⟨some tx, .load T (.tmp ta),_,_,_,none⟩,some ⟨some tk, .move (.tmp kk),_,_,_,none⟩,some ⟨some tr, .call {callee:= .value (.func f),args,argTypes:=_},_,_,_,none⟩=>
  match args.toList,xC C.P T,oC C.P T,mV false (s ta),mV false (s kk)with
  | [.tmp tx', .tmp tk'],some false,some 1, .ep _ t' i off, .int .i64 k=>
   gd (Nat.beq tx tx'&&Nat.beq tk tk'&&!(Nat.beq tx tk)&&Nat.blt tx C.nt&&Nat.blt tk C.nt&&Nat.blt tr C.nt&&!(Nat.beq tx kk)&&decide (t'=t)) (
    IG l i λy=>match(enc t y).drop off with
     | .sl t2 l2 :: _=>match M f with
      | some ⟨.sl t3,F⟩=>if h:t2=t3 then
        Option.bind (F (TN.cast h l2) k) λr=>bnd (vB t (FB (enc t y) off [.sl t3 r.1])) λz=>
         K (l.set i z) (cA (cA (cA s tx .undef) tk .undef) tr (.int .i64 r.2))
       else none
      | _=>none
     | _=>none) none
  | _,_,_,_,_=>none
 | _,_,_=>none
def tH(e:Bool)(v:V):Bool:=e||match v with
 | .ow r=>Nat.beq r 0
 | _=>false
def mL(k i:Int):Nat→V:=λj=>match j with
 | 0=> .ow 0
 | 1=> .int .i64 k
 | 5=> .int .i64 i
 | _=> .undef
noncomputable def ND(fu:Nat)(md:List (Nat×Nat))(t:TN)(e:Bool):Code→List (El t)→(Nat→V)→(Ex→List (El t)→(Nat→V)→Option R)→Option R
 | .skip,l,s,K=>K .normal l s
 | .region id ops d,l,s,K=>gd d none (match JA id md with
  | none=>zJ C ops 0 ops.size (eB t e l s) λst=>DJ t e st λl'=>K .normal l' st.s
  | some n=>gd (e||!(Nat.ble (n+3) ops.size)) none (zJ C ops 0 n (eB t e l s) λst=>DJ t e st λl1=>DP C M ops n t l1 st.s λl2 s2=>
    zJ C ops (n+3) (ops.size - (n+3)) (eB t e l2 s2) λst=>DJ t e st λl'=>K .normal l' st.s))
 | .seq a b,l,s,K=>ND fu md t e a l s λex l' s'=>match ex with
  | .normal=>ND fu md t e b l' s' K
  | ex=>K ex l' s'
 | .cond (.tmp c) a b,l,s,K=>gd (Nat.beq c 0) none (match mV e (s c)with
  | .bool x=>cond x (ND fu md t e a l s K) (ND fu md t e b l s K)
  | _=>none)
 | .block id b,l,s,K=>ND fu md t e b l s λex l' s'=>match ex with
  | .exit id'=>gd (Nat.beq id' id) (K .normal l' s') (K ex l' s')
  | ex=>K ex l' s'
 | .loop b,l,s,K=>match mV e (s 1),mV e (s 5)with
  | .int .i64 k, .int .i64 i=>gd (tH e (s 0)) (KA fu (λ(x:List (El t)×Int×Int) (k':List (El t)×Int×Int→Option R)=>
    ND fu md t e b x.1 (mL x.2.1 x.2.2) λex l' s'=>match ex with
     | .normal=>match mV e (s' 1),mV e (s' 5)with
      | .int .i64 k1, .int .i64 i1=>gd (tH e (s' 0)) (k' (l',k1,i1)) none
      | _,_=>none
     | ex=>K ex l' s') (l,k,i)) none
  | _,_=>none
 | .exit id,l,s,K=>K (.exit id) l s
 | .ret,l,s,K=>K .ret l s
 | _,_,_,_=>none
def HP(fn:Func)(t:TN)(e:Bool)(ex:Ex)(l':List (El t))(s':Nat→V):Option (List (El t)×Int):=
 match ex with
 | .exit _=>none
 | _=>match fn.results.toList with
  | [.tmp tr]=>gd (Nat.beq tr 0) none (match mV e (s' tr)with
   | .int .i64 k'=>gd e (match l' with | []=>some ([],k') | _=>none) (some (l',k'))
   | _=>none)
  | _=>none
noncomputable def uJ(fu:Nat)(fn:Func)(body:Code)(md:List (Nat×Nat))(t:TN)(e:Bool)(l:List (El t))(k:Int):Option (List (El t)×Int):=
 ND C M fu md t e body l (λj=>match j with | 0=> .ow 0 | 1=> .int .i64 k | _=> .undef) (HP fn t e)
end
omit [aA]in
def kR{fn:Func}{t:TN}{e:Bool}{ex:Ex}{l':List (El t)}{s':Nat→V}{r:List (El t)×Int}:HP fn t e ex l' s'=some r→
  (ex= .normal∨ex= .ret)∧∃tr,fn.results.toList=[.tmp tr]∧Nat.beq tr 0=false∧mV e (s' tr)= .int .i64 r.2∧l'=r.1∧(e=true→r.1=[]):=by
 have key:(match fn.results.toList with
   | [.tmp tr]=>gd (Nat.beq tr 0) none (match mV e (s' tr)with
    | .int .i64 k'=>gd e (match l' with | []=>some ([],k') | _=>none) (some (l',k'))
    | _=>none)
   | _=>none)=some r→∃tr,fn.results.toList=[.tmp tr]∧Nat.beq tr 0=false∧mV e (s' tr)= .int .i64 r.2∧l'=r.1∧(e=true→r.1=[]):=λh=>by
  split at h
  case h_2=>cases h
  rename_i tr CW;refine⟨tr,CW,?_⟩;cases XY:Nat.beq tr 0
  case true=>rw[XY]at h;cases h
  rw[XY]at h;simp only[OE]at h;split at h
  case h_2=>cases h
  rename_i k' hs;cases e with
  | false=>cases h;exact⟨rfl,hs,rfl,λh=>by cases h⟩
  | true=>
   simp only[gB]at h;split at h
   ·cases h;exact⟨rfl,hs,rfl,λ_=>rfl⟩
   ·cases h
 intro h;cases ex with
 | exit id=>cases h
 | normal=>exact⟨.inl rfl,key h⟩
 | ret=>exact⟨.inr rfl,key h⟩
section
variable {C:Cx} {w0:World} {own:Ow} {ρ:Nat→Option RI} {st:St} {a:Act} {w:World} {R:Type} {t:TN} {e:Bool} {ri:RI} {s:Nat→V}
omit [aA]in
def bE{P:Program}{ops:Array Oper}{Q:Exit→Act→World→Prop}{i:Nat}{rest:List Nat}{o:Oper}(ho:ops[i]?=some o)(hg:o.guard=none)(h:o.wp P a w (wpOps P ops Q rest) Q):
  wpOps P ops Q (i :: rest) a w:=by
 simp only[wpOps,ho];rw[if_pos (by simp[Region.wanted,hg])];exact .inl h
def LM(hC:EC C)(hΦ:JC C){outer:Nat→Prop}{ops:Array Oper}{Q:Exit→Act→World→Prop}{K:St→Option R}{r:R}(m2:Nat):∀(m k:Nat) (st:St) (a:Act) (w:World) (ρ:Nat→Option RI),
  xA C w0 outer own ρ st a w→(∀q,128+128 *k≤q→ρ q=none)→zJ C ops k m st K=some r→
  (∀st' a' w' ρ',xA C w0 outer own ρ' st' a' w'→(∀q qi,ρ q=some qi→ρ' q=some qi)→K st'=some r→wpOps C.P ops Q (List.range' (k+m) m2) a' w')→
  wpOps C.P ops Q (List.range' k (m+m2)) a w
 | 0,k,st,a,w,ρ,hr,hf,BV,CV=>by
  rw[Nat.zero_add];exact CV st a w ρ hr (λ_ _ h=>h) BV
 | m+1,k,st,a,w,ρ,hr,hf,BV,CV=>by
  rw[show m+1+m2=(m+m2)+1 by omega,List.range'_succ];simp only[zJ]at BV;split at BV
  case h_2=>cases BV
  rename_i o ho;cases hg:o.guard with
  | some x=>rw[hg]at BV;cases BV
  | none=>
   rw[hg]at BV;simp only[Option.isNone_none,gB]at BV;rw[UG]at BV;obtain⟨st1,h1,h2⟩:=Option.bind_eq_some_iff.1 BV;refine bE ho hg (aP hr hC hΦ ⟨_,hf⟩ (λq _=>hf _ (by omega)) h1 _ Q λa1 w1 hA=>?_);obtain⟨ρ1,GW,hE,hx⟩:=hA;refine LM hC hΦ m2 m (k+1) st1 a1 w1 ρ1 GW (λq hq=>by rw[hE q (by omega)];exact hf q (by omega)) h2 λst' a' w' ρ' p1 p2 p3=>?_;have:=CV st' a' w' ρ' p1 (λq qi hq=>p2 _ _ (hx q qi hq)) p3;rwa [show k+1+m=k+(m+1) by omega]
def wP{bad bad':Nat→Prop}{ρ ρ':Nat→Option RI}{w':World}{v:Value}{d:V}(h:VR w ρ bad v d)(hρ:e=false→ρ' 0=ρ 0):VR w' ρ' bad' v (mV e d):=by
 unfold mV;split
 ·cases h with | int _ _ h=>exact .int _ _ h
 ·cases h;exact .bool _
 ·rename_i r;cases hb:(!e&&Nat.beq r 0)
  ·exact .undef _
  ·simp only[Bool.and_eq_true,Bool.not_eq_true']at hb;have hρ:=hρ hb.1;obtain rfl:=Nat.eq_of_beq_eq_true hb.2;cases h with
   | ow _ ri h hn hc OV=>exact .ow _ _ (hρ.trans h) hn hc OV
   | owN _ ri ao h hn OV=>exact .owN _ _ _ (hρ.trans h) hn OV
 ·rename_i r t i off;cases hb:(!e&&Nat.beq r 0)
  ·exact .undef _
  ·simp only[Bool.and_eq_true,Bool.not_eq_true']at hb;have hρ:=hρ hb.1;obtain rfl:=Nat.eq_of_beq_eq_true hb.2;cases h with
   | ep _ _ _ _ ri h OV=>exact .ep _ _ _ _ _ (hρ.trans h) OV
 ·exact .undef _
def yP(hr:xA C w0 VA own ρ st a w)(hρ:∀q qi,mB e ri q=some qi→ρ q=some qi){K:List (El t)→Option R}{r:R}(hx:DJ t e st K=some r):
  ∃l',K l'=some r∧xA C w0 VA own (mB e ri) (eB t e l' st.s) a w:=by
 cases e with
 | true=>
  simp only[DJ,gB]at hx;split at hx
  case h_2=>cases hx
  rename_i t0 h0;refine⟨[],hx,⟨?_,λi=>?_,hr.size,hr.defers,hr.glob⟩⟩
  ·exact⟨hr.heap.wx,hr.heap.old,hr.heap.outLt,λq row hq=>(by cases hq),λq q' row row' qi qi' h1=>(by cases h1),lB.zero λq t l m hq=>(by cases hq)⟩
  ·show VR w _ _ _ (bif true&&Nat.beq i 0 then .sl t []else mV true (st.s i))
   cases hb:Nat.beq i 0
   ·exact wP (hr.slots i) (λh=>by cases h)
   ·obtain rfl:=Nat.eq_of_beq_eq_true hb;have:=hr.slots 0;rw[h0]at this;generalize a.tmps.getD 0 undef=v at this⊢;cases this with
    | slE _ _ _ h=>exact .slE _ _ _ h
    | slC _ _ _ _ _ _ _ _ h=>exact .slE _ _ _ h
 | false=>
  simp only[DJ,OE]at hx;split at hx
  case h_2=>cases hx
  rename_i t' l' EV;split at hx
  case isFalse=>cases hx
  rename_i ht;subst ht;have h0:ρ 0=some ri:=hρ 0 ri rfl;refine⟨l',hx,⟨?_,λi=>?_,hr.size,hr.defers,hr.glob⟩⟩
  ·have hb:∀b,bA VA (mB false ri) (eB t' false l' st.s).h b→bA VA ρ st.h b:=by
    rintro b (h | ⟨q,row,qi,h1,h2,h3,h4⟩)
    ·exact .inl h
    ·simp only[eB,Bool.not_false,Bool.true_and]at h1;cases hq:Nat.beq q 0
     ·rw[hq]at h1;cases h1
     ·obtain rfl:=Nat.eq_of_beq_eq_true hq;cases h1;exact .inr ⟨0,_,qi,EV,h2,hρ _ _ h3,h4⟩
   refine hr.heap.sub id hr.heap.wx hr.heap.old hr.heap.outLt (λq row hq=>?_) (λq q' row row' h1 h2 h3=>h3) (lB.sub hr.heap id hb (λ_ h=>h) λq t l m hq hm=>?_)
   ·simp only[eB,Bool.not_false,Bool.true_and]at hq;cases VW:Nat.beq q 0
    ·rw[VW]at hq;cases hq
    ·obtain rfl:=Nat.eq_of_beq_eq_true VW;cases hq;obtain⟨ri',k1,k2,k3⟩:=hr.heap.rows 0 _ EV;rw[h0]at k1;cases k1;exact⟨_,ri,EV,rfl,h0,YJ k2 hb _,λhn=>⟨λh=>h,λhm=>(k3 hn).1.2 hm⟩⟩
   ·simp only[eB,Bool.not_false,Bool.true_and]at hq;cases VW:Nat.beq q 0
    ·rw[VW]at hq;cases hq
    ·obtain rfl:=Nat.eq_of_beq_eq_true VW;cases hq;exact⟨⟨_,EV,rfl⟩,h0.symm⟩
  ·exact wP (hr.slots i) λ_=>h0.symm
def XC(P:Program)(M:Nat→Option nC)(g:Gl):Prop:=∀f ki,M f=some ki→BC P f ki g
def zbS{l:List (El t)}{T0:Nat→Prop}(hh:BA w0 VA (Ow.of T0) (mB false ri) (eB t false l s).h w)(hn:ri.nl=false){i off:Nat}{y z:El t}{t2:TN}{l2 l3:List (El t2)}(hy:l[i]?=some y)(KW:off<sz t)
  (hd:(enc t y).getD off .undef= .sl t2 l2) (hz:vB t (FB (enc t y) off [.sl t2 l3])=some z):
  ∃u T,w.cell? (gA ri.b (i *sz t+off))=some u∧BB w T [u] [.sl t2 l2]∧(∀b,T b→w0.heap.size≤b∨T0 b)∧
   ∀w',Wx w w'→(∀b,b<w.heap.size→¬T b→w'.heap[b]?=w.heap[b]?)→BB w' (λb=>T b∨w.heap.size≤b) [u] [.sl t2 l3]→
    ∀s',BA w0 VA (Ow.of T0) (mB false ri) (eB t false (l.set i z) s').h w':=by
 classical
 have EV:(eB t false l s).h 0=some ⟨.arr t l, .tre⟩:=rfl;obtain⟨hi,l7⟩:=List.getElem?_eq_some_iff.1 hy;obtain⟨par,FW⟩:=hh.dep;obtain⟨qY,IV⟩:=FW 0 t l .tre ri EV rfl rfl hn;obtain⟨u,hu,C8⟩:=IV i hi off KW;rw[l7,hd]at C8;obtain⟨ri',k1,k2,k3⟩:=hh.rows 0 _ EV;cases k1
 have rY:∀b,bA VA (mB false ri) (eB t false l s).h b→b=ri.b:=by
  rintro b (h | ⟨q,row,qi,h1,h2,h3,h4,h5⟩)
  ·exact h.elim
  ·simp only[mB,Bool.not_false,Bool.true_and]at h3;cases hq:Nat.beq q 0
   ·rw[hq]at h3;cases h3
   ·rw[hq]at h3;cases h3;exact h5.symm
 have pZ:bA VA (mB false ri) (eB t false l s).h ri.b:= .inr ⟨0,_,ri,EV,rfl,rfl,hn,rfl⟩;have HV:ri.b<w.heap.size:=(k3 hn).2;let p:Nat×Nat:=(ri.b,i *sz t+off);let T:Nat→Prop:=λb=>¬bA VA (mB false ri) (eB t false l s).h b∧GC w0 (Ow.of T0) b∧QC par p b;refine⟨u,T,hu,⟨rfl,par,ri.b,i *sz t+off,qY,λj hj=>?_⟩,λb hb=>hb.2.1,λw' xW VV ⟨_,par',X,o,hX,hT⟩ s'=>?_⟩
 ·have:j=0:=by simpa using hj
  subst this;exact C8.str (QC par p) (λb h=> .one b h) λb c o hc h=> .step b c o h hc
 have iW:=hT 0 (by simp);rw[Nat.add_zero]at iW;simp only[List.getElem_cons_zero,List.getD_cons_zero]at iW;have W4:¬T ri.b:=λh=>h.1 pZ;have jW:w'.heap[ri.b]?=w.heap[ri.b]?:=VV _ HV W4;let Tf:Nat→Prop:=λb=>T b∨w.heap.size≤b;let par2:Nat→Option (Nat×Nat):=λb=>if Tf b then(if par' b=some (X,o)then some p else par' b)else par b
 have W3:∀b,bA VA (mB false ri) (eB t false (l.set i z) s').h b→b=ri.b:=by
  rintro b (h | ⟨q,row,qi,h1,h2,h3,h4,h5⟩)
  ·exact h.elim
  ·simp only[mB,Bool.not_false,Bool.true_and]at h3;cases hq:Nat.beq q 0
   ·rw[hq]at h3;cases h3
   ·rw[hq]at h3;cases h3;exact h5.symm
 have X3:¬Tf ri.b:=λh=>h.elim W4 λh=>by omega
 -- the slice that was lent
 have Y3:DV w' (bA VA (mB false ri) (eB t false (l.set i z) s').h) (GC w0 (Ow.of T0)) par2 p u (.sl t2 l3):=by
  refine iW.gen (λ_ _ _ _=>rfl) (λb _ hb GV=>?_) (λb hb=>?_) (λb _ _ hb hp=>?_) λb q _ _ hb hq hp=>?_
  ·rw[W3 b GV]at hb;exact X3 hb
  ·rcases hb with hb | hb
   ·exact hb.2.1
   ·exact .inl (Nat.le_trans hh.wx.size hb)
  ·show(if Tf b then _ else _)=_
   rw[if_pos hb,if_pos hp]
  ·show(if Tf b then _ else _)=_
   rw[if_pos hb,if_neg,hp];rw[hp];rintro e;cases e;exact hq hX
 -- all other cells
 have KX:∀(p':Nat×Nat) (u':Value) (d':V),p'.1=ri.b→p'≠p→DV w (bA VA (mB false ri) (eB t false l s).h) (GC w0 (Ow.of T0)) par p' u' d'→
   DV w' (bA VA (mB false ri) (eB t false (l.set i z) s').h) (GC w0 (Ow.of T0)) par2 p' u' d':=λp' u' d' h1 h2 hd=>by
  have R7:par p'.1=none:=by rw[h1];exact qY
  have zW:∀b,QC par p' b→¬T b:=λb hb ht=>h2 (hb.uniq R7 qY ht.2.2);have D8:∀b,QC par p' b→AB w b→¬Tf b:=λb hb hc h=>h.elim (zW b hb) λh=>by have:=hc.lt;omega
  refine hd.genT (QC par p') (λb h=> .one b h) (λb q h h'=> .step b q.1 q.2 h' h) (λb hT _ hc _=>VV b hc.lt (zW b hT)) (λb _ _ _ hb=>?_) (λ_ _ h=>h) (λb hT _ hc _ hp=>?_) λb q hT _ hc _ _ hp=>?_
  ·rw[W3 b hb];exact pZ
  ·show(if Tf b then _ else _)=_
   rw[if_neg (D8 b hT hc)];exact hp
  ·show(if Tf b then _ else _)=_
   rw[if_neg (D8 b hT hc)];exact hp
 obtain⟨sY,dY⟩:=NI (enc t y) off [.sl t2 l3] (by rw[WA];simp;omega);have RV:=wC t hz
 -- each cell of the row as it is now
 have FX:∀i' (h:i'<(l.set i z).length) j,j<sz t→∃u',w'.cell? (gA ri.b (i' *sz t+j))=some u'∧
   DV w' (bA VA (mB false ri) (eB t false (l.set i z) s').h) (GC w0 (Ow.of T0)) par2 (ri.b,i' *sz t+j) u' ((enc t (l.set i z)[i']).getD j .undef):=λi' TV j hj=>by
  have EW:i'<l.length:=by simpa using TV
  obtain⟨u',c1,c2⟩:=IV i' EW j hj;refine⟨u',(LC jW).trans c1,?_⟩
  by_cases m7:i'=i
  ·subst m7;rw[List.getElem_set_self];have FV:(FB (enc t y) off [.sl t2 l3]).length=sz t:=by rw[sY,WA]
   have hg:=RV.get j (by rw[FV];exact hj) (by rw[WA];exact hj);rw[dY j (by rw[WA];exact hj)]at hg;rw[ED _ _ _ (by rw[WA];exact hj)]
   by_cases sW:j=off
   ·subst sW;rw[dif_pos (by simp)]at hg;simp only[Nat.sub_self,List.getElem_cons_zero]at hg;rw[hu]at c1;cases c1;exact Y3.sub hg
   ·rw[dif_neg (by simp;omega)]at hg;rw[l7,ED _ _ _ (by rw[WA];exact hj)]at c2;exact(KX (ri.b,i' *sz t+j) u' _ rfl (λe=>sW (by have:=congrArg Prod.snd e;simp only[p]at this;omega)) c2).sub hg
  ·rw[List.getElem_set_ne (λe=>m7 e.symm)];refine KX (ri.b,i' *sz t+j) u' _ rfl (λe=>m7 ?_) c2;have:=congrArg Prod.snd e;simp only[p]at this
   rcases Nat.lt_trichotomy i' i with h | h | h
   ·have:(i'+1) *sz t≤i *sz t:=Nat.mul_le_mul_right _ h;rw[Nat.add_mul,Nat.one_mul]at this;omega
   ·exact h
   ·have:(i+1) *sz t≤i' *sz t:=Nat.mul_le_mul_right _ h;rw[Nat.add_mul,Nat.one_mul]at this;omega
 refine⟨hh.wx.trans xW,λb hb ho=>?_,λb h=>h.elim,λq row hq=>?_,λq q' row row' qi qi' h1 h2 _ _ _ _ _=>?_,par2,λq t1 l1 m1 qi h1 hm h2 h3=>?_⟩
 ·rw[←hh.old b hb ho];refine VV b (Nat.lt_of_lt_of_le hb hh.wx.size) λhT=>?_
  rcases hT.2.1 with h | h
  ·omega
  ·exact ho h
 ·simp only[eB,Bool.not_false,Bool.true_and]at hq;cases VW:Nat.beq q 0
  ·rw[VW]at hq;cases hq
  ·obtain rfl:=Nat.eq_of_beq_eq_true VW;cases hq;refine⟨ri,rfl,⟨by rw[List.length_set];exact k2.1,?_⟩,λ_=>⟨⟨λh=>h,λ_=>(k3 hn).1.2 rfl⟩,Nat.lt_of_lt_of_le HV xW.size⟩⟩
   rcases k2.2 with h | ⟨_,he,h1,h2,h3,_⟩
   ·rw[hn]at h;cases h.1
   ·refine .inr ⟨hn,he.same jW,h1,h2,λj hj=>?_,λi' TV j hj=>?_⟩
    ·rw[show w'.frozen? (gA ri.b j)=w.frozen? (gA ri.b j) by simp[World.frozen?,gA,jW],LC jW];exact h3 j hj
    ·obtain⟨u',c1,c2⟩:=FX i' TV j hj;exact⟨u',c1,c2.vr _⟩
 ·simp only[eB,Bool.not_false,Bool.true_and]at h1 h2;cases VW:Nat.beq q 0
  ·rw[VW]at h1;cases h1
  ·cases Z3:Nat.beq q' 0
   ·rw[Z3]at h2;cases h2
   ·rw[Nat.eq_of_beq_eq_true VW,Nat.eq_of_beq_eq_true Z3]
 ·simp only[eB,Bool.not_false,Bool.true_and]at h1;cases VW:Nat.beq q 0
  ·rw[VW]at h1;cases h1
  ·obtain rfl:=Nat.eq_of_beq_eq_true VW;cases h1;cases h2;refine⟨?_,FX⟩;show(if Tf ri.b then _ else _)=_
   rw[if_neg X3];exact qY
omit [aA]in
def zbn{a:Act}{tx tk tr:Nat}{u v z:Value}{nt:Nat}(hs:a.tmps.size=nt)(h1:tx<nt)(h2:tk<nt)(h3:tr<nt)(i:Nat):
  (((a.put (some tx) u).put (some tk) v).put (some tr) z).tmps.getD i undef=if i=tr then z else if i=tk then v else if i=tx then u else a.tmps.getD i undef:=by
 rw[uC _ _ _ (by simp[Act.put,hs];exact h3),uC _ _ _ (by simp[Act.put,hs];exact h2),uC _ _ _ (by rw[hs];exact h1)]
def zce{l:List (El t)}{M:Nat→Option nC}(hM:XC C.P M C.g){T0:Nat→Prop}{ops:Array Oper}{Q:Exit→Act→World→Prop}{n:Nat}{rest:List Nat}{K:List (El t)→(Nat→V)→Option R}{r:R}
  (hr:xA C w0 VA (Ow.of T0) (mB false ri) (eB t false l s) a w) (hk:DP C M ops n t l s K=some r)
  (CV:∀l' s' a' w',xA C w0 VA (Ow.of T0) (mB false ri) (eB t false l' s') a' w'→K l' s'=some r→wpOps C.P ops Q rest a' w'):wpOps C.P ops Q (n :: (n+1) :: (n+2) :: rest) a w:=by
 unfold DP at hk;split at hk
 case h_2=>cases hk
 rename_i tx T ta ty1 ps1 af1 tk kk ty2 ps2 af2 tr f args aty ty3 ps3 af3 L4 I0 W9;split at hk
 case h_2=>cases hk
 rename_i tx' tk' r0 t' i off k bW cW JV pX oX;cases hb:(Nat.beq tx tx'&&Nat.beq tk tk'&&!(Nat.beq tx tk)&&Nat.blt tx C.nt&&Nat.blt tk C.nt&&Nat.blt tr C.nt&&!(Nat.beq tx kk)&&decide (t'=t))
 case false=>simp[hb]at hk
 simp only[hb,gB,IG]at hk;simp only[Bool.and_eq_true,decide_eq_true_eq,Bool.not_eq_true',Nat.blt_eq]at hb;obtain⟨⟨⟨⟨⟨⟨⟨b1,b2⟩,b3⟩,b4⟩,b5⟩,b6⟩,b7⟩,b8⟩:=hb;obtain rfl:=Nat.eq_of_beq_eq_true b1;obtain rfl:=Nat.eq_of_beq_eq_true b2;have o7:tx≠tk:=λe=>by rw[e,Nat.beq_refl]at b3;cases b3
 have s7:tx≠kk:=λe=>by rw[e,Nat.beq_refl]at b7;cases b7
 subst b8;obtain⟨y,hy,hk⟩:=Option.bind_eq_some_iff.1 hk;split at hk
 case h_2=>cases hk
 rename_i t2 l2 tl TX;split at hk
 case h_2=>cases hk
 rename_i t3 F t7;split at hk
 case isFalse=>cases hk
 rename_i ht;subst ht;simp only[LE]at hk;obtain⟨⟨l3,k'⟩,hF,hk⟩:=Option.bind_eq_some_iff.1 hk;rw[fE]at hk;obtain⟨z,hz,hk⟩:=Option.bind_eq_some_iff.1 hk
 have KW:off<sz t':=by
  rcases Nat.lt_or_ge off (sz t')with h | h
  ·exact h
  ·rw[List.drop_eq_nil_of_le (by rw[WA];exact h)]at TX;cases TX
 have hd:(enc t' y).getD off .undef= .sl t2 l2:=by
  have:=congrArg List.head? TX;rw[List.head?_drop]at this;rw[List.getD_eq_getElem?_getD,this];rfl
 -- the address
 have hA:=hr.slots ta;have hA:VR w (mB false ri) (bA VA (mB false ri) (eB t' false l s).h) (a.tmps.getD ta undef) (.ep r0 t' i off):=by rw[←pX];exact hA
 have xZ:r0=0:=by
  generalize s ta=dd at pX;cases dd<;>simp only[mV]at pX<;>try (cases pX;done)
  ·rename_i q;cases hq:(!false&&Nat.beq q 0)<;>rw[hq]at pX<;>cases pX
  ·rename_i q _ _ _;cases hq:(!false&&Nat.beq q 0)<;>rw[hq]at pX<;>cases pX;rfl
 subst xZ
 have E8:a.tmps.getD ta undef= .pointer (some (gA ri.b (i *sz t'+off)))∧ri.nl=false:=by
  generalize a.tmps.getD ta undef=v at hA;cases hA with
  | ep _ _ _ _ ri' h OV=>cases h;exact⟨rfl,OV⟩
 have F8:a.tmps.getD kk undef= .int .i64 k∧LB .i64 k:=by
  have h:=hr.slots kk;have h:VR w (mB false ri) (bA VA (mB false ri) (eB t' false l s).h) (a.tmps.getD kk undef) (.int .i64 k):=by rw[←oX];exact h
  generalize a.tmps.getD kk undef=v at h;cases h with | int _ _ h=>exact⟨rfl,h⟩
 obtain⟨u,T1,hu,u7,G8,zX⟩:=zbS hr.heap E8.2 hy KW hd hz
 -- the load
 have UX:(loadVar T (gA ri.b (i *sz t'+off))).run C.P w= .ok u w:=by
  obtain⟨d,v,e1,e2,e3⟩:=XO (P:=C.P) (w:=w) (ρ:=mB false ri) (bad:=VA) (b:=ri.b) (o:=i *sz t'+off) (off:=0) (cs:=[.raw u .undef]) (K:=some) (r:= .raw u .undef) cW JV
   (fun j hj=>by
    have:j=0:=by simpa using hj
    subst this;exact⟨u,hu, .raw _ _ (.undef _)⟩) rfl
  cases e1;cases e2;exact e3
 refine bE L4 rfl (ZA (v:=u) (w':=w) (post:=λa' w'=>a'=a.put (some tx) u∧w'=w) ?_ ⟨rfl,rfl⟩ _ _ λa1 w1 ⟨ea,ew⟩=>?_)
 ·show(execOp a.eval _).run C.P w=_
  have:a.eval (.tmp ta)= .pointer (some (gA ri.b (i *sz t'+off))):=E8.1;simp[execOp,this,Instr.loadAt,Instr.sureAddr,UX]
 subst ea ew
 have ek:(a.put (some tx) u).eval (.tmp kk)= .int .i64 k:=by
  show(a.put (some tx) u).tmps.getD kk undef=_
  rw[uC _ _ _ (by rw[hr.size];exact b4),if_neg (λe=>s7 e.symm)];exact F8.1
 refine bE I0 rfl (ZA (v:= .int .i64 k) (w':=w1) (post:=λa' w'=>a'=(a.put (some tx) u).put (some tk) (.int .i64 k)∧w'=w1) ?_ ⟨rfl,rfl⟩ _ _ λa2 w2 ⟨ea,ew⟩=>?_)
 ·simp[execOp,ek]
 subst ea ew
 have g1:((a.put (some tx) u).put (some tk) (.int .i64 k)).eval (.tmp tx)=u:=by
  show((a.put (some tx) u).put (some tk) (.int .i64 k)).tmps.getD tx undef=_
  rw[uC _ _ _ (by simp[Act.put,hr.size];exact b5),if_neg o7,uC _ _ _ (by rw[hr.size];exact b4),if_pos rfl]
 have g2:((a.put (some tx) u).put (some tk) (.int .i64 k)).eval (.tmp tk)= .int .i64 k:=by
  show((a.put (some tx) u).put (some tk) (.int .i64 k)).tmps.getD tk undef=_
  rw[uC _ _ _ (by simp[Act.put,hr.size];exact b5),if_pos rfl]
 have NV:(execOp ((a.put (some tx) u).put (some tk) (.int .i64 k)).eval ⟨some tr, .call {callee:= .value (.func f),args,argTypes:=aty},ty3,ps3,af3,none⟩).run C.P w2=(callFunc f #[u, .int .i64 k]).run C.P w2:=by
  have hm:args.map ((a.put (some tx) u).put (some tk) (.int .i64 k)).eval= #[u, .int .i64 k]:=by
   apply Array.toList_inj.1;rw[Array.toList_map,bW];simp[g1,g2]
  simp[execOp,resolve,Deferred.ofValue,Act.eval,invoke];rw[show(args.map ((a.put (some tx) u).put (some tk) (.int .i64 k)).eval)= #[u, .int .i64 k]from hm]
 have s4:xJ C.g T1 w2:=by
  have HV:=C.g.lt _ hr.glob.p;refine⟨C.g.stay w0 w2 (λc hc=>hr.heap.old c (Nat.lt_of_lt_of_le hc HV) (hr.glob.own c hc)) hr.glob.p,λc hc ho=>?_,Nat.le_trans hr.glob.base hr.heap.wx.size,λc hc ho=>?_⟩
  ·rcases G8 c ho with h | h
   ·omega
   ·exact hr.glob.own c hc h
  ·have:=hr.glob.base
   rcases G8 c ho with h | h
   ·omega
   ·exact hr.glob.low c hc h
 have hG:=hM f _ t7 w2 [u] u l2 k (l3,k') T1 rfl u7 F8.2 hF s4
 have qW:∀v w',(v= .int .i64 k'∧LB .i64 k'∧Wx w2 w'∧(∀b,b<w2.heap.size→¬T1 b→w'.heap[b]?=w2.heap[b]?)∧BB w' (λb=>T1 b∨w2.heap.size≤b) [u] (gF.enc (.sl t2) l3))→
   wpOps C.P ops Q rest (((a.put (some tx) u).put (some tk) (.int .i64 k)).put (some tr) v) w':=by
  rintro v w' ⟨rfl,NZ,xW,VV,hT⟩;refine CV _ _ _ w' ⟨zX w' xW VV hT _,λq=>?_,?_,?_,hr.glob⟩ hk
  ·rw[zbn hr.size b4 b5 b6];show VR w' _ _ _ (mV false (cA (cA (cA s tx .undef) tk .undef) tr (.int .i64 k') q))
   by_cases h1:q=tr
   ·subst h1;rw[if_pos rfl,qA];exact .int _ _ NZ
   rw[if_neg h1,jA _ _ _ _ h1]
   by_cases h2:q=tk
   ·subst h2;rw[qA];exact .undef _
   rw[if_neg h2,jA _ _ _ _ h2]
   by_cases h3:q=tx
   ·subst h3;rw[qA];exact .undef _
   rw[if_neg h3,jA _ _ _ _ h3];have:=wP (e:=false) (ρ':=mB false ri) (bad':=bA VA (mB false ri) (eB t' false (l.set i z) (cA (cA (cA s tx .undef) tk .undef) tr (.int .i64 k'))).h) (w':=w') (hr.slots q) λ_=>rfl
   have e:mV false ((eB t' false l s).s q)=mV false (s q):=by
    show mV false (mV false (s q))=_
    generalize s q=d;cases d<;>try rfl
    ·rename_i r1;simp only[mV];cases Nat.beq r1 0<;>rfl
    ·rename_i r1 _ _ _;simp only[mV];cases Nat.beq r1 0<;>rfl
   rw[e]at this;exact this
  ·simp[Act.put,hr.size]
  ·exact hr.defers
 refine bE W9 rfl ?_;unfold Oper.wp;rw[NV]
 rcases hG with⟨h1,h2⟩ | ⟨v,w',h1,h2⟩
 ·rw[h1,Oper.upon_enter];refine Calls.mono' h2 λex w' hp=>?_;obtain⟨v,rfl,hp⟩:=hp;exact qW v w' hp
 ·rw[h1,Oper.upon_value];exact qW v w' h2
def vR{l:List (El t)}{T0:Nat→Prop}{s':Nat→V}{k1 i1:Int}(JW:xA C w0 VA (Ow.of T0) (mB e ri) (eB t e l s') a w)(h1:mV e (s' 1)= .int .i64 k1)(h5:mV e (s' 5)= .int .i64 i1)(h0:tH e (s' 0)=true)(q:Nat):
  VR w (mB e ri) (bA VA (mB e ri) (eB t e l (mL k1 i1)).h) (a.tmps.getD q undef) ((eB t e l (mL k1 i1)).s q):=by
 have hq:=JW.slots q;have hs:∀s2,(eB t e l s2).h=(eB t e l s').h:=λ_=>rfl;rw[hs];show VR w _ _ _ (bif e&&Nat.beq q 0 then .sl t []else mV e (mL k1 i1 q))
 change VR w _ _ _ (bif e&&Nat.beq q 0 then .sl t []else mV e (s' q))at hq;cases he:(e&&Nat.beq q 0)
 ·rw[he]at hq;simp only[cond_false]at hq⊢
  match q,he,hq with
  | 0,he,hq=>
   cases e with
   | true=>cases he
   | false=>
    unfold tH at h0;simp only[Bool.false_or]at h0;split at h0
    ·rename_i r1 ZX;obtain rfl:=Nat.eq_of_beq_eq_true h0;rw[ZX]at hq;exact hq
    ·cases h0
  | 1,_,hq=>rw[h1]at hq;exact hq
  | 2,_,_=>exact .undef _
  | 3,_,_=>exact .undef _
  | 4,_,_=>exact .undef _
  | 5,_,hq=>rw[h5]at hq;exact hq
  | q+6,_,_=>exact .undef _
 ·rw[he]at hq;exact hq
def tR{M:Nat→Option nC}{fu:Nat}{md:List (Nat×Nat)}{T0:Nat→Prop}{c:Code}{K:Ex→List (El t)→(Nat→V)→Option R}{r:R}{Q:Exit→Act→World→Prop}
  (body:∀ (l:List (El t)) (s:Nat→V) (a:Act) (w:World) (K:Ex→List (El t)→(Nat→V)→Option R) (Q:Exit→Act→World→Prop),xA C w0 VA (Ow.of T0) (mB e ri) (eB t e l s) a w→ND C M fu md t e c l s K=some r→
   (∀ex l' s' a' w',xA C w0 VA (Ow.of T0) (mB e ri) (eB t e l' s') a' w'→K ex l' s'=some r→Q (EE ex) a' w')→c.wp C.P Q a w)
  (CV:∀ex l' s' a' w',xA C w0 VA (Ow.of T0) (mB e ri) (eB t e l' s') a' w'→K ex l' s'=some r→Q (EE ex) a' w'):
  ∀ (n:Nat) (l:List (El t)) (k i:Int) (a:Act) (w:World),xA C w0 VA (Ow.of T0) (mB e ri) (eB t e l (mL k i)) a w→
   KA n (λ(x:List (El t)×Int×Int) (k':List (El t)×Int×Int→Option R)=>
    ND C M fu md t e c x.1 (mL x.2.1 x.2.2) λex l' s'=>match ex with
     | .normal=>match mV e (s' 1),mV e (s' 5)with
      | .int .i64 k1, .int .i64 i1=>gd (tH e (s' 0)) (k' (l',k1,i1)) none
      | _,_=>none
     | ex=>K ex l' s') (l,k,i)=some r→Code.rounds C.P c Q n a w
 | 0,l,k,i,a,w,hr,h=>by simp[KA]at h
 | n+1,l,k,i,a,w,hr,h=>by
  rw[rounds_succ];simp only[KA]at h;refine body l _ a w _ _ hr h λex l' s' a' w' JW hk=>?_;cases ex with
  | exit id=>exact CV (.exit id) l' s' a' w' JW hk
  | ret=>exact CV .ret l' s' a' w' JW hk
  | normal=>
   simp only at hk;split at hk
   case h_2=>cases hk
   rename_i k1 i1 h1 h5;cases h0:tH e (s' 0)
   ·rw[h0]at hk;cases hk
   rw[h0]at hk;simp only[gB]at hk;exact tR body CV n l' k1 i1 a' w' ⟨JW.heap,vR JW h1 h5 h0,JW.size,JW.defers,JW.glob⟩ hk
def yS(hC:EC C)(hΦ:JC C){M:Nat→Option nC}(hM:XC C.P M C.g){fu:Nat}{md:List (Nat×Nat)}{T0:Nat→Prop}{r:R}:
  ∀(c:Code) (l:List (El t)) (s:Nat→V) (a:Act) (w:World) (K:Ex→List (El t)→(Nat→V)→Option R) (Q:Exit→Act→World→Prop),
   xA C w0 VA (Ow.of T0) (mB e ri) (eB t e l s) a w→ND C M fu md t e c l s K=some r→
   (∀ex l' s' a' w',xA C w0 VA (Ow.of T0) (mB e ri) (eB t e l' s') a' w'→K ex l' s'=some r→Q (EE ex) a' w')→c.wp C.P Q a w:=by
 have VV:∀q,128+128 *0≤q→mB e ri q=none:=λq hq=>by
  simp only[mB]
  have:Nat.beq q 0=false:=by
   cases h:Nat.beq q 0
   ·rfl
   ·have:=Nat.eq_of_beq_eq_true h;omega
  rw[this,Bool.and_false];rfl
 intro c;induction c with
 | skip=>intro l s a w K Q hr BV CV;exact wp_skip (CV .normal l s a w hr BV)
 | exit id=>intro l s a w K Q hr BV CV;exact wp_exit (CV (.exit id) l s a w hr BV)
 | ret=>intro l s a w K Q hr BV CV;exact wp_ret (CV .ret l s a w hr BV)
 | region id ops d=>
  intro l s a w K Q hr BV CV;simp only[ND]at BV;cases d with
  | true=>cases BV
  | false=>
   simp only[OE]at BV;refine wp_region ?_;rw[List.range_eq_range'];split at BV
   ·have key:=λhp=>LM hC hΦ (Q:=Q) 0 ops.size 0 _ a w _ hr VV BV hp;refine key λst' a' w' ρ' h1 h2 h3=>?_;obtain⟨l',k1,k2⟩:=yP h1 h2 h3;exact CV .normal l' _ a' w' k2 k1
   ·rename_i n _;cases e with
    | true=>cases BV
    | false=>
     simp only[Bool.false_or]at BV;cases hn:Nat.ble (n+3) ops.size
     ·rw[hn]at BV;cases BV
     rw[hn]at BV;simp only[Bool.not_true,OE]at BV;have WV:=Nat.le_of_ble_eq_true hn;have key:=λhp=>LM hC hΦ (Q:=Q) (ops.size - n) n 0 _ a w _ hr VV BV hp;rw[show n+(ops.size - n)=ops.size by omega]at key
     ·refine key λst' a' w' ρ' h1 h2 h3=>?_;obtain⟨l1,k1,k2⟩:=yP h1 h2 h3;rw[show ops.size - n=(ops.size - (n+3))+1+1+1 by omega,Nat.zero_add,List.range'_succ,List.range'_succ,List.range'_succ];refine zce hM k2 k1 λl2 s2 a2 w2 KY h4=>?_;have key2:=λhp=>LM hC hΦ (Q:=Q) 0 (ops.size - (n+3)) (n+3) _ a2 w2 _ KY (λq hq=>VV q (by omega)) h4 hp;refine key2 λst3 a3 w3 ρ3 g1 g2 g3=>?_;obtain⟨l4,m1,m2⟩:=yP g1 g2 g3;exact CV .normal l4 _ a3 w3 m2 m1
 | seq x y ihx ihy=>
  intro l s a w K Q hr BV CV;simp only[ND]at BV;refine wp_seq (ihx l s a w _ _ hr BV λex l' s' a' w' JW hk=>?_);cases ex with
  | normal=>exact ihy l' s' a' w' K Q JW hk CV
  | exit id=>exact CV (.exit id) l' s' a' w' JW hk
  | ret=>exact CV .ret l' s' a' w' JW hk
 | cond c x y ihx ihy=>
  intro l s a w K Q hr BV CV;cases c with
  | tmp t1=>
   simp only[ND]at BV;cases XY:Nat.beq t1 0
   case true=>rw[XY]at BV;cases BV
   rw[XY]at BV;simp only[OE]at BV;split at BV
   case h_2=>cases BV
   rename_i b hs;have hc:=hr.slots t1
   have hc:VR w (mB e ri) (bA VA (mB e ri) (eB t e l s).h) (a.tmps.getD t1 undef) (.bool b):=by
    change VR w _ _ _ (bif e&&Nat.beq t1 0 then .sl t []else mV e (s t1))at hc;rw[XY,Bool.and_false]at hc;simp only[cond_false]at hc;rw[hs]at hc;exact hc
   have hv:a.eval (.tmp t1)= .bool b:=by
    show a.tmps.getD t1 undef=_
    generalize a.tmps.getD t1 undef=v at hc;cases hc;rfl
   cases b with
   | true=>exact wp_cond_true hv (ihx l s a w K Q hr BV CV)
   | false=>exact wp_cond_false hv (ihy l s a w K Q hr BV CV)
  | const v=>cases BV
  | global g=>cases BV
  | func f=>cases BV
 | block id x ih=>
  intro l s a w K Q hr BV CV;simp only[ND]at BV;refine wp_block (ih l s a w _ _ hr BV λex l' s' a' w' JW hk=>?_);cases ex with
  | normal=>exact CV .normal l' s' a' w' JW hk
  | ret=>exact CV .ret l' s' a' w' JW hk
  | exit id'=>
   simp only at hk;show(if id'=id then Q .normal a' w' else Q (.exit id') a' w')
   cases hb:Nat.beq id' id
   ·rw[hb]at hk;have:id'≠id:=λe=>by rw[e,Nat.beq_refl]at hb;cases hb
    rw[if_neg this];exact CV (.exit id') l' s' a' w' JW hk
   ·rw[hb]at hk;rw[if_pos (Nat.eq_of_beq_eq_true hb)];exact CV .normal l' s' a' w' JW hk
 | loop x ih=>
  intro l s a w K Q hr BV CV;simp only[ND]at BV;split at BV
  case h_2=>cases BV
  rename_i k i h1 h5;cases h0:tH e (s 0)
  ·rw[h0]at BV;cases BV
  rw[h0]at BV;simp only[gB]at BV;exact wp_loop_rounds fu (tR (λl s a w K Q=>ih l s a w K Q) CV fu l k i a w ⟨hr.heap,vR hr h1 h5 h0,hr.size,hr.defers,hr.glob⟩ BV)
 | _=>intro l s a w K Q hr BV CV;cases BV
def uQ{outer:Nat→Prop}(hr:xA C w0 outer own ρ st a w){fn:Func}{tr:Nat}{k:Int}(h:fn.results.toList=[.tmp tr])(hs:st.s tr= .int .i64 k):
  (results fn a.tmps).run C.P w= .ok (.int .i64 k) w∧LB .i64 k:=by
 obtain⟨rv,cells,h1,h2,h3,h4⟩:=aO hr (fn:=fn) (sh:=[(false,1)]) (vs:=[.int .i64 k]) (by rw[h];simp[GD,hs,V.leaf]);cases h1 with
 | one v xZ=>
  cases xZ;have:=h3 0 (by simp);simp only[List.getD_cons_zero,List.getElem_cons_zero]at this;cases this with
  | int _ _ hf=>exact⟨by simpa using h4,hf⟩
def zc9{T:Nat→Prop}{b cap:Nat}{x:List (El t)}{par:Nat→Option (Nat×Nat)}{X o:Nat}(hX:par X=none)(hd:DV w VA T par (X,o) (.slice (some (gA b 0)) x.length cap) (.sl t x))(eX:x≠[])(s:Nat→V):
  BA w VA (Ow.of T) (mB false ⟨b,x.length,cap,false⟩) (eB t false x s).h w∧x.length≤cap∧cap≤maxLen:=by
 generalize H8:Value.slice (some (gA b 0)) x.length cap=v at hd;cases hd with
 | triv _ _ _ h=>
  have:=h w (λ_=>none) (λ_=>True);cases this with
  | slE=>exact absurd rfl eX
  | slC _ _ _ _ _ _ hb=>exact absurd trivial hb
 | sl _ _ _ b' cap' u hb hf hp he hl hc hz hu hv=>
  have e1:b=b':=by injection H8 with h _ _;injection h with h;exact congrArg Addr.block h
  have e2:cap=cap':=by injection H8
  subst e1 e2;have X9:X≠b:=λe=>by rw[e,hp]at hX;cases hX
  have GV:∀c,bA VA (mB false ⟨b,x.length,cap,false⟩) (eB t false x s).h c→c=b:=by
   rintro c (h | ⟨q,row,qi,h1,h2,h3,h4,h5⟩)
   ·exact h.elim
   ·simp only[mB,Bool.not_false,Bool.true_and]at h3;cases hq:Nat.beq q 0
    ·rw[hq]at h3;cases h3
    ·rw[hq]at h3;cases h3;exact h5.symm
  have GY:∀o',¬QC par (b,o') b:=λo' h=>by
   cases h with
   | one _ h=>rw[hp]at h;cases h;exact X9 rfl
   | step _ c o1 h hc=>rw[hp]at h;cases h;exact hc.ne hX
  let par2:Nat→Option (Nat×Nat):=λc=>if c=b then none else par c
  have V1:∀i (h:i<x.length) j,j<sz t→DV w (bA VA (mB false ⟨b,x.length,cap,false⟩) (eB t false x s).h) (GC w (Ow.of T)) par2 (b,i *sz t+j) (u i j) ((enc t x[i]).getD j .undef):=λi hi j hj=>by
   refine(hv i hi j hj).genT (QC par (b,i *sz t+j)) (λc h=> .one c h) (λc q h h'=> .step c q.1 q.2 h' h) (λ_ _ _ _ _=>rfl) (λc hc _ _ h=>?_) (λc _ h=> .inr h) (λc hc _ _ _ h=>?_) λc q hc _ _ _ hq h=>?_
   ·have:=GV c h;subst this;exact absurd hc (GY _)
   ·show(if c=b then none else par c)=_
    rw[if_neg];exact h;intro e;subst e;exact GY _ hc
   ·show(if c=b then none else par c)=_
    rw[if_neg];exact h;intro e;subst e;exact GY _ hc
  refine⟨⟨Wx.refl _,λ_ _ _=>rfl,λb h=>h.elim,λq row hq=>?_,λq q' row row' qi qi' h1 h2 _ _ _ _ _=>?_,par2,λq t1 l1 m1 qi h1 hm h2 h3=>?_⟩,hl,hc⟩
  ·simp only[eB,Bool.not_false,Bool.true_and]at hq;cases VW:Nat.beq q 0
   ·rw[VW]at hq;cases hq
   ·obtain rfl:=Nat.eq_of_beq_eq_true VW;cases hq;refine⟨_,rfl,⟨rfl, .inr ⟨rfl,he,hl,hc,hz,λi hi j hj=>⟨u i j,hu i hi j hj,(V1 i hi j hj).vr _⟩⟩⟩,λ_=>⟨⟨λh=>h,λ_=> .inr hf⟩,?_⟩⟩;have:0<x.length:=List.length_pos_iff.2 eX;exact pG (hu 0 this 0 (wE t))
  ·simp only[eB,Bool.not_false,Bool.true_and]at h1 h2;cases VW:Nat.beq q 0
   ·rw[VW]at h1;cases h1
   ·cases Z3:Nat.beq q' 0
    ·rw[Z3]at h2;cases h2
    ·rw[Nat.eq_of_beq_eq_true VW,Nat.eq_of_beq_eq_true Z3]
  ·simp only[eB,Bool.not_false,Bool.true_and]at h1;cases VW:Nat.beq q 0
   ·rw[VW]at h1;cases h1
   ·obtain rfl:=Nat.eq_of_beq_eq_true VW;cases h1;cases h2;exact⟨if_pos rfl,λi hi j hj=>⟨u i j,hu i hi j hj,V1 i hi j hj⟩⟩
def zca{l:List (El t)}{T:Nat→Prop}{w':World}{b n cap:Nat}{s:Nat→V}(hh:BA w VA (Ow.of T) (mB false ⟨b,n,cap,false⟩) (eB t false l s).h w'):
  BB w' (λc=>T c∨w.heap.size≤c) [.slice (some (gA b 0)) n cap] [.sl t l]:=by
 have EV:(eB t false l s).h 0=some ⟨.arr t l, .tre⟩:=rfl;obtain⟨ri,k1,k2,k3⟩:=hh.rows 0 _ EV;cases k1;obtain⟨par,FW⟩:=hh.dep;obtain⟨qY,IV⟩:=FW 0 t l .tre _ EV rfl rfl rfl;have hn:n=l.length:=k2.1
 rcases k2.2 with h | ⟨_,he,h1,h2,h3,_⟩
 ·cases h.1
 have HV:b<w'.heap.size:=(k3 rfl).2;let par3:Nat→Option (Nat×Nat):=λc=>if c=b then some (w'.heap.size,0)else if c=w'.heap.size then none else par c
 refine⟨rfl,par3,w'.heap.size,0,?_,λj hj=>?_⟩
 ·show(if w'.heap.size=b then _ else if w'.heap.size=w'.heap.size then none else _)=none
  rw[if_neg (by omega),if_pos rfl]
 ·have:j=0:=by simpa using hj
  subst this;subst hn
  have V1:∀i (h:i<l.length) j,j<sz t→DV w' VA (λc=>T c∨w.heap.size≤c) par3 (b,i *sz t+j) ((w'.cell? (gA b (i *sz t+j))).getD undef) ((enc t l[i]).getD j .undef):=λi hi j hj=>by
   obtain⟨u,c1,c2⟩:=IV i hi j hj;have c1:w'.cell? (gA b (i *sz t+j))=some u:=c1;rw[c1,Option.getD_some]
   have uW:∀c q,AB w' c→par c=some q→par3 c=some q:=λc q hc h=>by
    show(if c=b then _ else if c=w'.heap.size then none else par c)=_
    rw[if_neg,if_neg]
    ·exact h
    ·have:=hc.lt;omega
    ·intro e;subst e;rw[qY]at h;cases h
   exact c2.gen (λ_ _ _ _=>rfl) (λ_ _ _ h=>h.elim) (λc h=>h.elim .inr .inl) (λc _ hc _ h=>uW c _ hc h) λc q _ hc _ _ h=>uW c q hc h
  exact .sl _ t l b cap (λi j=>(w'.cell? (gA b (i *sz t+j))).getD undef) (λh=>h) (((k3 rfl).1.2 rfl).elim .inr .inl) (by show(if b=b then _ else _)=_;rw[if_pos rfl]) he h1 h2 h3
   (fun i hi j hj=>by
    obtain⟨u,c1,_⟩:=IV i hi j hj;have c1:w'.cell? (gA b (i *sz t+j))=some u:=c1;rw[c1];rfl) V1
omit [aA]in
def lR {P : Program} {f : Nat} {fn : Func} {body : Code} {args : Array Value} {w : World} (hf : P.funcs[f]? = some fn) (hb : fn.body = some body) (aW : (fn.name == "runtime.NumGoroutine") = false) {post : Value → World → Prop}
  (h:body.wp P (bodyPost P fn λe w'=>∃z,e= .returned z∧post z w') {tmps:=args++Array.replicate (fn.ntmps - args.size) undef,defers:=[]} w):EP P f args w post:=by
 refine .inl ⟨?_,calls_of_wp hf hb h⟩
 have HW : ¬ fn.name = "runtime.NumGoroutine" := by simpa using aW
 simp[callFunc,program,hf,hb,HW,Sem.run]
def zcv (hC : EC C) (hΦ : JC C) {M : Nat → Option nC} (hM : XC C.P M C.g) {f : Nat} {fn : Func} {body : Code} (hf : C.P.funcs[f]? = some fn) (hb : fn.body = some body) (aW : (fn.name == "runtime.NumGoroutine") = false)
  (P3:C.nt=fn.ntmps) (dZ:Nat.ble 2 fn.ntmps=true) (md:List (Nat×Nat)) (t:TN) (F:List (El t)→Int→Option (List (El t)×Int))
  (HX:∀l k r,LB .i64 k→F l k=some r→uJ C M FU fn body md t false l k=some r) (v7:∀k r,LB .i64 k→F [] k=some r→uJ C M 1 fn body md t true [] k=some r):
  BC C.P f ⟨.sl t,F⟩ C.g:=by
 intro w us v x k r T hv hT hk hF hg;obtain⟨y7,par,X,o,hX,hd⟩:=hT;have y7:us.length=1:=y7;obtain⟨u,rfl⟩:=List.length_eq_one_iff.1 y7;have hv:v=u:=hv;subst hv;have hd:=hd 0 (by show 0<1;omega);rw[Nat.add_zero]at hd;have hd:DV w VA T par (X,o) v (.sl t x):=hd;have dZ:=Nat.le_of_ble_eq_true dZ;refine lR hf hb aW ?_;generalize OZ:({tmps:= #[v, .int .i64 k]++Array.replicate (fn.ntmps - (#[v, .int .i64 k]:Array Value).size) undef,defers:=[]}:Act)=a0;have JV:a0.tmps.size=C.nt:=by subst OZ;simp;omega
 have X4:a0.defers=[]:=by subst OZ;rfl
 have g0:a0.tmps.getD 0 undef=v:=by subst OZ;rw[Array.getD_eq_getD_getElem?,Array.getElem?_append_left (by simp)];rfl
 have g1:a0.tmps.getD 1 undef= .int .i64 k:=by subst OZ;rw[Array.getD_eq_getD_getElem?,Array.getElem?_append_left (by simp)];rfl
 have frame:∀(e:Bool) (ri:RI) (l:List (El t)) (s:Nat→V) (a':Act) (w':World),xA C w VA (Ow.of T) (mB e ri) (eB t e l s) a' w'→
   Wx w w'∧∀b,b<w.heap.size→¬T b→w'.heap[b]?=w.heap[b]?:=λe ri l s a' w' h=>⟨h.heap.wx,h.heap.old⟩
 -- behind the body
 have cB:∀(e:Bool) (ri:RI) (ex:Ex) (l':List (El t)) (s':Nat→V) (a':Act) (w':World),xA C w VA (Ow.of T) (mB e ri) (eB t e l' s') a' w'→(l'=r.1→BB w' (λb=>T b∨w.heap.size≤b) [v] [.sl t r.1])→
   HP fn t e ex l' s'=some r→
   bodyPost C.P fn (λe w'=>∃z,e= .returned z∧z= .int .i64 r.2∧LB .i64 r.2∧Wx w w'∧(∀b,b<w.heap.size→¬T b→w'.heap[b]?=w.heap[b]?)∧BB w' (λb=>T b∨w.heap.size≤b) [v] [.sl t r.1]) (EE ex) a' w':=by
  intro e ri ex l' s' a' w' hr t4 hk;obtain⟨BZ,tr,CW,XY,hs,hl,_⟩:=kR hk
  have key : a'.defers =[]∧∃z,(results fn a'.tmps).run C.P w' = .ok z w'∧∃z', Ending.returned z = .returned z'∧z' = .int .i64 r.2∧LB .i64 r.2∧Wx w w'∧(∀b, b < w.heap.size→¬T b→w'.heap[b]? = w.heap[b]?)∧
      BB w' (λb=>T b∨w.heap.size≤b) [v] [.sl t r.1]:=by
   obtain⟨h1,h2⟩:=uQ hr CW (k:=r.2) (by show(bif e&&Nat.beq tr 0 then _ else mV e (s' tr))=_;rw[XY,Bool.and_false];exact hs);obtain⟨h3,h4⟩:=frame e ri l' s' a' w' hr;exact⟨hr.defers,_,h1,_,rfl,rfl,h2,h3,h4,t4 hl⟩
  rcases BZ with rfl | rfl
  ·exact key
  ·exact key
 have slots0:∀(e:Bool) (ρ:Nat→Option RI) (bad:Nat→Prop) (q:Nat),VR w ρ bad v (bif e then .sl t []else .ow 0)→
   VR w ρ bad (a0.tmps.getD q undef) ((eB t e x (λj=>match j with | 0=> .ow 0 | 1=> .int .i64 k | _=> .undef)).s q):=λe ρ bad q h=>by
  match q with
  | 0=>rw[g0];cases e<;>exact h
  | 1=>rw[g1];cases e<;>exact .int _ _ hk
  | q+2=>
   have:(eB t e x (λj=>match j with | 0=> .ow 0 | 1=> .int .i64 k | _=> .undef)).s (q+2)= .undef:=by
    show(bif e&&Nat.beq (q+2) 0 then _ else _)=_
    have:Nat.beq (q+2) 0=false:=rfl;rw[this,Bool.and_false];rfl
   rw[this];exact .undef _
 by_cases eX:x=[]
 ·-- no row
  subst eX;have oZ:VR w (λ_=>none) VA v (.sl t []):=(hd.vr _)
  have WY:∃ao cap,v= .slice ao 0 cap∧cap≤maxLen:=by
   cases oZ with
   | slE _ ao cap h=>exact⟨ao,cap,rfl,h⟩
   | slC _ _ b off cap _ _ _ h=>exact⟨_,cap,rfl,h⟩
  obtain⟨ao,cap,rfl,EX⟩:=WY;have xZ:=v7 k r hk hF;refine yS hC hΦ hM (T0:=T) (ri:=⟨0,0,0,true⟩) body [] _ a0 w _ _ ⟨?_,λq=>slots0 true _ _ q (.slE _ _ _ EX),JV,X4,hg⟩ xZ λex l' s' a' w' hr hk=>?_
  ·exact⟨Wx.refl _,λ_ _ _=>rfl,λb h=>h.elim,λq row hq=>(by cases hq),λq q' row row' qi qi' h1=>(by cases h1),lB.zero λq t l m hq=>(by cases hq)⟩
  ·have GW:r.1=[]:=(kR hk).2.elim λ_ h=>h.2.2.2.2 rfl;refine cB true _ ex l' s' a' w' hr (λ_=>?_) hk
   ·rw[GW];refine⟨rfl,λ_=>none,0,0,rfl,λj hj=>?_⟩;have:j=0:=by simpa using hj
    subst this;exact .triv _ _ _ λ_ _ _=> .slE _ _ _ EX
 ·have WY:∃b cap,v= .slice (some (gA b 0)) x.length cap:=by
   cases hd with
   | triv _ _ _ h=>
    have:=h w (λ_=>none) (λ_=>True);cases this with
    | slE=>exact absurd rfl eX
    | slC _ _ _ _ _ _ hb=>exact absurd trivial hb
   | sl _ _ _ b cap=>exact⟨b,cap,rfl⟩
  obtain⟨b,cap,rfl⟩:=WY;obtain⟨h1,h2,h3⟩:=zc9 hX hd eX (λj=>match j with | 0=> .ow 0 | 1=> .int .i64 k | _=> .undef);refine yS hC hΦ hM (T0:=T) (ri:=⟨b,x.length,cap,false⟩) body x _ a0 w _ _ ⟨h1,λq=>slots0 false _ _ q (.ow 0 ⟨b,x.length,cap,false⟩ rfl h2 h3 rfl),JV,X4,hg⟩ (HX x k r hk hF) λex l' s' a' w' hr hk=>?_;refine cB false _ ex l' s' a' w' hr (λe=>?_) hk;subst e;exact zca hr.heap
end
end Go.D
namespace Go.D
variable [aA]
section
variable {w w':World} {bad bad' fr fr':Nat→Prop} {par par':Nat→Option (Nat×Nat)} {p p':Nat×Nat} {v:Value} {d d':V} {T:Nat→Prop} {us:List Value} {ds es:List V}
def DV.bnd(hd:DV w bad fr par p v d):DV w bad (λb=>fr b∧b<w.heap.size) par p v d:=by
 induction hd with
 | triv p v d h=>exact .triv _ _ _ h
 | sl p t l b cap u OX qX hp he dX PX hz hu hv ih=>
  by_cases hl:l.length=0
  ·obtain rfl:=List.eq_nil_of_length_eq_zero hl;exact .triv _ _ _ λ_ _ _=> .slE _ _ _ PX
  ·exact .sl p t l b cap u OX ⟨qX,pG (hu 0 (by omega) 0 (wE t))⟩ hp he dX PX hz hu ih
def BB.keep(h:BB w T us ds){T':Nat→Prop}(hw:∀b,T b→b<w.heap.size→w'.heap[b]?=w.heap[b]?)(hT:∀b,T b→b<w.heap.size→T' b):BB w' T' us ds:=by
 obtain⟨h1,par,X,o,hX,h2⟩:=h;refine⟨h1,par,X,o,hX,λj hj=>?_⟩;exact(h2 j hj).bnd.gen (λb _ _ hb=>hw b hb.1 hb.2) (λ_ _ _ h=>h) (λb hb=>hT b hb.1 hb.2) (λ_ _ _ _ h=>h) λ_ _ _ _ _ _ h=>h
def BB.bnd(h:BB w T us ds):BB w (λb=>T b∧b<w.heap.size) us ds:=h.keep (λ_ _ _=>rfl) λ_ h h'=>⟨h,h'⟩
def BB.vr(h:BB w T us ds)(ρ:Nat→Option RI)(j:Nat)(hj:j<ds.length):VR w ρ VA (us.getD j undef) ds[j]:=by
 obtain⟨_,par,X,o,hX,h2⟩:=h;exact(h2 j hj).vr ρ
omit [aA]in
def zc8{par:Nat→Option (Nat×Nat)}{X i j:Nat}(hX:par X=none){b:Nat}(h:QC par (X,i) b)(h':QC par (X,j) b):i=j:=by
 have:=h.uniq hX hX h';exact(Prod.mk.inj this).2
def zbz(hT:BB w T us ds){off n:Nat}(hn:off+n≤ds.length)(QW:es.length=n)(hs:∀j (hj:j<n) (h:j<es.length),tD (ds[off+j]'(by omega)) es[j]):
  ∃T',(∀b,T' b→T b)∧BB w T' ((us.drop off).take n) es∧
   ∀w' es',w.heap.size≤w'.heap.size→es'.length=n→(∀b,b<w.heap.size→¬T' b→w'.heap[b]?=w.heap[b]?)→BB w' (λb=>T' b∨w.heap.size≤b) ((us.drop off).take n) es'→
    BB w' (λb=>T b∨w.heap.size≤b) us (FB ds off es'):=by
 classical
 obtain⟨FV,par,X,o,hX,hd⟩:=hT;let T':Nat→Prop:=λb=>T b∧∃j,j<n∧QC par (X,o+(off+j)) b
 have LX:∀j,j<n→((us.drop off).take n).getD j undef=us.getD (off+j) undef:=λj hj=>by
  rw[List.getD_eq_getElem?_getD,List.getElem?_take,if_pos hj,List.getElem?_drop, ←List.getD_eq_getElem?_getD]
 refine⟨T',λb h=>h.1,⟨by simp;omega,par,X,o+off,hX,λj hj=>?_⟩,λw' es' JV v4 VV ⟨_,par1,X1,o1,Y9,Z9⟩=>?_⟩
 ·have OY:j<n:=by omega
  rw[LX j OY,Nat.add_assoc]
  exact((hd (off+j) (by omega)).str (λb=>∃j,j<n∧QC par (X,o+(off+j)) b) (λb h=>⟨j,OY, .one b h⟩) λb c o' ⟨i,hi,hc⟩ h=>⟨i,hi, .step b c o' h hc⟩).gen
   (λ_ _ _ _=>rfl) (λ_ _ _ h=>h) (λb h=>⟨h.2.1,h.2.2⟩) (λ_ _ _ _ h=>h) (λ_ _ _ _ _ _ h=>h) |>.sub (hs j OY hj)
 let Tf:Nat→Prop:=λb=>T' b∨w.heap.size≤b;let XX:=w'.heap.size
 let par2:Nat→Option (Nat×Nat):=λb=>if b=XX then none else if Tf b then
   (match par1 b with | some q=>if q.1=X1 then some (XX,off+(q.2 - o1))else some q | none=>none)
  else(match par b with | some q=>if q.1=X then some (XX,q.2 - o)else some q | none=>none)
 have hXX:par2 XX=none:=by simp[par2]
 have gW:∀b q,b<w'.heap.size→Tf b→par1 b=some q→par2 b=if q.1=X1 then some (XX,off+(q.2 - o1))else some q:=λb q hb ht hp=>by
  have:b≠XX:=λe=>by simp only[XX]at e;omega
  simp only[par2,if_neg this,if_pos ht,hp]
 have iW:∀b q,b<w'.heap.size→¬Tf b→par b=some q→par2 b=if q.1=X then some (XX,q.2 - o)else some q:=λb q hb ht hp=>by
  have:b≠XX:=λe=>by simp only[XX]at e;omega
  simp only[par2,if_neg this,if_neg ht,hp]
 have WY:(FB ds off es').length=ds.length:=by simp[FB];omega
 refine⟨by rw[WY];exact FV,par2,XX,0,hXX,λj hj=>?_⟩;rw[Nat.zero_add];obtain⟨_,hg⟩:=NI ds off es' (by omega);have I8:j<ds.length:=by omega
 rw[hg j I8 hj]
 by_cases sW:off≤j∧j<off+es'.length
 ·rw[dif_pos sW];have h1:=Z9 (j - off) (by omega);rw[LX _ (by omega),show off+(j - off)=j by omega]at h1;refine h1.bnd.gen (λ_ _ _ _=>rfl) (λ_ _ _ h=>h) (λb h=>h.1.imp (λh=>h.1) id) (λb _ _ hb hp=>?_) λb q _ _ hb hq hp=>?_
  ·rw[gW b _ hb.2 hb.1 hp,if_pos rfl];simp only[Option.some.injEq,Prod.mk.injEq,true_and];omega
  ·rw[gW b _ hb.2 hb.1 hp,if_neg];rintro e;rw[e]at hq;exact hq Y9
 ·rw[dif_neg sW];have h1:=hd j I8
  have zW:∀b,QC par (X,o+j) b→b<w.heap.size→¬Tf b:=λb hb HV h=>by
   rcases h with⟨_,i,hi,h⟩ | h
   ·have:=zc8 hX hb h;omega
   ·omega
  refine h1.genT (QC par (X,o+j)) (λb h=> .one b h) (λb q h h'=> .step b q.1 q.2 h' h) (λb hb _ hc _=>VV b hc.lt λh=>zW b hb hc.lt (.inl h)) (λ_ _ _ _ h=>h) (λb _ h=> .inl h) (λb hb _ hc _ hp=>?_) λb q hb _ hc _ hq hp=>?_
  ·rw[iW b _ (Nat.lt_of_lt_of_le hc.lt JV) (zW b hb hc.lt) hp,if_pos rfl];simp only[Option.some.injEq,Prod.mk.injEq,true_and];omega
  ·rw[iW b _ (Nat.lt_of_lt_of_le hc.lt JV) (zW b hb hc.lt) hp,if_neg];rintro e;rw[e]at hq;exact hq hX
end
def mH(h:Nat→Option fA):V→V
 | .ow r=>match h r with
  | some ⟨.arr t l,_⟩=> .sl t l
  | _=> .undef
 | v=>v
def wT(w:World)(ρ:Nat→Option RI)(h:Nat→Option fA)(cs:List V):Nat→Prop:=λb=>
 w.heap.size≤b∧(¬bA VA ρ h b∨∃(j r:Nat) (ri:RI),cs[j]?=some (V.ow r)∧ρ r=some ri∧ri.nl=false∧ri.b=b)
open Classical in
theorem zbf{w w':World}{ρ:Nat→Option RI}{h:Nat→Option fA}{us:List Value}{cs:List V}(hh:BA w VA (Ow.of VA) ρ h w')(ht:UC h [] cs=true)(hl:us.length=cs.length)
  (hv:∀j (hj:j<cs.length),VR w' ρ (bA VA ρ h) (us.getD j undef) cs[j]):BB w' (wT w ρ h cs) us (cs.map (mH h)):=by
 obtain⟨t1,t2⟩:=XG _ _ ht;obtain⟨par,FW⟩:=hh.dep;let At:Nat→Nat→Prop:=λc j=>∃r ri,cs[j]?=some (V.ow r)∧ρ r=some ri∧ri.nl=false∧ri.b=c
 have iE:∀j r,cs[j]?=some (V.ow r)→∃t,∃l:List (El t),∃m,h r=some ⟨.arr t l,m⟩∧xB true t m=true:=λj r hj=>by
  rcases t1 j _ hj with⟨r',t,l,m,e,h1,h2,_⟩ | ⟨_,h2,_⟩
  ·cases e;exact⟨t,l,m,h1,h2⟩
  ·exact absurd rfl (h2 r)
 have atUniq:∀c i j,At c i→At c j→i=j:=by
  rintro c i j ⟨r,ri,h1,h2,h3,h4⟩ ⟨r',ri',k1,k2,k3,k4⟩;obtain⟨_,_,_,e1,_⟩:=iE i r h1;obtain⟨_,_,_,e2,_⟩:=iE j r' k1;have:=hh.inj r r' _ _ ri ri' e1 e2 h2 k2 h3 k3 (h4.trans k4.symm);subst this;exact t2 i j r h1 k1
 have atBad:∀c j,At c j→bA VA ρ h c:=by
  rintro c j ⟨r,ri,h1,h2,h3,rfl⟩;obtain⟨_,_,m,e1,e2⟩:=iE j r h1;exact .inr ⟨r,_,ri,e1,mJ e2,h2,h3,rfl⟩
 let X:=w'.heap.size;let par1:Nat→Option (Nat×Nat):=λc=>if c=X then none else if h1:∃j,At c j then some (X,Classical.choose h1)else par c
 have p1:∀c j,c<w'.heap.size→At c j→par1 c=some (X,j):=λc j hc ha=>by
  have h1:∃j,At c j:=⟨j,ha⟩;have h2:c≠X:=by simp only[X];omega
  simp only[par1,if_neg h2,dif_pos h1];rw[atUniq c _ j (Classical.choose_spec h1) ha]
 have p2:∀c q,¬bA VA ρ h c→AB w' c→par c=some q→par1 c=some q:=λc q hb hc hp=>by
  have h1:¬∃j,At c j:=λ⟨j,ha⟩=>hb (atBad c j ha);have h2:c≠X:=by have:=hc.lt;simp only[X];omega
  simp only[par1,if_neg h2,dif_neg h1,hp]
 refine⟨by simpa using hl,par1,X,0,by simp[par1],λj hj=>?_⟩;have J8:j<cs.length:=by simpa using hj
 rw[Nat.zero_add,List.getElem_map];have hu:=hv j J8;have Y4:cs[j]?=some cs[j]:=List.getElem?_eq_getElem J8
 rcases t1 j _ Y4 with⟨r,t,l,m,e,hr,QV,_⟩ | ⟨_,_,K6⟩
 ·rw[e]at hu Y4⊢;have hcd:mH h (.ow r)= .sl t l:=by simp only[mH,hr]
  rw[hcd];obtain⟨ri,k1,k2,k3⟩:=hh.rows r _ hr;generalize us.getD j undef=u at hu⊢;cases hu with
  | owN _ ri' ao h1 h2 h3=>
   rw[k1]at h1;cases h1;have:l=[]:=List.eq_nil_of_length_eq_zero (by have:=k2.1;omega);subst this;exact .triv _ _ _ λ_ _ _=> .slE _ _ _ (Nat.zero_le _)
  | ow _ ri' h1 h2 h3 h4=>
   rw[k1]at h1;cases h1;have hn:ri.n=l.length:=k2.1;rw[hn]
   by_cases dX:l=[]
   ·subst dX;exact .triv _ _ _ λ_ _ _=> .slE _ _ _ h3
   rcases k2.2 with hx | ⟨_,he,d1,d2,d3,d4⟩
   ·exact absurd hx.2 dX
   have HV:=(k3 h4).2;have VV:w.heap.size≤ri.b:=((k3 h4).1.2 (mJ QV)).elim id λh=>h.elim;refine .sl _ t l ri.b ri.cap (λi j=>(w'.cell? (gA ri.b (i *sz t+j))).getD undef) (λh=>h) ⟨VV, .inr ⟨j,r,ri,Y4,k1,h4,rfl⟩⟩ (p1 _ j HV ⟨r,ri,Y4,k1,h4,rfl⟩) he (by omega) d2 d3 (λa ha b hb=>?_) λa ha b hb=>?_
   ·obtain⟨x,f1,_⟩:=d4 a ha b hb;rw[f1];rfl
   ·obtain⟨x,f1,f9⟩:=d4 a ha b hb;rw[f1,Option.getD_some];cases m with
    | ro=>simp[xB]at QV
    | lock | tlk=>simp[xB]at QV
    | own=>exact .triv _ _ _ (RL (by simpa[xB]using QV) f9 hb)
    | tre=>
     obtain⟨x2,f2,f3⟩:=(FW r t l _ ri hr rfl k1 h4).2 a ha b hb;rw[f1]at f2;cases f2;exact(f3.str (λ_=>True) (λ_ _=>trivial) λ_ _ _ _ _=>trivial).gen (λ_ _ _ _=>rfl) (λ_ _ _ h=>h.elim) (λb hb=>⟨hb.2.1.elim id λh=>h.elim, .inl hb.1⟩) (λc _ hc YV hp=>p2 c _ YV.1 hc hp) λc q _ hc YV _ hp=>p2 c q YV.1 hc hp
 ·rcases K6 with e | ⟨k,n,e⟩ | ⟨b,e⟩ | ⟨s,e⟩<;>rw[e]at hu⊢ <;>generalize us.getD j undef=u at hu⊢ <;>cases hu
  ·exact .triv _ _ _ λ_ _ _=> .nil
  ·rename_i hf;exact .triv _ _ _ λ_ _ _=> .int _ _ hf
  ·exact .triv _ _ _ λ_ _ _=> .bool _
  ·rename_i hf;exact .triv _ _ _ λ_ _ _=> .str _ hf
end Go.D
namespace Go.D
variable [aA]
structure LP where
 slot:Nat
 k:Nat
 off:Nat
 n:Nat
structure LT where
 ds:List V
 pl:List LP
structure LS where
 f:Nat→V
 x:List LT
def Sx(L:LS)(Ts:Nat→Nat→Prop):Nat→Prop:=λb=>∃j,j<L.x.length∧Ts j b
def gG(a:Act)(w:World)(S:Nat→Prop)(us:List Value)(p:LP):Prop:=
 p.off+p.n≤us.length∧0<p.n∧match p.k with
  | 0=>p.n=1∧a.tmps.getD p.slot undef=us.getD p.off undef
  | 1=>∃bb,a.tmps.getD p.slot undef= .pointer (some (gA bb 0))∧bb<w.heap.size∧¬S bb∧∀j,j<p.n→w.cell? (gA bb j)=some (us.getD (p.off+j) undef)
  | _=>a.tmps.getD p.slot undef= .agg ((us.drop p.off).take p.n).toArray
structure aC(C:Cx)(w0:World)(T0:Nat→Prop)(L:LS)(a:Act)(w:World)(Ts:Nat→Nat→Prop):Prop where
 wx:Wx w0 w
 frame:∀b,b<w0.heap.size→¬T0 b→w.heap[b]?=w0.heap[b]?
 froz:∀i,VR w (λ_=>none) (Sx L Ts) (a.tmps.getD i undef) (L.f i)
 held:∀j (h:j<L.x.length),∃us,BB w (Ts j) us L.x[j].ds∧∀p∈L.x[j].pl,gG a w (Sx L Ts) us p
 apart:∀i j b,i<L.x.length→j<L.x.length→Ts i b→Ts j b→i=j
 low:∀j b,j<L.x.length→Ts j b→b<w.heap.size∧(T0 b∨w0.heap.size≤b)
 size:a.tmps.size=C.nt
 defers:a.defers=[]
 glob:xJ C.g T0 w0
def aF:Nat→List LT→Nat→Option (Nat×LT×LP)
 | _,[],_=>none
 | g,t :: ts,i=>match t.pl.find? λp=>Nat.beq p.slot i with
  | some p=>some (g,t,p)
  | none=>aF (g+1) ts i
def GN(t:LT)(p:LP):V:=match p.k with
 | 0=>t.ds.getD p.off .undef
 | 1=> .fp ((t.ds.drop p.off).take p.n) 0
 | _=> .agg ((t.ds.drop p.off).take p.n)
def XF(L:LS):St:=⟨λi=>match aF 0 L.x i with | some (_,t,p)=>GN t p | none=>L.f i,λ_=>none,0⟩
section
variable {C:Cx} {w0 w:World} {T0:Nat→Prop} {L:LS} {a:Act} {Ts:Nat→Nat→Prop}
def aC.globW(h:aC C w0 T0 L a w Ts){T:Nat→Prop}(hT:∀b,T b→T0 b∨w0.heap.size≤b):xJ C.g T w:=by
 have HV:=C.g.lt _ h.glob.p;refine⟨C.g.stay w0 w (λc hc=>h.frame c (Nat.lt_of_lt_of_le hc HV) (h.glob.own c hc)) h.glob.p,λc hc ho=>?_,Nat.le_trans h.glob.base h.wx.size,λc hc ho=>?_⟩
 ·rcases hT c ho with h1 | h1
  ·exact h.glob.own c hc h1
  ·omega
 ·have:=h.glob.base
  rcases hT c ho with h1 | h1
  ·exact h.glob.low c hc h1
  ·omega
omit [aA]in
def jK:∀{xs:List LT} {g i g':Nat} {t:LT} {p:LP},aF g xs i=some (g',t,p)→g≤g'∧xs[g' - g]?=some t∧p∈t.pl∧p.slot=i
 | [],g,i,g',t,p,h=>by cases h
 | x :: xs,g,i,g',t,p,h=>by
  simp only[aF]at h;split at h
  ·rename_i p' hf;cases h;refine⟨Nat.le_refl _,by simp,List.mem_of_find?_eq_some hf,?_⟩;have:=List.find?_some hf;exact Nat.eq_of_beq_eq_true this
  ·obtain⟨h1,h2,h3,h4⟩:=jK h;refine⟨by omega,?_,h3,h4⟩;rw[show g' - g=(g' - (g+1))+1 by omega,List.getElem?_cons_succ];exact h2
omit [aA]in
def wM{α:Type}{l:List α}{off n j:Nat}(d:α)(hj:j<n):((l.drop off).take n).getD j d=l.getD (off+j) d:=by
 rw[List.getD_eq_getElem?_getD,List.getElem?_take,if_pos hj,List.getElem?_drop, ←List.getD_eq_getElem?_getD]
def aC.vr(h:aC C w0 T0 L a w Ts)(i:Nat){bad:Nat→Prop}(hb:∀b,¬bad b):VR w (λ_=>none) bad (a.tmps.getD i undef) ((XF L).s i):=by
 show VR w _ _ _ (match aF 0 L.x i with | some (_,t,p)=>GN t p | none=>L.f i)
 cases hf:aF 0 L.x i with
 | none=>exact(h.froz i).mono (λ_ _ h=>h) (λ_ _ _=>rfl) λb h=>absurd h (hb b)
 | some q=>
  obtain⟨g,t,p⟩:=q;obtain⟨_,h2,h3,rfl⟩:=jK hf;obtain⟨hg,ht⟩:=List.getElem?_eq_some_iff.1 h2;obtain⟨us,k1,k2⟩:=h.held _ hg;rw[ht]at k1 k2;obtain⟨e1,e2,e3⟩:=k2 p h3;have FV:us.length=t.ds.length:=k1.1
  have cell:∀j,j<p.n→VR w (λ_=>none) bad (us.getD (p.off+j) undef) (t.ds.getD (p.off+j) .undef):=λj hj=>by
   have fY:p.off+j<t.ds.length:=by omega
   rw[ED _ _ _ fY];exact(k1.vr _ (p.off+j) fY).mono (λ_ _ h=>h) (λ_ _ _=>rfl) λb h=>absurd h (hb b)
  show VR w _ _ _ (GN t p)
  have hl:((t.ds.drop p.off).take p.n).length=p.n:=by simp;omega
  have gv:∀j (hj:j<((t.ds.drop p.off).take p.n).length),((t.ds.drop p.off).take p.n)[j]=t.ds.getD (p.off+j) .undef:=λj hj=>by
   rw[←ED _ _ V.undef hj,wM _ (by omega)]
  unfold GN;split at e3
  ·rw[e3.2];exact cell 0 e2
  ·obtain⟨bb,f1,f2,f3,f4⟩:=e3;rw[f1];refine .fp _ 0 bb 0 (λj=>us.getD (p.off+j) undef) (by rw[hl];exact e2) (hb bb) (λj hj=>?_) λj hj=>?_
   ·rw[Nat.zero_add];exact f4 j (by omega)
   ·rw[gv j hj];exact cell j (by omega)
  ·rw[e3];refine .agg _ _ (by simp;omega) λj hj=>?_;rw[gv j hj];have:=cell j (by omega);rw[←wM (n:=p.n) undef (by omega)]at this;rw[Array.getD_eq_getD_getElem?,List.getElem?_toArray, ←List.getD_eq_getElem?_getD];exact this
def aC.rel(h:aC C w0 T0 L a w Ts):xA C w VA (Ow.of VA) (λ_=>none) (XF L) a w:=by
 have hb:∀b,¬bA VA (λ_=>none) (XF L).h b:=by
  rintro b (h | ⟨q,row,ri,h1,_⟩)
  ·exact h
  ·cases h1
 refine⟨?_,λi=>h.vr i hb,h.size,h.defers,h.globW λb hb=>hb.elim⟩;exact⟨Wx.refl _,λ_ _ _=>rfl,λb h=>h.elim,λq row hq=>(by cases hq),λq q' row row' qi qi' h1=>(by cases h1),lB.zero λq t l m hq=>(by cases hq)⟩
end
def DF:Code→List Nat
 | .region _ ops _=>ops.toList.filterMap (·.dst)
 | .seq a b=>DF a++DF b
 | .cond _ a b=>DF a++DF b
 | .block _ b=>DF b
 | .loop b=>DF b
 | .scope b=>DF b
 | _=>[]
def QP:An:=⟨[],[],[],[],[]⟩
omit [aA]in
def zaV{D:Nat→Prop}:∀c:Code,(∀s∈DF c,D s)→gE QP D c:=by
 intro c;induction c with
 | region id ops d=>exact λh=>⟨λo ho d hd=>h d (List.mem_filterMap.2 ⟨o,by simpa using ho,hd⟩),trivial⟩
 | seq x y hx hy=>exact λh=>⟨hx λs hs=>h s (List.mem_append_left _ hs),hy λs hs=>h s (List.mem_append_right _ hs)⟩
 | cond c x y hx hy=>
  intro h;have h1:=hx λs hs=>h s (List.mem_append_left _ hs);have h2:=hy λs hs=>h s (List.mem_append_right _ hs);cases c<;>first | exact⟨h1,h2,trivial⟩ | exact⟨h1,h2⟩
 | block id x hx=>exact λh=>⟨hx h,trivial⟩
 | loop x hx=>
  intro h;refine⟨hx h,?_⟩;split<;>trivial
 | scope x hx=>exact hx
 | _=>exact λ_=>trivial
def aM(st:St):Nat→List (Nat×Bool)→Option (List V×List LP)
 | _,[]=>some ([],[])
 | off,(s,bx) :: r=>
  match(match bx,st.s s with
   | true, .bp b 0=>match st.h b with
    | some ⟨.box cs, .own⟩=>some cs
    | _=>none
   | false, .ow b=>some [.ow b]
   | _,_=>none)with
  | none=>none
  | some cs=>match aM st (off+cs.length) r with
   | none=>none
   | some (c2,p2)=>some (cs++c2,⟨s,bif bx then 1 else 0,off,cs.length⟩ :: p2)
def lN(st:St):List Nat→Option (List (Nat×V))
 | []=>some []
 | s :: r=>match(match st.s s with
   | .bp b 0=>match st.h b with
    | some ⟨.box (c :: cs),_⟩=>match HC st.h (c :: cs)with
     | some (cs',_)=>some (.fp cs' 0)
     | none=>none
    | _=>none
   | v=>match XB st.h v with
    | some (d,_)=>some d
    | none=>none),lN st r with
  | some d,some ds=>some ((s,d) :: ds)
  | _,_=>none
def NK:V→V
 | .int k n=> .int k n
 | .bool b=> .bool b
 | .str s=> .str s
 | _=> .undef
def iP{R:Type}(dl:List Nat)(tr:List (Nat×Bool))(fz:List Nat)(L:LS)(st:St)(K:LS→Option R):Option R:=
 gd (L.x.all fun t=>t.pl.all fun p=>!(RB p.slot dl)) (
  match aM st 0 tr with
  | none=>none
  | some (cs,pl)=>gd (UC st.h [] cs&&pl.all (λp=>Nat.blt 0 p.n)) (
   match lN st fz with
   | none=>none
   | some fs=>gd (fs.isEmpty||(L.x.isEmpty&&tr.isEmpty)) (K ⟨λi=>bif RB i dl then(match JA i fs with | some d=>d | none=>NK (st.s i))else L.f i,
     bif tr.isEmpty then L.x else L.x++[⟨cs.map (mH st.h),pl⟩]⟩) none) none) none
section
variable {C:Cx} {w0 w w':World} {T0:Nat→Prop} {L:LS} {a a':Act} {Ts:Nat→Nat→Prop} {R:Type} {st:St} {ρ:Nat→Option RI}
def pU(a:Act)(w:World)(ρ:Nat→Option RI)(h:Nat→Option fA)(us:List Value)(p:LP):Prop:=
 p.off+p.n≤us.length∧match p.k with
  | 0=>p.n=1∧a.tmps.getD p.slot undef=us.getD p.off undef
  | 1=>∃bb r cs ri,h r=some ⟨.box cs, .own⟩∧ρ r=some ri∧ri.nl=false∧ri.b=bb∧a.tmps.getD p.slot undef= .pointer (some (gA bb 0))∧∀j,j<p.n→w.cell? (gA bb j)=some (us.getD (p.off+j) undef)
  | _=>False
def tS{own:Ow}(hr:xA C w0 VA own ρ st a' w'):∀(tr:List (Nat×Bool)) (pre:List Value) (cs:List V) (pl:List LP),aM st pre.length tr=some (cs,pl)→
  ∃us:List Value,us.length=cs.length∧(∀j (hj:j<cs.length),VR w' ρ (bA VA ρ st.h) (us.getD j undef) cs[j])∧∀suf,∀p∈pl,pU a' w' ρ st.h (pre++us++suf) p
 | [],pre,cs,pl,h=>by
  cases h;exact⟨[],rfl,λj hj=>by simp at hj,λ_ p hp=>by simp at hp⟩
 | (s,bx) :: tr,pre,cs,pl,h=>by
  simp only[aM]at h;split at h
  ·cases h
  rename_i cs1 FY
  have one:∃us1:List Value,us1.length=cs1.length∧(∀j (hj:j<cs1.length),VR w' ρ (bA VA ρ st.h) (us1.getD j undef) cs1[j])∧
    ∀suf,pU a' w' ρ st.h (pre++us1++suf) ⟨s,bif bx then 1 else 0,pre.length,cs1.length⟩:=by
   have hs:=hr.slots s;split at FY
   ·rename_i b hb;split at FY
    case h_2=>cases FY
    rename_i cs0 EV;cases FY;rw[hb]at hs;obtain⟨ri,k1,k2,k3⟩:=hr.heap.rows b _ EV
    have hv:a'.tmps.getD s undef= .pointer (some (gA ri.b 0))∧ri.nl=false:=by
     generalize a'.tmps.getD s undef=v at hs;cases hs with | bp _ _ ri' h1 h2=>rw[k1]at h1;cases h1;exact⟨rfl,h2⟩
    refine⟨(List.range cs1.length).map λj=>(w'.cell? (gA ri.b j)).getD undef,by simp,λj hj=>?_,λsuf=>⟨by simp,ri.b,b,cs1,ri,EV,k1,hv.2,rfl,hv.1,λj hj=>?_⟩⟩
    ·obtain⟨_,u,f1,f2⟩:=k2.2 j hj;rw[List.getD_eq_getElem?_getD,List.getElem?_map,List.getElem?_range hj];simp only[Option.map_some,Option.getD_some,f1];exact f2
    ·have hj:j<cs1.length:=hj;obtain⟨_,u,f1,f2⟩:=k2.2 j hj;simp only[List.append_assoc];rw[List.getD_eq_getElem?_getD,List.getElem?_append_right (by omega),Nat.add_sub_cancel_left,List.getElem?_append_left (by simpa using hj),List.getElem?_map,List.getElem?_range hj];simp only[Option.map_some,Option.getD_some,f1]
   ·rename_i b hb;cases FY;refine⟨[a'.tmps.getD s undef],rfl,λj hj=>?_,λsuf=>⟨by simp,rfl,?_⟩⟩
    ·have:j=0:=by simpa using hj
     subst this;simp only[List.getD_cons_zero,List.getElem_cons_zero];rw[hb]at hs;exact hs
    ·simp only[List.append_assoc];rw[List.getD_eq_getElem?_getD,List.getElem?_append_right (by simp)];simp
   ·cases FY
  obtain⟨us1,e1,e2,e3⟩:=one;split at h
  ·cases h
  rename_i c2 p2 MV;cases h;obtain⟨us2,f1,f2,f3⟩:=tS hr tr (pre++us1) c2 p2 (by rw[List.length_append,e1];exact MV);refine⟨us1++us2,by simp[e1,f1],λj hj=>?_,λsuf p hp=>?_⟩
  ·by_cases h1:j<cs1.length
   ·rw[List.getElem_append_left h1,List.getD_eq_getElem?_getD,List.getElem?_append_left (by omega), ←List.getD_eq_getElem?_getD];exact e2 j h1
   ·rw[List.getElem_append_right (by omega),List.getD_eq_getElem?_getD,List.getElem?_append_right (by omega),e1, ←List.getD_eq_getElem?_getD];exact f2 (j - cs1.length) (by simp at hj;omega)
  ·rcases List.mem_cons.1 hp with rfl | hp
   ·have:=e3 (us2++suf);rwa [show pre++(us1++us2)++suf=pre++us1++(us2++suf) by simp]
   ·have:=f3 suf p hp;rwa [show pre++(us1++us2)++suf=pre++us1++us2++suf by simp]
def DS{own:Ow}(hr:xA C w0 VA own ρ st a' w'){bad:Nat→Prop}(hb:∀b,¬bad b):∀(fz:List Nat) (fs:List (Nat×V)),lN st fz=some fs→∀(s:Nat) (d:V),JA s fs=some d→VR w' (λ_=>none) bad (a'.tmps.getD s undef) d
 | [],fs,h,s,d,hl=>by cases h;cases hl
 | s0 :: fz,fs,h,s,d,hl=>by
  simp only[lN]at h;split at h
  case h_2=>cases h
  rename_i d0 ds h1 h2;cases h;simp only[JA]at hl;cases hq:Nat.beq s0 s
  ·rw[hq]at hl;exact DS hr hb fz ds h2 s d hl
  ·rw[hq]at hl;cases hl;obtain rfl:=Nat.eq_of_beq_eq_true hq;have hs:=hr.slots s0;have none_of:∀{u:Value} {d:V} {ids:List Nat},VR w' ρ (bA VA ρ (dB st.h ids)) u d→tB d→VR w' (λ_=>none) bad u d:=λhv hn=>(hv.noRef hn _).mono (λ_ _ h=>h) (λ_ _ _=>rfl) λb h=>absurd h (hb b);split at h1
   ·rename_i b I2;split at h1
    case h_2=>cases h1
    rename_i c cs m EV;split at h1
    case h_2=>cases h1
    rename_i cs' ids hf;cases h1;rw[I2]at hs;obtain⟨ri,k1,k2,k3⟩:=hr.heap.rows b _ EV
    have hv:a'.tmps.getD s0 undef= .pointer (some (gA ri.b 0)):=by
     generalize a'.tmps.getD s0 undef=v at hs;cases hs with | bp _ _ ri' h1 h2=>rw[k1]at h1;cases h1;rfl
    obtain⟨g1,g2⟩:=fK hr.heap (vs:=λj=>(w'.cell? (gA ri.b j)).getD undef) (λj hj=>by
     obtain⟨_,u,f1,f2⟩:=k2.2 j hj;rw[f1];exact f2) hf
    rw[hv];refine .fp _ 0 ri.b 0 (λj=>(w'.cell? (gA ri.b j)).getD undef) (by rw[g1];simp) (hb _) (λj hj=>?_) λj hj=>?_
    ·obtain⟨_,u,f1,f2⟩:=k2.2 j (by omega);rw[Nat.zero_add,f1];rfl
    ·exact none_of (g2 j hj).1 (g2 j hj).2.1
   ·split at h1
    case h_2=>cases h1
    rename_i d1 ids hf;cases h1;obtain⟨g1,g2,_⟩:=UL hr.heap hs hf;exact none_of g1 g2
def zc1{bad bad':Nat→Prop}{ρ ρ':Nat→Option RI}{v:Value}{d:V}(h:VR w ρ bad v d):VR w' ρ' bad' v (NK d):=by
 unfold NK;split
 ·cases h with | int _ _ h=>exact .int _ _ h
 ·cases h;exact .bool _
 ·cases h with | str _ h=>exact .str _ h
 ·exact .undef _
def zcy(hi:aC C w0 T0 L a w Ts){dl:List Nat}{tr:List (Nat×Bool)}{fz:List Nat}{K:LS→Option R}{r:R}(hg:kB C w VA (Ow.of VA) (λs=>s∈dl) (XF L) a (λ_=>none) st a' w' ρ)
  (hk:iP dl tr fz L st K=some r):∃L' Ts',K L'=some r∧aC C w0 T0 L' a' w' Ts':=by
 unfold iP at hk;cases h1:(L.x.all λt=>t.pl.all λp=>!(RB p.slot dl))
 ·rw[h1]at hk;cases hk
 rw[h1]at hk;simp only[gB]at hk;split at hk
 ·cases hk
 rename_i cs pl z4;cases h2:(UC st.h [] cs&&pl.all (λp=>Nat.blt 0 p.n))
 ·rw[h2]at hk;cases hk
 rw[h2]at hk;simp only[gB]at hk;split at hk
 ·cases hk
 rename_i fs A4;cases h3:(fs.isEmpty||(L.x.isEmpty&&tr.isEmpty))
 ·rw[h3]at hk;cases hk
 rw[h3]at hk;simp only[gB]at hk;simp only[Bool.and_eq_true]at h2;have xW:=hg.rel.heap.wx;have oW:∀b,b<w.heap.size→w'.heap[b]?=w.heap[b]?:=λb hb=>hg.rel.heap.old b hb λh=>h;have BW:∀s,s∉dl→a'.tmps.getD s undef=a.tmps.getD s undef:=hg.vals;obtain⟨us,u1,u2,u3⟩:=tS hg.rel tr [] cs pl z4;have hT:=zbf hg.rel.heap h2.1 u1 u2;have W4:=hT.bnd;let newT:Nat→Prop:=λb=>wT w ρ st.h cs b∧b<w'.heap.size;let Ts':Nat→Nat→Prop:=λj b=>if j<L.x.length then Ts j b else newT b
 let x':List LT:=bif tr.isEmpty then L.x else L.x++[⟨cs.map (mH st.h),pl⟩]
 let f':Nat→V:=λi=>bif RB i dl then(match JA i fs with | some d=>d | none=>NK (st.s i))else L.f i
 have hx:(tr=[]∧x'=L.x)∨(tr≠[]∧x'=L.x++[⟨cs.map (mH st.h),pl⟩]):=by
  cases tr with
  | nil=>exact .inl ⟨rfl,rfl⟩
  | cons=>exact .inr ⟨by simp,rfl⟩
 have FV:L.x.length≤x'.length:=by rcases hx with⟨_,h⟩ | ⟨_,h⟩<;>rw[h]<;>simp
 have hS:∀b,Sx ⟨f',x'⟩ Ts' b→Sx L Ts b∨(w.heap.size≤b∧newT b):=λb ⟨j,hj,hb⟩=>by
  simp only[Ts']at hb;split at hb
  ·rename_i dW;exact .inl ⟨j,dW,hb⟩
  ·exact .inr ⟨hb.1.1,hb⟩
 refine⟨_,Ts',hk,hi.wx.trans xW,λb hb ht=>(oW b (Nat.lt_of_lt_of_le hb hi.wx.size)).trans (hi.frame b hb ht),λi=>?_,λj hj=>?_,λi j b h4 h5 h6 h7=>?_,λj b hj hb=>?_,hg.rel.size,hg.rel.defers,hi.glob⟩
 ·show VR w' _ _ _ (bif RB i dl then(match JA i fs with | some d=>d | none=>NK (st.s i))else L.f i)
  cases hm:RB i dl
  ·simp only[cond_false];rw[BW i (mF.1 hm)];exact(hi.froz i).mono (λ_ _ h=>h) (λb _ hb=>oW b hb) λb hb=>(hS b hb).imp id (·.1)
  ·simp only[cond_true];cases rZ:JA i fs with
   | none=>exact zc1 (hg.rel.slots i)
   | some d=>
    simp only[Bool.or_eq_true,Bool.and_eq_true]at h3
    have MZ:L.x=[]∧tr=[]:=by
     rcases h3 with h3 | ⟨h3,h4⟩
     ·rw[List.isEmpty_iff]at h3;subst h3;cases rZ
     ·exact⟨List.isEmpty_iff.1 h3,List.isEmpty_iff.1 h4⟩
    refine DS hg.rel (λb=>?_) fz fs A4 i d rZ;rintro⟨j,hj,_⟩;have:x'=[]:=by simp only[x',MZ.2,MZ.1];rfl
    have hj:j<x'.length:=hj;rw[this]at hj;simp at hj
 ·have old:∀(h:j<L.x.length),∃us,BB w' (Ts' j) us L.x[j].ds∧∀p∈L.x[j].pl,gG a' w' (Sx ⟨f',x'⟩ Ts') us p:=λh=>by
   obtain⟨us0,k1,k2⟩:=hi.held j h;refine⟨us0,k1.keep (λb _ hb=>oW b hb) λb hb _=>by simp only[Ts',if_pos h];exact hb,λp hp=>?_⟩;obtain⟨e1,e2,e3⟩:=k2 p hp
   have B4:p.slot∉dl:=by
    have:=List.all_eq_true.1 (List.all_eq_true.1 h1 _ (List.getElem_mem h)) p hp;simp only[Bool.not_eq_true']at this;exact mF.1 this
   refine⟨e1,e2,?_⟩;rw[BW _ B4];split at e3
   ·exact e3
   ·obtain⟨bb,g1,g2,g3,g4⟩:=e3;exact⟨bb,g1,Nat.lt_of_lt_of_le g2 xW.size,λh=>(hS bb h).elim g3 λh=>by omega,λj hj=>(LC (oW bb g2)).trans (g4 j hj)⟩
   ·exact e3
  show ∃us,BB w' (Ts' j) us (x'[j]'hj).ds∧∀p∈(x'[j]'hj).pl,gG a' w' (Sx ⟨f',x'⟩ Ts') us p
  rcases hx with⟨_,hx⟩ | ⟨_,hx⟩
  ·have dW:j<L.x.length:=by rw[←hx];exact hj
   have:x'[j]'hj=L.x[j]:=by simp only[hx]
   rw[this];exact old dW
  ·by_cases dW:j<L.x.length
   ·have:x'[j]'hj=L.x[j]:=by simp only[hx];exact List.getElem_append_left dW
    rw[this];exact old dW
   ·have fY:j=L.x.length:=by
     have:j<x'.length:=hj;rw[hx]at this;simp at this;omega
    have:x'[j]'hj=⟨cs.map (mH st.h),pl⟩:=by
     simp only[hx];rw[List.getElem_append_right (by omega)];simp[fY]
    rw[this];refine⟨us,W4.keep (λ_ _ _=>rfl) λb hb _=>by simp only[Ts',if_neg dW];exact hb,λp hp=>?_⟩;have h4:=u3 [] p hp;rw[List.nil_append,List.append_nil]at h4;obtain⟨e1,e3⟩:=h4;have e2:=List.all_eq_true.1 h2.2 p hp;simp only[Nat.blt_eq]at e2;refine⟨e1,e2,?_⟩;split at e3
    ·exact e3
    ·obtain⟨bb,r0,cs0,ri,g1,g2,g3,g4,g5,g6⟩:=e3;obtain⟨ri2,k1,_,k3⟩:=hg.rel.heap.rows r0 _ g1;rw[g2]at k1;cases k1;have GV:bA VA ρ st.h bb:= .inr ⟨r0,_,ri,g1,rfl,g2,g3,g4⟩;refine⟨bb,g5,by rw[←g4];exact(k3 g3).2,λh=>?_,g6⟩;obtain⟨j',kW,YV⟩:=h;simp only[Ts']at YV;split at YV
     ·rename_i hj3;have:=(hi.low j' bb hj3 YV).1;have:=(k3 g3).1.2 rfl;rw[g4]at this
      rcases this with h | h
      ·omega
      ·exact h
     ·rcases YV.1.2 with h | ⟨i2,r2,ri2,q1,q2,q3,q4⟩
      ·exact h GV
      ·obtain⟨t1,_⟩:=XG _ _ h2.1
       rcases t1 i2 _ q1 with⟨r',t,l,m,e,hh,_⟩ | ⟨_,h,_⟩
       ·cases e;have:=hg.rel.heap.inj r0 r2 _ _ ri ri2 g1 hh g2 q2 g3 q3 (g4.trans q4.symm);subst this;rw[g1]at hh;cases hh
       ·exact h r2 rfl
    ·exact e3.elim
 ·have h4:i<x'.length:=h4;have h5:j<x'.length:=h5;have hlx:x'.length≤L.x.length+1:=by rcases hx with⟨_,h⟩ | ⟨_,h⟩<;>rw[h]<;>simp
  simp only[Ts']at h6 h7;split at h6<;>split at h7
  ·exact hi.apart i j b ‹_› ‹_› h6 h7
  ·have:=(hi.low i b ‹_› h6).1;have:=h7.1.1;omega
  ·have:=(hi.low j b ‹_› h7).1;have:=h6.1.1;omega
  ·omega
 ·simp only[Ts']at hb;split at hb
  ·obtain⟨k1,k2⟩:=hi.low j b ‹_› hb;exact⟨Nat.lt_of_lt_of_le k1 xW.size,k2⟩
  ·exact⟨hb.2, .inr (Nat.le_trans hi.wx.size hb.1.1)⟩
def lC(L:LS)(d:Nat):Bool:=L.x.all λt=>t.pl.all λp=>!(Nat.beq p.slot d)
def aC.put(hi:aC C w0 T0 L a w Ts){d:Nat}{v:Value}{x:V}(hd:d<C.nt)(hf:lC L d=true)(hv:VR w (λ_=>none) (Sx L Ts) v x):
  aC C w0 T0 ⟨cA L.f d x,L.x⟩ (a.put (some d) v) w Ts:=by
 have uW:∀j (h:j<L.x.length),∀p∈L.x[j].pl,(a.put (some d) v).tmps.getD p.slot undef=a.tmps.getD p.slot undef:=λj h p hp=>by
  have:=List.all_eq_true.1 (List.all_eq_true.1 hf _ (List.getElem_mem h)) p hp;rw[uC _ _ _ (by rw[hi.size];exact hd),if_neg];intro e;rw[e,Nat.beq_refl]at this;cases this
 refine⟨hi.wx,hi.frame,λi=>?_,λj hj=>?_,hi.apart,hi.low,by simp[Act.put,hi.size],hi.defers,hi.glob⟩
 ·rw[uC _ _ _ (by rw[hi.size];exact hd)];show VR w _ _ _ (cA L.f d x i)
  by_cases h:i=d
  ·subst h;rw[if_pos rfl,qA];exact hv
  ·rw[if_neg h,jA _ _ _ _ h];exact hi.froz i
 ·obtain⟨us,k1,k2⟩:=hi.held j hj;refine⟨us,k1,λp hp=>?_⟩;obtain⟨e1,e2,e3⟩:=k2 p hp;exact⟨e1,e2,by rw[uW j hj p hp];exact e3⟩
def zcx(hi:aC C w0 T0 L a w Ts){g:Nat}{t:LT}(hg:L.x[g]?=some t){off n:Nat}(hn:off+n≤t.ds.length){es:List V}(QW:es.length=n)
  (hs:∀j (hj:j<n) (h:j<es.length),tD (t.ds[off+j]'(by omega)) es[j]):
  ∃us T',us.length=t.ds.length∧BB w T' ((us.drop off).take n) es∧(∀p∈t.pl,gG a w (Sx L Ts) us p)∧(∀b,T' b→T0 b∨w0.heap.size≤b)∧
   ∀w' es',Wx w w'→es'.length=n→(∀b,b<w.heap.size→¬T' b→w'.heap[b]?=w.heap[b]?)→BB w' (λb=>T' b∨w.heap.size≤b) ((us.drop off).take n) es'→
    ∃Ts',aC C w0 T0 ⟨L.f,L.x.set g ⟨FB t.ds off es',t.pl⟩⟩ a w' Ts':=by
 obtain⟨nY,ht⟩:=List.getElem?_eq_some_iff.1 hg;obtain⟨us,k1,k2⟩:=hi.held g nY;rw[ht]at k1 k2;obtain⟨T',q1,q2,q3⟩:=zbz k1 hn QW hs;refine⟨us,T',k1.1,q2,k2,λb hb=>(hi.low g b nY (q1 b hb)).2,λw' es' xW v4 VV hT=>?_⟩;have DW:=(q3 w' es' xW.size v4 VV hT).bnd;let Ts':Nat→Nat→Prop:=λj b=>if j=g then(Ts g b∨w.heap.size≤b)∧b<w'.heap.size else Ts j b
 have jW:∀b,b<w.heap.size→¬Sx L Ts b→w'.heap[b]?=w.heap[b]?:=λb hb h=>VV b hb λh'=>h ⟨g,nY,q1 b h'⟩;have FV:(L.x.set g ⟨FB t.ds off es',t.pl⟩).length=L.x.length:=List.length_set
 have hS:∀b,Sx ⟨L.f,L.x.set g ⟨FB t.ds off es',t.pl⟩⟩ Ts' b→Sx L Ts b∨w.heap.size≤b:=λb ⟨j,hj,hb⟩=>by
  have dW:j<L.x.length:=by rw[←FV];exact hj
  simp only[Ts']at hb;split at hb
  ·rename_i e;subst e;exact hb.1.imp (λh=>⟨_,dW,h⟩) id
  ·exact .inl ⟨j,dW,hb⟩
 have JX:∀us p,gG a w (Sx L Ts) us p→gG a w' (Sx ⟨L.f,L.x.set g ⟨FB t.ds off es',t.pl⟩⟩ Ts') us p:=λus p ⟨e1,e2,e3⟩=>by
  refine⟨e1,e2,?_⟩;split at e3
  ·exact e3
  ·obtain⟨bb,g1,g2,g3,g4⟩:=e3;exact⟨bb,g1,Nat.lt_of_lt_of_le g2 xW.size,λh=>(hS bb h).elim g3 λh=>by omega,λj hj=>(LC (jW bb g2 g3)).trans (g4 j hj)⟩
  ·exact e3
 refine⟨Ts',hi.wx.trans xW,λb hb ho=>?_,λi=>?_,λj hj=>?_,λi j b h1 h2 h3 h4=>?_,λj b hj hb=>?_,hi.size,hi.defers,hi.glob⟩
 ·rw[←hi.frame b hb ho];refine VV b (Nat.lt_of_lt_of_le hb hi.wx.size) λh=>?_
  rcases(hi.low g b nY (q1 b h)).2 with h | h
  ·exact ho h
  ·omega
 ·exact(hi.froz i).mono (λ_ _ h=>h) (λb h hb=>jW b hb h) hS
 ·have hj:j<L.x.length:=by rw[←FV];exact hj
  show ∃us,BB w' (Ts' j) us ((L.x.set g ⟨FB t.ds off es',t.pl⟩)[j]'(by rw[FV];exact hj)).ds∧∀p∈((L.x.set g ⟨FB t.ds off es',t.pl⟩)[j]'(by rw[FV];exact hj)).pl,_
  by_cases M1:j=g
  ·subst M1;rw[List.getElem_set_self];refine⟨us,DW.keep (λ_ _ _=>rfl) λb hb _=>by simp only[Ts',if_true];exact hb,λp hp=>JX us p (k2 p hp)⟩
  ·rw[List.getElem_set_ne (λe=>M1 e.symm)];obtain⟨us2,m1,m2⟩:=hi.held j hj;refine⟨us2,m1.keep (λb hb HV=>VV b HV λh=>M1 (hi.apart j g b hj nY hb (q1 b h))) λb hb _=>by simp only[Ts',if_neg M1];exact hb,λp hp=>JX us2 p (m2 p hp)⟩
 ·have m1:i<L.x.length:=by rw[←FV];exact h1
  have m2:j<L.x.length:=by rw[←FV];exact h2
  clear h1 h2;simp only[Ts']at h3 h4;split at h3<;>split at h4
  ·omega
  ·rename_i e1 e2;subst e1
   rcases h3.1 with h | h
   ·exact hi.apart i j b m1 m2 h h4
   ·have:=(hi.low j b m2 h4).1;omega
  ·rename_i e1 e2;subst e2
   rcases h4.1 with h | h
   ·exact hi.apart i j b m1 m2 h3 h
   ·have:=(hi.low i b m1 h3).1;omega
  ·exact hi.apart i j b m1 m2 h3 h4
 ·have dW:j<L.x.length:=by rw[←FV];exact hj
  simp only[Ts']at hb;split at hb
  ·rename_i e;subst e;refine⟨hb.2,?_⟩
   rcases hb.1 with h | h
   ·exact(hi.low j b dW h).2
   ·exact .inr (Nat.le_trans hi.wx.size h)
  ·obtain⟨m1,m2⟩:=hi.low j b dW hb;exact⟨Nat.lt_of_lt_of_le m1 xW.size,m2⟩
omit [aA]in
def bS{P:Program}{T:TypeId}{ag:Bool}{n b o:Nat}{c:Nat→Value}(h1:xC P T=some ag)(h2:oC P T=some n)(hn:0<n)(hc:∀j,j<n→w.cell? (gA b (o+j))=some (c j)):
  (loadVar T (gA b o)).run P w= .ok (bif ag then .agg ((List.range n).map c).toArray else c 0) w:=by
 cases ag with
 | true=>
  have IV:∀j,j<n→w.cell? ((gA b o).add j)=some (c j):=λj hj=>by rw[TC];exact hc j hj
  simp only[loadVar,Sem.run_bind,mG h1,Result.andThen_ok,Sem.run_ite,if_true,ME h2,run_loadCells w _ n _ IV,Sem.run_pure,cond_true]
 | false=>
  have h3:=hc 0 hn;rw[Nat.add_zero]at h3;simp only[loadVar,Sem.run_bind,mG h1,Result.andThen_ok,Sem.run_ite,Bool.false_eq_true,if_false,run_load,h3,cond_false]
def BN(t:TN):List V→Option (List (El t))
 | [.sl t' l]=>if e:t'=t then some (TN.cast e l)else none
 | _=>none
def MT(ty:gF)(ag:Bool)(cs:List V):Option ty.T:=match ty with
 | .sl t=>gd ag none (BN t cs)
 | .st t=>gd ag (vB t cs) none
omit [aA]in
def zdO{t:TN}{cs:List V}{x:List (El t)}(h:BN t cs=some x):cs=[.sl t x]:=by
 unfold BN at h;split at h
 ·split at h
  case isFalse=>cases h
  rename_i e;subst e;cases h;rfl
 ·cases h
omit [aA]in
def zdx{ty:gF}{ag:Bool}{cs:List V}{x:ty.T}(h:MT ty ag cs=some x):ag=ty.agg∧(ty.enc x).length=cs.length∧(∀j (hj:j<cs.length) (kW:j<(ty.enc x).length),tD cs[j] (ty.enc x)[j])∧(ag=false→cs.length=1):=by
 cases ty with
 | sl t=>
  cases ag with
  | true=>cases h
  | false=>
   have h:BN t cs=some x:=h;obtain rfl:=zdO h;refine⟨rfl,rfl,λj hj kW=>?_,λ_=>rfl⟩;have:j=0:=by simpa using hj
   subst this;exact .refl _
 | st t=>
  cases ag with
  | false=>cases h
  | true=>
   have:=wC t (show vB t cs=some x from h);exact⟨rfl,this.len.symm,λj hj kW=>this.get j hj kW,λh=>by cases h⟩
section
variable (C:Cx) (M:Nat→Option nC)
def MK(g:Nat)(t:LT)(off n:Nat)(ag:Bool)(tx:Nat)(f1:Nat→V)(o2 o3 o4:Oper)(L:LS)(K:LS→Option R):Option R:=
 match o2,o3,o4 with
 | ⟨some tk, .move (.tmp kk),_,_,_,none⟩,⟨some tr, .call {callee:= .value (.func f),args,argTypes:=_},_,_,_,none⟩,⟨some tc, .assign (.tmp tr'),_,_,_,none⟩=>
  match args.toList,f1 kk,M f with
  | [.tmp tx', .tmp tk'], .int .i64 k,some ki=>
   gd (Nat.beq tx tx'&&Nat.beq tk tk'&&Nat.beq tr tr'&&!(Nat.beq tx tk)&&Nat.blt tk C.nt&&Nat.blt tr C.nt&&Nat.blt tc C.nt&&lC L tk&&lC L tr&&lC L tc&&Nat.ble (off+n) t.ds.length) (
    bnd (MT ki.ty ag ((t.ds.drop off).take n)) λx=>Option.bind (ki.F x k) λr=>
     gd (Nat.beq (ki.ty.enc r.1).length n) (K ⟨cA (cA (cA f1 tk .undef) tr (.int .i64 r.2)) tc (.int .i64 r.2),L.x.set g ⟨FB t.ds off (ki.ty.enc r.1),t.pl⟩⟩) none) none
  | _,_,_=>none
 | _,_,_=>none
def uP(ops:Array Oper)(L:LS)(K:LS→Option R):Option R:=
 match ops.toList with
 | [⟨some tx, .load T (.tmp tb),_,_,_,none⟩,o2,o3,o4]=>
  match aF 0 L.x tb,xC C.P T,oC C.P T with
  | some (g,t,p),some ag,some n=>gd (Nat.beq p.k 1&&Nat.beq n p.n&&Nat.blt tx C.nt&&lC L tx) (MK C M g t p.off n ag tx (cA L.f tx .undef) o2 o3 o4 L K) none
  | _,_,_=>none
 | [⟨some tx, .move (.tmp ts),_,_,_,none⟩,o2,o3,o4]=>
  match aF 0 L.x ts with
  | some (g,t,p)=>gd (Nat.beq p.k 0&&Nat.blt tx C.nt&&lC L tx) (MK C M g t p.off 1 false tx (cA L.f tx .undef) o2 o3 o4 L K) none
  | _=>none
 | [⟨some tp, .fieldAddr T0 (.tmp tb) fi,_,_,_,none⟩,⟨some tx, .load T (.tmp tp'),_,_,_,none⟩,o2,o3,o4]=>
  match aF 0 L.x tb,bH C.P T0 fi,xC C.P T,oC C.P T with
  | some (g,t,p),some (fo,ft),some ag,some n=>match oC C.P ft with
   | some (_+1)=>gd (Nat.beq p.k 1&&Nat.beq tp tp'&&Nat.ble (fo+n) p.n&&Nat.blt 0 n&&Nat.blt tx C.nt&&Nat.blt tp C.nt&&lC L tx&&lC L tp) (
     MK C M g t (p.off+fo) n ag tx (cA (cA L.f tp .undef) tx .undef) o2 o3 o4 L K) none
   | _=>none
  | _,_,_,_=>none
 | _=>none
end
def zO{M:Nat→Option nC}(hM:XC C.P M C.g){ops:Array Oper}{Q:Exit→Act→World→Prop}{i2 i3 i4:Nat}{o2 o3 o4:Oper}(h2:ops[i2]?=some o2)(h3:ops[i3]?=some o3)(h4:ops[i4]?=some o4)
  {g:Nat} {t:LT} {off n:Nat} {ag:Bool} {tx:Nat} {f1:Nat→V} {K:LS→Option R} {r:R} (hx:L.x[g]?=some t) (hi:aC C w0 T0 ⟨f1,L.x⟩ a w Ts) (htx:tx<C.nt)
  (hv:∀us:List Value,us.length=t.ds.length→(∀p∈t.pl,gG a w (Sx ⟨f1,L.x⟩ Ts) us p)→a.tmps.getD tx undef=bif ag then .agg ((us.drop off).take n).toArray else us.getD off undef)
  (hk:MK C M g t off n ag tx f1 o2 o3 o4 L K=some r)
  (CV:∀L' a' w' Ts',aC C w0 T0 L' a' w' Ts'→K L'=some r→Q .normal a' w'):wpOps C.P ops Q [i2,i3,i4] a w:=by
 unfold MK at hk;split at hk
 case h_2=>cases hk
 rename_i tk kk ty2 ps2 af2 tr f args aty ty3 ps3 af3 tc tr' ty4 ps4 af4;split at hk
 case h_2=>cases hk
 rename_i tx' tk' k ki bW oX t7;cases hb:(Nat.beq tx tx'&&Nat.beq tk tk'&&Nat.beq tr tr'&&!(Nat.beq tx tk)&&Nat.blt tk C.nt&&Nat.blt tr C.nt&&Nat.blt tc C.nt&&lC L tk&&lC L tr&&lC L tc&&Nat.ble (off+n) t.ds.length)
 case false=>simp[hb]at hk
 simp only[hb,gB]at hk;simp only[Bool.and_eq_true,Bool.not_eq_true',Nat.blt_eq]at hb;obtain⟨⟨⟨⟨⟨⟨⟨⟨⟨⟨b1,b2⟩,b3⟩,b4⟩,b5⟩,b6⟩,b7⟩,b8⟩,b9⟩,b10⟩,b11⟩:=hb;obtain rfl:=Nat.eq_of_beq_eq_true b1;obtain rfl:=Nat.eq_of_beq_eq_true b2;obtain rfl:=Nat.eq_of_beq_eq_true b3;have WV:=Nat.le_of_ble_eq_true b11;have o7:tx≠tk:=λe=>by rw[e,Nat.beq_refl]at b4;cases b4
 rw[fE]at hk;obtain⟨x,z7,hk⟩:=Option.bind_eq_some_iff.1 hk;obtain⟨r1,hF,hk⟩:=Option.bind_eq_some_iff.1 hk;cases mY:Nat.beq (ki.ty.enc r1.1).length n
 case false=>rw[mY]at hk;cases hk
 rw[mY]at hk;simp only[gB]at hk;have mY:=Nat.eq_of_beq_eq_true mY;obtain⟨d1,d2,d3,d4⟩:=zdx z7;have uZ:((t.ds.drop off).take n).length=n:=by simp;omega
 obtain⟨us,T',u1,u2,u3,u4,u5⟩:=zcx hi hx (off:=off) (n:=n) WV (es:=ki.ty.enc x) (by omega) (λj hj h=>by
  have:=d3 j (by omega) h;rwa [List.getElem_take,List.getElem_drop]at this)
 have BW:=hv us u1 u3
 have CZ:a.tmps.getD kk undef= .int .i64 k∧LB .i64 k:=by
  have h:=hi.froz kk;have h:VR w (λ_=>none) (Sx ⟨f1,L.x⟩ Ts) (a.tmps.getD kk undef) (.int .i64 k):=by rw[←oX];exact h
  generalize a.tmps.getD kk undef=v at h;cases h with | int _ _ h=>exact⟨rfl,h⟩
 have JV:=hi.size;obtain⟨v0,tW⟩:∃v0,a.tmps.getD tx undef=v0:=⟨_,rfl⟩;refine bE h2 rfl (ZA (v:= .int .i64 k) (w':=w) (post:=λa' w'=>a'=a.put (some tk) (.int .i64 k)∧w'=w) ?_ ⟨rfl,rfl⟩ _ _ λa2 w2 ⟨ea,ew⟩=>?_)
 ·have:a.eval (.tmp kk)= .int .i64 k:=CZ.1;simp[execOp,this]
 subst ea ew;have EW:aC C w0 T0 ⟨cA f1 tk .undef,L.x⟩ (a.put (some tk) (.int .i64 k)) w2 Ts:=hi.put b5 b8 (.undef _)
 have g1:(a.put (some tk) (.int .i64 k)).eval (.tmp tx)=a.tmps.getD tx undef:=by
  show(a.put (some tk) (.int .i64 k)).tmps.getD tx undef=_
  rw[uC _ _ _ (by rw[JV];exact b5),if_neg o7]
 have g2:(a.put (some tk) (.int .i64 k)).eval (.tmp tk)= .int .i64 k:=by
  show(a.put (some tk) (.int .i64 k)).tmps.getD tk undef=_
  rw[uC _ _ _ (by rw[JV];exact b5),if_pos rfl]
 have NV:(execOp (a.put (some tk) (.int .i64 k)).eval ⟨some tr, .call {callee:= .value (.func f),args,argTypes:=aty},ty3,ps3,af3,none⟩).run C.P w2=(callFunc f #[v0, .int .i64 k]).run C.P w2:=by
  have hm:args.map (a.put (some tk) (.int .i64 k)).eval= #[v0, .int .i64 k]:=by
   apply Array.toList_inj.1;rw[Array.toList_map,bW];show[(a.put (some tk) (.int .i64 k)).eval (.tmp tx),(a.put (some tk) (.int .i64 k)).eval (.tmp tk)]=_
   rw[g1,g2,tW]
  simp[execOp,resolve,Deferred.ofValue,Act.eval,invoke];rw[show(args.map (a.put (some tk) (.int .i64 k)).eval)= #[v0, .int .i64 k]from hm]
 have hG:=hM f _ t7 w2 ((us.drop off).take n) v0 x k r1 T' (by
  rw[←tW,BW,d1];cases cW:ki.ty.agg with
  | true=>rfl
  | false=>
   have:n=1:=by have:=d4 (d1.trans cW);omega
   subst this;show us.getD off undef=((us.drop off).take 1).getD 0 undef
   rw[wM undef (by omega),Nat.add_zero]) u2 CZ.2 hF (hi.globW u4)
 have qW:∀v w',(v= .int .i64 r1.2∧LB .i64 r1.2∧Wx w2 w'∧(∀b,b<w2.heap.size→¬T' b→w'.heap[b]?=w2.heap[b]?)∧BB w' (λb=>T' b∨w2.heap.size≤b) ((us.drop off).take n) (ki.ty.enc r1.1))→
   wpOps C.P ops Q [i4] ((a.put (some tk) (.int .i64 k)).put (some tr) v) w':=by
  rintro v w' ⟨rfl,NZ,xW,VV,hT⟩;obtain⟨Ts1,R1⟩:=u5 w' (ki.ty.enc r1.1) xW mY VV hT
  have VX:∀(L2:LS) d,L2.x=L.x.set g ⟨FB t.ds off (ki.ty.enc r1.1),t.pl⟩→lC L d=true→lC L2 d=true:=λL2 d hL2 h=>by
   unfold lC at h⊢;rw[hL2,List.all_eq_true];intro t2 fZ;obtain⟨nY,iG⟩:=List.getElem?_eq_some_iff.1 hx
   rcases List.mem_or_eq_of_mem_set fZ with h5 | h5
   ·exact List.all_eq_true.1 h t2 h5
   ·subst h5;have:=List.all_eq_true.1 h t (by rw[←iG];exact List.getElem_mem nY);exact this
  have GZ:=R1.put (v:= .int .i64 k) (x:= .undef) b5 (VX _ tk rfl b8) (.undef _);have WZ:=GZ.put (v:= .int .i64 r1.2) (x:= .int .i64 r1.2) b6 (VX _ tr rfl b9) (.int _ _ NZ);have hi6:=WZ.put (v:= .int .i64 r1.2) (x:= .int .i64 r1.2) b7 (VX _ tc rfl b10) (.int _ _ NZ);refine bE h4 rfl (ZA (v:= .int .i64 r1.2) (w':=w') (post:=λa' w2=>a'=((a.put (some tk) (.int .i64 k)).put (some tr) (.int .i64 r1.2)).put (some tc) (.int .i64 r1.2)∧w2=w') ?_ ⟨rfl,rfl⟩ _ _ λa5 w5 ⟨ea,ew⟩=>?_)
  ·have:((a.put (some tk) (.int .i64 k)).put (some tr) (.int .i64 r1.2)).eval (.tmp tr)= .int .i64 r1.2:=by
    show((a.put (some tk) (.int .i64 k)).put (some tr) (.int .i64 r1.2)).tmps.getD tr undef=_
    rw[uC _ _ _ (by simp[Act.put,JV];exact b6),if_pos rfl]
   simp[execOp,this]
  subst ea ew;exact CV _ _ _ _ hi6 hk
 refine bE h3 rfl ?_;unfold Oper.wp;rw[NV]
 rcases hG with⟨h5,h6⟩ | ⟨v,w',h5,h6⟩
 ·rw[h5,Oper.upon_enter];refine Calls.mono' h6 λex w' hp=>?_;obtain⟨v,rfl,hp⟩:=hp;exact qW v w' hp
 ·rw[h5,Oper.upon_value];exact qW v w' h6
omit [aA]in
def HQ{us:List Value}{off n:Nat}(h:off+n≤us.length):(us.drop off).take n=(List.range n).map λj=>us.getD (off+j) undef:=by
 apply List.ext_getElem
 ·simp;omega
 ·intro j h1 h2;have hj:j<n:=by simpa using h2
  rw[List.getElem_take,List.getElem_drop,List.getElem_map,List.getElem_range,ED _ _ _ (by omega)]
omit [aA]in
def zbt{P:Program}{o:Oper}{t:TypeId}{x:Operand}{f:Nat}{ev:Operand→Value}{off n b p:Nat}{ft:TypeId}(ho:o.op= .fieldAddr t x f)(hf:bH P t f=some (off,ft))(JV:oC P ft=some (n+1))
  (hx:ev x= .pointer (some (gA b p))):(execOp ev o).run P w= .ok (.value (.pointer (some (gA b (p+off))))) w:=by
 unfold bH at hf;split at hf
 case h_2=>cases hf
 rename_i fs hu;split at hf
 case h_2=>cases hf
 rename_i fld UY;cases hf;simp[execOp,ho,hx,Instr.fieldAt,ZC hu,UY,Instr.sureAddr,fieldPlace,ME JV,TC]
omit [aA]in
def eK{d:Nat}(hf:lC L d=true){g:Nat}{t:LT}{p:LP}(hg:L.x[g]?=some t)(hp:p∈t.pl):p.slot≠d:=λe=>by
 obtain⟨h1,h2⟩:=List.getElem?_eq_some_iff.1 hg;have:=List.all_eq_true.1 (List.all_eq_true.1 hf t (by rw[←h2];exact List.getElem_mem h1)) p hp;rw[e,Nat.beq_refl]at this;cases this
def zbZ{M:Nat→Option nC}(hM:XC C.P M C.g){ops:Array Oper}{Q:Exit→Act→World→Prop}{K:LS→Option R}{r:R}(hi:aC C w0 T0 L a w Ts)(hk:uP C M ops L K=some r)
  (CV:∀L' a' w' Ts',aC C w0 T0 L' a' w' Ts'→K L'=some r→Q .normal a' w'):wpOps C.P ops Q (List.range' 0 ops.size) a w:=by
 have at?:∀(l:List Oper),ops.toList=l→∀i,ops[i]?=l[i]?:=λl h i=>by rw[←h,Array.getElem?_toList]
 have size:∀(l:List Oper),ops.toList=l→ops.size=l.length:=λl h=>by rw[←h,Array.length_toList]
 -- a part in a variable
 have box:∀{g:Nat} {t:LT} {p:LP} {tb:Nat},aF 0 L.x tb=some (g,t,p)→p.k=1→L.x[g]?=some t∧p∈t.pl∧p.slot=tb∧∃(us:List Value) (bb:Nat),us.length=t.ds.length∧a.tmps.getD tb undef= .pointer (some (gA bb 0))∧p.off+p.n≤us.length∧0<p.n∧
   ∀j,j<p.n→w.cell? (gA bb j)=some (us.getD (p.off+j) undef):=λ{g t p tb} hf TZ=>by
  obtain⟨_,e1,e2,e3⟩:=jK hf;obtain⟨h1,h2⟩:=List.getElem?_eq_some_iff.1 e1;obtain⟨us,k1,k2⟩:=hi.held _ h1;rw[h2]at k1 k2;obtain⟨m1,m2,m3⟩:=k2 p e2;rw[TZ]at m3;obtain⟨bb,q1,_,_,q4⟩:=m3;exact⟨e1,e2,e3,us,bb,k1.1,by rw[←e3];exact q1,m1,m2,q4⟩
 have same:∀{us us':List Value} {n off bb:Nat} {N:Nat} {o:Nat},(∀j,j<N→w.cell? (gA bb j)=some (us.getD (o+j) undef))→(∀j,j<N→w.cell? (gA bb j)=some (us'.getD (o+j) undef))→off+n≤N→∀j,j<n→us.getD (o+off+j) undef=us'.getD (o+off+j) undef:=λ{us us' n off bb N o} h1 h2 h3 j hj=>by
  have e1:=h1 (off+j) (by omega);have e2:=h2 (off+j) (by omega);rw[e1]at e2;rw[Nat.add_assoc];exact Option.some.inj e2
 unfold uP at hk;split at hk
 ·rename_i tx T tb ty1 ps1 af1 o2 o3 o4 lW;split at hk
  case h_2=>cases hk
  rename_i g t p ag n kY cW JV;cases hb:(Nat.beq p.k 1&&Nat.beq n p.n&&Nat.blt tx C.nt&&lC L tx)
  case false=>simp[hb]at hk
  simp only[hb,gB]at hk;simp only[Bool.and_eq_true,Nat.blt_eq]at hb;obtain⟨⟨⟨b1,b2⟩,b3⟩,b4⟩:=hb;obtain rfl:=Nat.eq_of_beq_eq_true b2;obtain⟨e1,e2,e3,us,bb,f1,f2,f3,f4,f5⟩:=box kY (Nat.eq_of_beq_eq_true b1);rw[size _ lW];show wpOps C.P ops Q [0,1,2,3] a w
  have UX:=bS (P:=C.P) (w:=w) (b:=bb) (o:=0) (c:=λj=>us.getD (p.off+j) undef) cW JV f4 λj hj=>by rw[Nat.zero_add];exact f5 j hj
  refine bE (at? _ lW 0) rfl (ZA (v:=bif ag then .agg ((List.range p.n).map λj=>us.getD (p.off+j) undef).toArray else us.getD p.off undef) (w':=w)
   (post:=λa' w'=>a'=a.put (some tx) (bif ag then .agg ((List.range p.n).map λj=>us.getD (p.off+j) undef).toArray else us.getD p.off undef)∧w'=w) ?_ ⟨rfl,rfl⟩ _ _ λa1 w1 ⟨ea,ew⟩=>?_)
  ·have:a.eval (.tmp tb)= .pointer (some (gA bb 0)):=f2;simp[execOp,this,Instr.loadAt,Instr.sureAddr,UX]
  subst ea ew;have uW:tb≠tx:=by rw[←e3];exact eK b4 e1 e2
  refine zO hM (at? _ lW 1) (at? _ lW 2) (at? _ lW 3) e1 (hi.put b3 b4 (.undef _)) b3 (λus' hl hp=>?_) hk CV;obtain⟨m1,_,m3⟩:=hp p e2;rw[Nat.eq_of_beq_eq_true b1]at m3;obtain⟨bb',q1,_,_,q4⟩:=m3
  have pZ:bb'=bb:=by
   rw[e3,uC _ _ _ (by rw[hi.size];exact b3),if_neg uW,f2]at q1;injection q1 with h;injection h with h;exact(congrArg Addr.block h).symm
  subst pZ;rw[uC _ _ _ (by rw[hi.size];exact b3),if_pos rfl];have jW:=same f5 q4 (off:=0) (n:=p.n) (by omega);cases ag with
  | true=>
   simp only[cond_true];rw[HQ m1];congr 2;exact List.map_congr_left λj hj=>by have:=jW j (by simpa using hj);simpa using this
  | false=>have:=jW 0 f4;simpa using this
 ·rename_i tx ts ty1 ps1 af1 o2 o3 o4 lW;split at hk
  case h_2=>cases hk
  rename_i g t p kY;cases hb:(Nat.beq p.k 0&&Nat.blt tx C.nt&&lC L tx)
  case false=>simp[hb]at hk
  simp only[hb,gB]at hk;simp only[Bool.and_eq_true,Nat.blt_eq]at hb;obtain⟨⟨b1,b3⟩,b4⟩:=hb;obtain⟨_,e1,e2,e3⟩:=jK kY;rw[size _ lW];show wpOps C.P ops Q [0,1,2,3] a w
  refine bE (at? _ lW 0) rfl (ZA (v:=a.tmps.getD ts undef) (w':=w) (post:=λa' w'=>a'=a.put (some tx) (a.tmps.getD ts undef)∧w'=w) ?_ ⟨rfl,rfl⟩ _ _ λa1 w1 ⟨ea,ew⟩=>?_)
  ·simp[execOp,Act.eval]
  subst ea ew;have uW:ts≠tx:=by rw[←e3];exact eK b4 e1 e2
  refine zO hM (at? _ lW 1) (at? _ lW 2) (at? _ lW 3) e1 (hi.put b3 b4 (.undef _)) b3 (λus' hl hp=>?_) hk CV;obtain⟨m1,_,m3⟩:=hp p e2;rw[Nat.eq_of_beq_eq_true b1]at m3;have m3:=m3.2;rw[e3,uC _ _ _ (by rw[hi.size];exact b3),if_neg uW]at m3;rw[uC _ _ _ (by rw[hi.size];exact b3),if_pos rfl];exact m3
 ·rename_i tp T1 tb fi ty0 ps0 af0 tx T tp' ty1 ps1 af1 o2 o3 o4 lW;split at hk
  case h_2=>cases hk
  rename_i g t p fo ft ag n kY hfo cW JV;split at hk
  case h_2=>cases hk
  rename_i m hft;cases hb:(Nat.beq p.k 1&&Nat.beq tp tp'&&Nat.ble (fo+n) p.n&&Nat.blt 0 n&&Nat.blt tx C.nt&&Nat.blt tp C.nt&&lC L tx&&lC L tp)
  case false=>simp[hb]at hk
  simp only[hb,gB]at hk;simp only[Bool.and_eq_true,Nat.blt_eq]at hb;obtain⟨⟨⟨⟨⟨⟨⟨b1,b2⟩,b3⟩,b4⟩,b5⟩,b6⟩,b7⟩,b8⟩:=hb;obtain rfl:=Nat.eq_of_beq_eq_true b2;have b3:=Nat.le_of_ble_eq_true b3;obtain⟨e1,e2,e3,us,bb,f1,f2,f3,f4,f5⟩:=box kY (Nat.eq_of_beq_eq_true b1);rw[size _ lW];show wpOps C.P ops Q [0,1,2,3,4] a w
  have UX:=bS (P:=C.P) (w:=w) (b:=bb) (o:=fo) (c:=λj=>us.getD (p.off+fo+j) undef) cW JV b4 λj hj=>by rw[Nat.add_assoc];exact f5 (fo+j) (by omega)
  refine bE (at? _ lW 0) rfl (ZA (v:= .pointer (some (gA bb (0+fo)))) (w':=w) (post:=λa' w'=>a'=a.put (some tp) (.pointer (some (gA bb (0+fo))))∧w'=w) ?_ ⟨rfl,rfl⟩ _ _ λa1 w1 ⟨ea,ew⟩=>?_)
  ·exact zbt rfl hfo hft f2
  subst ea ew;have SW:aC C w0 T0 ⟨cA L.f tp .undef,L.x⟩ (a.put (some tp) (.pointer (some (gA bb (0+fo))))) w1 Ts:=hi.put b6 b8 (.undef _);have A7:tb≠tp:=by rw[←e3];exact eK b8 e1 e2
  have B7:tb≠tx:=by rw[←e3];exact eK b7 e1 e2
  refine bE (at? _ lW 1) rfl (ZA (v:=bif ag then .agg ((List.range n).map λj=>us.getD (p.off+fo+j) undef).toArray else us.getD (p.off+fo) undef) (w':=w1)
   (post:=λa' w'=>a'=(a.put (some tp) (.pointer (some (gA bb (0+fo))))).put (some tx) (bif ag then .agg ((List.range n).map λj=>us.getD (p.off+fo+j) undef).toArray else us.getD (p.off+fo) undef)∧w'=w1) ?_ ⟨rfl,rfl⟩ _ _ λa1 w2 ⟨ea,ew⟩=>?_)
  ·have:(a.put (some tp) (.pointer (some (gA bb (0+fo))))).eval (.tmp tp)= .pointer (some (gA bb (0+fo))):=by
    show(a.put (some tp) _).tmps.getD tp undef=_
    rw[uC _ _ _ (by rw[hi.size];exact b6),if_pos rfl]
   rw[Nat.zero_add]at this;simp only[Nat.zero_add]at this⊢;simp[execOp,this,Instr.loadAt,Instr.sureAddr,UX]
  subst ea ew;refine zO hM (at? _ lW 2) (at? _ lW 3) (at? _ lW 4) e1 (SW.put b5 b7 (.undef _)) b5 (λus' hl hp=>?_) hk CV;obtain⟨m1,_,m3⟩:=hp p e2;rw[Nat.eq_of_beq_eq_true b1]at m3;obtain⟨bb',q1,_,_,q4⟩:=m3
  have pZ:bb'=bb:=by
   rw[e3,uC _ _ _ (by rw[SW.size];exact b5),if_neg B7,uC _ _ _ (by rw[hi.size];exact b6),if_neg A7,f2]at q1;injection q1 with h;injection h with h;exact(congrArg Addr.block h).symm
  subst pZ;rw[uC _ _ _ (by rw[SW.size];exact b5),if_pos rfl];have jW:=same f5 q4 (off:=fo) (n:=n) b3;cases ag with
  | true=>
   simp only[cond_true];rw[HQ (by omega)];congr 2;exact List.map_congr_left λj hj=>jW j (by simpa using hj)
  | false=>have:=jW 0 b4;simpa using this
 ·cases hk
section
variable (C:Cx) (M:Nat→Option nC)
def JP(ops:Array Oper)(L:LS)(K:LS→Option R):Option R:=
 match ops.toList with
 | [⟨some tb, .box _ (.tmp ts),_,_,_,none⟩,⟨some tc, .assign (.const v),_,_,_,none⟩]=>
  match aF 0 L.x ts with
  | some (g,t,p)=>gd (Nat.beq p.k 2&&Nat.blt tb C.nt&&Nat.blt tc C.nt&&lC L tb&&lC L tc&&!(Nat.beq tb tc)) (
    K ⟨cA (cA L.f tb .undef) tc (eG v),L.x.set g ⟨t.ds,⟨tb,1,p.off,p.n⟩ :: t.pl⟩⟩) none
  | _=>none
 | _=>none
noncomputable def mP(md:List (Nat×Nat))(tr:List (Nat×List (Nat×Bool)))(fz:List (Nat×List Nat))(c:Code)(L:LS)(K:Ex→LS→Option R):Option R:=
 match lF c with
 | none=>none
 | some id=>match JA id md with
  | some k=>match c with
   | .region _ ops false=>gd (Nat.beq k 1) (uP C M ops L (K .normal)) (JP C ops L (K .normal))
   | _=>none
  | none=>PC C QP c (XF L) λe st=>iP (DF c) ((JA id tr).getD []) ((JA id fz).getD []) L st (K e)
noncomputable def OK(md:List (Nat×Nat))(tr:List (Nat×List (Nat×Bool)))(fz:List (Nat×List Nat)):Code→LS→(Ex→LS→Option R)→Option R
 | .seq c rest,L,K=>mP C M md tr fz c L λe L'=>match e with
  | .normal=>OK md tr fz rest L' K
  | e=>K e L'
 | .ret,L,K=>K .ret L
 | _,_,_=>none
end
def zdy{ops:Array Oper}{Q:Exit→Act→World→Prop}{K:LS→Option R}{r:R}(hi:aC C w0 T0 L a w Ts)(hk:JP C ops L K=some r)
  (CV:∀L' a' w' Ts',aC C w0 T0 L' a' w' Ts'→K L'=some r→Q .normal a' w'):wpOps C.P ops Q (List.range' 0 ops.size) a w:=by
 have at?:∀(l:List Oper),ops.toList=l→∀i,ops[i]?=l[i]?:=λl h i=>by rw[←h,Array.getElem?_toList]
 have size:∀(l:List Oper),ops.toList=l→ops.size=l.length:=λl h=>by rw[←h,Array.length_toList]
 unfold JP at hk;split at hk
 case h_2=>cases hk
 rename_i tb e ts ty1 ps1 af1 tc v ty2 ps2 af2 lW;split at hk
 case h_2=>cases hk
 rename_i g t p kY;cases hb:(Nat.beq p.k 2&&Nat.blt tb C.nt&&Nat.blt tc C.nt&&lC L tb&&lC L tc&&!(Nat.beq tb tc))
 case false=>simp[hb]at hk
 simp only[hb,gB]at hk;simp only[Bool.and_eq_true,Nat.blt_eq,Bool.not_eq_true']at hb;obtain⟨⟨⟨⟨⟨b1,b2⟩,b3⟩,b4⟩,b5⟩,b6⟩:=hb;have hbc:tb≠tc:=λe=>by rw[e,Nat.beq_refl]at b6;cases b6
 obtain⟨_,e1,e2,e3⟩:=jK kY;have e1:L.x[g]?=some t:=e1;obtain⟨nY,iG⟩:=List.getElem?_eq_some_iff.1 e1;obtain⟨us,k1,k2⟩:=hi.held g nY;rw[iG]at k1 k2;obtain⟨m1,m2,m3⟩:=k2 p e2;rw[Nat.eq_of_beq_eq_true b1,e3]at m3;have m3:a.tmps.getD ts undef= .agg ((us.drop p.off).take p.n).toArray:=m3;rw[size _ lW];show wpOps C.P ops Q [0,1] a w
 have UV:∀(o:Obj) j,j<w.heap.size→(w.alloc o).heap[j]?=w.heap[j]?:=λo j hj=>GF w o j hj;have JV:∀o:Obj,(w.alloc o).heap.size=w.heap.size+1:=λo=>by simp
 refine bE (at? _ lW 0) rfl (ZA (v:= .pointer (some (gA w.heap.size 0))) (w':=w.alloc (.cells ((us.drop p.off).take p.n).toArray e)) (post:=λa' w'=>a'=a.put (some tb) (.pointer (some (gA w.heap.size 0)))∧w'=w.alloc (.cells ((us.drop p.off).take p.n).toArray e)) ?_ ⟨rfl,rfl⟩ _ _ λa1 w1 ⟨ea,ew⟩=>?_)
 ·have:a.eval (.tmp ts)= .agg ((us.drop p.off).take p.n).toArray:=m3;simp[execOp,this,Instr.box,newVar,newRow,Value.cells,gA]
 subst ea ew
 -- memory has one block more
 have FV:∀(t':LT),(L.x.set g t').length=L.x.length:=λt'=>List.length_set;have K8:∀b,Sx ⟨L.f,L.x.set g ⟨t.ds,⟨tb,1,p.off,p.n⟩ :: t.pl⟩⟩ Ts b→Sx L Ts b:=λb ⟨j,hj,hb⟩=>⟨j,by rw[←FV];exact hj,hb⟩
 have I1:∀j (h:j<L.x.length),∀q∈L.x[j].pl,(a.put (some tb) (.pointer (some (gA w.heap.size 0)))).tmps.getD q.slot undef=a.tmps.getD q.slot undef:=λj h q hq=>by
  rw[uC _ _ _ (by rw[hi.size];exact b2),if_neg];exact eK b4 (List.getElem?_eq_getElem h) hq
 have JX:∀us' j (h:j<L.x.length),∀q∈L.x[j].pl,gG a w (Sx L Ts) us' q→gG (a.put (some tb) (.pointer (some (gA w.heap.size 0)))) (w.alloc (.cells ((us.drop p.off).take p.n).toArray e)) (Sx ⟨L.f,L.x.set g ⟨t.ds,⟨tb,1,p.off,p.n⟩ :: t.pl⟩⟩ Ts) us' q:=λus' j h q hq ⟨q1,q2,q3⟩=>by
  refine⟨q1,q2,?_⟩;rw[I1 j h q hq];split at q3
  ·exact q3
  ·obtain⟨bb,g1,g2,g3,g4⟩:=q3;exact⟨bb,g1,by rw[JV];omega,λh=>g3 (K8 bb h),λj hj=>(LC (UV _ bb g2)).trans (g4 j hj)⟩
  ·exact q3
 have SW:aC C w0 T0 ⟨cA L.f tb .undef,L.x.set g ⟨t.ds,⟨tb,1,p.off,p.n⟩ :: t.pl⟩⟩ (a.put (some tb) (.pointer (some (gA w.heap.size 0)))) (w.alloc (.cells ((us.drop p.off).take p.n).toArray e)) Ts:=by
  refine⟨hi.wx.trans (fJ _ _),λb hb ho=>(UV _ b (Nat.lt_of_lt_of_le hb hi.wx.size)).trans (hi.frame b hb ho),λi=>?_,λj hj=>?_,λi j b h1 h2 h3 h4=>hi.apart i j b (by rw[←FV];exact h1) (by rw[←FV];exact h2) h3 h4,
   λj b hj hb=>?_,by simp[Act.put,hi.size],hi.defers,hi.glob⟩
  ·rw[uC _ _ _ (by rw[hi.size];exact b2)];show VR _ _ _ _ (cA L.f tb .undef i)
   by_cases h:i=tb
   ·subst h;rw[qA];exact .undef _
   ·rw[if_neg h,jA _ _ _ _ h];exact(hi.froz i).mono (λ_ _ h=>h) (λb _ hb=>UV _ b hb) λb hb=> .inl (K8 b hb)
  ·have dW:j<L.x.length:=by rw[←FV];exact hj
   show ∃us',BB _ (Ts j) us' ((L.x.set g ⟨t.ds,⟨tb,1,p.off,p.n⟩ :: t.pl⟩)[j]'(by rw[FV];exact dW)).ds∧∀q∈((L.x.set g ⟨t.ds,⟨tb,1,p.off,p.n⟩ :: t.pl⟩)[j]'(by rw[FV];exact dW)).pl,_
   by_cases M1:j=g
   ·subst M1;rw[List.getElem_set_self];refine⟨us,k1.keep (λb _ hb=>UV _ b hb) λ_ h _=>h,λq hq=>?_⟩
    rcases List.mem_cons.1 hq with rfl | hq
    ·refine⟨m1,m2,w.heap.size,?_,by rw[JV];omega,λ⟨j',kW,YV⟩=>?_,λi TV=>?_⟩
     ·rw[uC _ _ _ (by rw[hi.size];exact b2),if_pos rfl]
     ·have:=(hi.low j' _ (by rw[←FV];exact kW) YV).1;omega
     ·have TV:i<p.n:=TV;rw[gA,World.cell?_alloc_new];show(((us.drop p.off).take p.n).toArray)[i]?=some (us.getD (p.off+i) undef)
      rw[List.getElem?_toArray, ←wM (n:=p.n) undef TV,List.getD_eq_getElem?_getD,List.getElem?_eq_getElem (by simp;omega)];rfl
    ·exact JX us j dW q (by rw[iG];exact hq) (k2 q hq)
   ·rw[List.getElem_set_ne (λe=>M1 e.symm)];obtain⟨us2,n1,n2⟩:=hi.held j dW;exact⟨us2,n1.keep (λb _ hb=>UV _ b hb) λ_ h _=>h,λq hq=>JX us2 j dW q hq (n2 q hq)⟩
  ·obtain⟨n1,n2⟩:=hi.low j b (by rw[←FV];exact hj) hb;exact⟨by rw[JV];omega,n2⟩
 have VX:lC ⟨cA L.f tb .undef,L.x.set g ⟨t.ds,⟨tb,1,p.off,p.n⟩ :: t.pl⟩⟩ tc=true:=by
  unfold lC at b5⊢;rw[List.all_eq_true];intro t2 fZ
  rcases List.mem_or_eq_of_mem_set fZ with h5 | h5
  ·exact List.all_eq_true.1 b5 t2 h5
  ·subst h5;simp only[List.all_cons,Bool.and_eq_true];refine⟨by simpa using b6,List.all_eq_true.1 b5 t (by rw[←iG];exact List.getElem_mem nY)⟩
 have EW:=SW.put (v:=v) (x:=eG v) b3 VX (kJ v);refine bE (at? _ lW 1) rfl (ZA (v:=v) (w':=w.alloc (.cells ((us.drop p.off).take p.n).toArray e)) (post:=λa' w'=>a'=(a.put (some tb) (.pointer (some (gA w.heap.size 0)))).put (some tc) v∧w'=w.alloc (.cells ((us.drop p.off).take p.n).toArray e)) ?_ ⟨rfl,rfl⟩ _ _ λa2 w2 ⟨ea,ew⟩=>?_)
 ·simp[execOp,Act.eval]
 subst ea ew;exact CV _ _ _ _ EW hk
def xS(hC:EC C)(hΦ:JC C){M:Nat→Option nC}(hM:XC C.P M C.g){md:List (Nat×Nat)}{tr:List (Nat×List (Nat×Bool))}{fz:List (Nat×List Nat)}{r:R}{Q:Exit→Act→World→Prop}:
  ∀(c:Code) (L:LS) (a:Act) (w:World) (Ts:Nat→Nat→Prop) (K:Ex→LS→Option R),aC C w0 T0 L a w Ts→OK C M md tr fz c L K=some r→
   (∀ex L' a' w' Ts',aC C w0 T0 L' a' w' Ts'→K ex L'=some r→Q (EE ex) a' w')→c.wp C.P Q a w:=by
 have piece:∀(c:Code) (L:LS) (a:Act) (w:World) (Ts:Nat→Nat→Prop) (K:Ex→LS→Option R) (Q:Exit→Act→World→Prop),aC C w0 T0 L a w Ts→mP C M md tr fz c L K=some r→
   (∀ex L' a' w' Ts',aC C w0 T0 L' a' w' Ts'→K ex L'=some r→Q (EE ex) a' w')→c.wp C.P Q a w:=λc L a w Ts K Q hi BV CV=>by
  unfold mP at BV;split at BV
  ·cases BV
  rename_i id _;split at BV
  ·rename_i k _;split at BV
   ·rename_i rid ops;refine wp_region ?_;rw[List.range_eq_range'];cases hk:Nat.beq k 1
    ·rw[hk]at BV;exact zdy hi BV λL' a' w' Ts' h1 h2=>CV .normal L' a' w' Ts' h1 h2
    ·rw[hk]at BV;exact zbZ hM hi BV λL' a' w' Ts' h1 h2=>CV .normal L' a' w' Ts' h1 h2
   ·cases BV
  ·refine mS hC hΦ QP c (λs=>s∈DF c) (zaV c λ_ h=>h) _ a w _ _ r Q hi.rel (λ_ _=>rfl) BV λe st' a' w' ρ' hg hk=>?_;obtain⟨L',Ts',h1,h2⟩:=zcy hi hg hk;exact CV e L' a' w' Ts' h2 h1
 intro c;induction c with
 | seq x y _ ihy=>
  intro L a w Ts K hi BV CV;simp only[OK]at BV;refine wp_seq (piece x L a w Ts _ _ hi BV λex L' a' w' Ts' h1 h2=>?_);cases ex with
  | normal=>exact ihy L' a' w' Ts' K h1 h2 CV
  | exit id=>exact CV (.exit id) L' a' w' Ts' h1 h2
  | ret=>exact CV .ret L' a' w' Ts' h1 h2
 | ret=>intro L a w Ts K hi BV CV;exact wp_ret (CV .ret L a w Ts hi BV)
 | _=>intro L a w Ts K hi BV CV;cases BV
end
end Go.D
namespace Go.D
variable [aA]
omit [aA]in
def BQ:∀(base:Nat) (h:Nat→Option fA) (p:Nat) (rs:List V),FA [] base h p rs=h
 | base,h,p,[]=>rfl
 | base,h,p,v :: vs=>by cases v<;>simp[FA,BQ]
omit [aA]in
def WP:∀(m:Nat) (as:List V) (bs:List Nat) (vs:List V) (h:Nat→Option fA),SA (kA m) as bs vs h=h
 | 0,as,bs,vs,h=>by cases as<;>rfl
 | m+1,[],bs,vs,h=>rfl
 | m+1,a :: as,bs,vs,h=>WP m as bs vs h
omit [aA]in
def gQ:∀(m k:Nat) (bs:List Nat) (q:Nat),MA (kA m) k bs q=none
 | 0,k,bs,q=>rfl
 | m+1,k,bs,q=>gQ m (k+1) bs q
def xT:Ty→Bool
 | .v _=>true
 | .sl _=>true
 | _=>false
omit [aA]in
def nR{ty:Ty}(h:xT ty=true)(x:ty.T):tB (rB ty x):=by
 cases ty with
 | v t=>
  have FX:∀c∈enc t x,tB c:=λc hc S=>by
   obtain⟨j,hj,rfl⟩:=List.getElem_of_mem hc;have:=TF S t x j;rwa [List.getD_eq_getElem?_getD,List.getElem?_eq_getElem hj]at this
  show tB (zE t x)
  unfold zE;cases t.isAgg with
  | true=>exact XQ λj hj=>FX _ (List.getElem_mem hj)
  | false=>
   simp only[cond_false];split
   ·rename_i c cs he;exact FX c (by rw[he];simp)
   ·exact λS=> .undef
 | sl t=>exact IF t x
 | _=>cases h
def wG:List Ty→Bool
 | []=>true
 | t :: ts=>xT t&&wG ts
omit [aA]in
def TQ:∀(ts:List Ty) (x:LA ts),wG ts=true→∀j (hj:j<(zA ts x).length),tB (zA ts x)[j]
 | [],x,h,j,hj=>by simp[zA]at hj
 | [t],x,h,j,hj=>by
  simp only[wG,Bool.and_true]at h;have:j=0:=by simp[zA]at hj;omega
  subst this;exact nR h x
 | t :: d :: r,x,h,j,hj=>by
  simp only[wG,Bool.and_eq_true]at h;cases j with
  | zero=>exact nR h.1 x.1
  | succ j=>exact TQ (d :: r) x.2 (by simp only[wG,Bool.and_eq_true];exact h.2) j (by simpa[zA]using hj)
omit [aA]in
def GQ:∀(ts:List Ty) (x:LA ts),(zA ts x).length=ts.length
 | [],_=>rfl
 | [t],x=>rfl
 | t :: d :: r,x=>by simp only[zA,List.length_cons];rw[GQ (d :: r) x.2];rfl
omit [aA]in
def sQ:∀(n:Nat) (ts:List Ty),RA (kA n) ts=true→ts.length=n
 | 0,[],_=>rfl
 | 0,_ :: _,h=>by simp[kA,RA]at h
 | n+1,[],h=>by simp[kA,RA,List.replicate_succ]at h
 | n+1,t :: ts,h=>by
  simp only[kA,List.replicate_succ,RA]at h;simp only[List.length_cons];rw[sQ n ts h]
def DN(as:List V):Nat→V:=λi=>match as.drop i with
 | v :: _=>v
 | []=> .undef
def DT(fn:Func)(e:Ex)(L:LS):Option Bool:=match e with
 | .exit _=>none
 | _=>match fn.results.toList with
  | [.tmp t]=>match(XF L).s t with
   | .bool b=>some b
   | _=>none
  | _=>none
section
variable (C:Cx) (M:Nat→Option nC)
noncomputable def zP(fn:Func)(body:Code)(md:List (Nat×Nat))(tr:List (Nat×List (Nat×Bool)))(fz:List (Nat×List Nat))(as:List V):Option Bool:=
 OK C M md tr fz body ⟨DN as,[]⟩ (DT fn)
def OT(fn:Func)(t:TN)(e:Ex)(L:LS):Option (El t×Int×Value):=match e with
 | .exit _=>none
 | _=>match fn.results.toList,L.x,L.f 0 with
  | [.tmp tr],[⟨ds,pl⟩], .raw u _=>gd (pl.any (λp=>Nat.beq p.slot 0&&Nat.beq p.k 2&&Nat.beq p.off 0&&Nat.beq p.n (sz t))&&Nat.beq ds.length (sz t)) (match(XF L).s tr with
   | .int .i64 k=>bnd (vB t ds) λz=>some (z,k,u)
   | _=>none) none
  | _,_,_=>none
noncomputable def BP(fn:Func)(body:Code)(md:List (Nat×Nat))(t:TN)(u:Value)(x:El t)(k:Int):Option (El t×Int×Value):=
 OK C M md [] [] body ⟨λi=>match i with | 0=> .raw u .undef | 1=> .int .i64 k | _=> .undef,[⟨enc t x,[⟨0,2,0,sz t⟩]⟩]⟩ (OT fn t)
end
section
variable {C:Cx}
def zaO{w0:World}{own:Ow}{ρ:Nat→Option RI}{st:St}{a:Act}{w:World}{outer:Nat→Prop}(hr:xA C w0 outer own ρ st a w){fn:Func}{tr:Nat}{b:Bool}(h:fn.results.toList=[.tmp tr])(hs:st.s tr= .bool b):
  (results fn a.tmps).run C.P w= .ok (.bool b) w:=by
 obtain⟨rv,cells,h1,h2,h3,h4⟩:=aO hr (fn:=fn) (sh:=[(false,1)]) (vs:=[.bool b]) (by rw[h];simp[GD,hs,V.leaf]);cases h1 with
 | one v xZ=>
  cases xZ;have:=h3 0 (by simp);simp only[List.getD_cons_zero,List.getElem_cons_zero]at this;cases this with
  | bool _=>simpa using h4
def zcD (hC : EC C) (hΦ : JC C) {M : Nat → Option nC} (hM : XC C.P M C.g) {f : Nat} {fn : Func} {body : Code} (hf : C.P.funcs[f]? = some fn) (hb : fn.body = some body) (aW : (fn.name == "runtime.NumGoroutine") = false)
  (P3:C.nt=fn.ntmps) (md:List (Nat×Nat)) (tr:List (Nat×List (Nat×Bool))) (fz:List (Nat×List Nat)) (n:Nat) (ats:List Ty) (F:LA ats→Option Bool)
  (AW:RA (kA n) ats=true) (hdt:wG ats=true) (QX:Nat.ble n fn.ntmps=true)
  (HX:∀x r,rA ats x→F x=some r→zP C M fn body md tr fz (zA ats x)=some r):
  oA C.P f ⟨kA n,LA ats,LA [.v .bool],zB ats,F,fC [.v .bool],[(false,1)],[],false⟩ C.g:=by
 generalize qZ:kA n=ks at AW⊢;have K7:ks.length=n:=by rw[←qZ];simp[kA]
 refine⟨QG ks ats AW,?_⟩;intro w args as outer ownw ρ x r base bs JV QW hh fX VV Y1 V4 wY hF Y2 nY;simp only at JV QW hh fX VV wY hF Y2;have QX:=Nat.le_of_ble_eq_true QX;refine .inl ⟨?_,calls_of_wp hf hb ?_⟩
 ·have HW : ¬ fn.name = "runtime.NumGoroutine" := by simpa using aW
  simp[callFunc,program,hf,hb,HW,Sem.run]
 obtain⟨ρ2,H1,H2,H3,H4,H5⟩:=GR AW wY hh VV;obtain⟨e1,e2⟩:=aS (w:=w) (ρ:=ρ) H2 ks ats as x 0 (λj=>args.getD j undef) AW wY (λq t m h1 h2=>H5 q _ h1 h2) fX;have rY:=wO ats x (kT H1 ks ats x 0 (λj=>args.getD j undef) AW (λ_ _ h=>h) λj hj=>e2 j hj)
 obtain⟨g1,g2⟩:UA ks 0 (zA ats x)=zA ats x∧lA ks 0 (zA ats x)=λ_=>none:=by
  rw[←qZ];exact bO n 0 _ ((GQ ats x).trans (sQ n ats (by rw[qZ];exact AW)))
 rw[g1]at e1 e2;have dX:(λj=>args.getD j undef)=λj=>args.getD j undef:=rfl
 have iZ:∀i,VR w (λ_=>none) (Sx ⟨DN (zA ats x),[]⟩ λ_ _=>False) (({tmps:=args++Array.replicate (fn.ntmps - args.size) undef,defers:=[]}:Act).tmps.getD i undef) (DN (zA ats x) i):=λi=>by
  show VR w _ _ _ (match(zA ats x).drop i with | v :: _=>v | []=> .undef)
  by_cases hi:i<(zA ats x).length
  ·rw[List.drop_eq_getElem_cons hi];have h3:=e2 i hi;have i7:i<args.size:=by omega
   rw[Array.getD_eq_getD_getElem?]at h3⊢;rw[Array.getElem?_append_left i7]
   exact(h3.noRef (TQ ats x hdt i hi) _).mono (λ_ _ h=>h) (λ_ _ _=>rfl) λb h=>by
    obtain⟨j,hj,_⟩:=h;simp at hj
  ·rw[List.drop_eq_nil_of_le (by omega)];exact .undef _
 have N1:aC C w VA ⟨DN (zA ats x),[]⟩ {tmps:=args++Array.replicate (fn.ntmps - args.size) undef,defers:=[]} w λ_ _=>False:=by
  refine⟨Wx.refl _,λ_ _ _=>rfl,iZ,λj hj=>?_,λi j b h=>?_,λj b h=>?_,by simp;omega,rfl,⟨nY.p,λb _ h=>h,nY.base,λb _ h=>h⟩⟩
  ·simp at hj
  ·simp at h
  ·simp at h
 refine xS (T0:=VA) hC hΦ hM (r:=r) body _ _ w _ _ N1 (HX x r rY hF) λex L' a' w' Ts' hi hk=>?_
 have key:(match fn.results.toList with
  | [.tmp t]=>match(XF L').s t with
   | .bool b=>some b
   | _=>none
  | _=>none)=some r→a'.defers=[]∧∃v,(results fn a'.tmps).run C.P w'= .ok v w'∧∃v',Ending.returned v= .returned v'∧∃ρf,BA w outer ownw ρf (TB ⟨ks,LA ats,LA [.v .bool],zB ats,λx=>F x,fC [.v .bool],[(false,1)],[],false⟩ as bs base (fC [.v .bool] r)) w'∧
   VR w' ρf (bA outer ρf (TB ⟨ks,LA ats,LA [.v .bool],zB ats,λx=>F x,fC [.v .bool],[(false,1)],[],false⟩ as bs base (fC [.v .bool] r))) v' (AE ⟨ks,LA ats,LA [.v .bool],zB ats,λx=>F x,fC [.v .bool],[(false,1)],[],false⟩ base (fC [.v .bool] r))∧
   (∀q b,MA ks 0 bs q=some b→ρf b=ρ q)∧(∀r,ρf r≠none→(base≤r∧r<base+128)∨r∈bs):=by
  intro hk;split at hk
  case h_2=>cases hk
  rename_i t CW;split at hk
  case h_2=>cases hk
  rename_i b hs;cases hk
  have hx:TB ⟨ks,LA ats,LA [.v .bool],zB ats,λx=>F x,fC [.v .bool],[(false,1)],[],false⟩ as bs base (fC [.v .bool] r)=λ_=>none:=by
   unfold TB RC;simp only[cond_false];rw[BQ, ←qZ,WP]
  refine⟨hi.defers, .bool r,zaO hi.rel CW hs,_,rfl,λ_=>none,?_,?_,?_,λr hr=>absurd rfl hr⟩
  ·rw[hx];exact⟨hi.wx,λb hb _=>hi.frame b hb λh=>h,hh.outLt,λr row hr=>(by cases hr),λq q' row row' qi qi' hq=>(by cases hq),lB.zero λq t l m hq=>(by cases hq)⟩
  ·exact .bool _
  ·rw[←qZ];intro q b hq;rw[gQ]at hq;cases hq
 unfold DT at hk;cases ex with
 | exit id=>cases hk
 | normal=>exact key hk
 | ret=>exact key hk
def BB.subs{w:World}{T:Nat→Prop}{us:List Value}{ds es:List V}(h:BB w T us ds)(hs:YA ds es):BB w T us es:=by
 obtain⟨h1,par,X,o,hX,h2⟩:=h;exact⟨h1.trans hs.len,par,X,o,hX,λj hj=>(h2 j (by rw[hs.len];exact hj)).sub (hs.get j (by rw[hs.len];exact hj) hj)⟩
def zcV (hC : EC C) (hΦ : JC C) {M : Nat → Option nC} (hM : XC C.P M C.g) {f : Nat} {fn : Func} {body : Code} (hf : C.P.funcs[f]? = some fn) (hb : fn.body = some body) (aW : (fn.name == "runtime.NumGoroutine") = false)
  (P3:C.nt=fn.ntmps) (dZ:Nat.ble 2 fn.ntmps=true) (md:List (Nat×Nat)) (t:TN) (F:El t→Int→Option (El t×Int))
  (HX:∀u x k r,LB .i64 k→F x k=some r→BP C M fn body md t u x k=some (r.1,r.2,u)):
  BC C.P f ⟨.st t,F⟩ C.g:=by
 intro w us v x k r T hv hT hk hF hg;have hv:v= .agg us.toArray:=hv;have FV:us.length=sz t:=hT.1.trans (WA t x);have dZ:=Nat.le_of_ble_eq_true dZ;refine lR hf hb aW ?_;generalize OZ:({tmps:= #[v, .int .i64 k]++Array.replicate (fn.ntmps - (#[v, .int .i64 k]:Array Value).size) undef,defers:=[]}:Act)=a0;have JV:a0.tmps.size=C.nt:=by subst OZ;simp;omega
 have X4:a0.defers=[]:=by subst OZ;rfl
 have g0:a0.tmps.getD 0 undef=v:=by subst OZ;rw[Array.getD_eq_getD_getElem?,Array.getElem?_append_left (by simp)];rfl
 have g1:a0.tmps.getD 1 undef= .int .i64 k:=by subst OZ;rw[Array.getD_eq_getD_getElem?,Array.getElem?_append_left (by simp)];rfl
 let L0:LS:=⟨λi=>match i with | 0=> .raw v .undef | 1=> .int .i64 k | _=> .undef,[⟨enc t x,[⟨0,2,0,sz t⟩]⟩]⟩
 have N1:aC C w T L0 a0 w λ_ b=>T b∧b<w.heap.size:=by
  refine⟨Wx.refl _,λ_ _ _=>rfl,λi=>?_,λj hj=>?_,λi j b h1 h2 _ _=>?_,λj b _ h=>⟨h.2, .inl h.1⟩,JV,X4,hg⟩
  ·match i with
   | 0=>rw[g0];exact .raw _ _ (.undef _)
   | 1=>rw[g1];exact .int _ _ hk
   | i+2=>exact .undef _
  ·have hj:j<1:=hj;have:j=0:=by omega
   subst this;refine⟨us,hT.bnd,λp hp=>?_⟩;have hp:p∈[(⟨0,2,0,sz t⟩:LP)]:=hp;simp only[List.mem_singleton]at hp;subst hp;refine⟨by simp;omega,wE t,?_⟩;show a0.tmps.getD 0 undef= .agg ((us.drop 0).take (sz t)).toArray
   rw[g0,hv,List.drop_zero,List.take_of_length_le (by omega)]
  ·have h1:i<1:=h1;have h2:j<1:=h2;omega
 refine xS (T0:=T) hC hΦ hM (r:=(r.1,r.2,v)) body _ _ w _ _ N1 (HX v x k r hk hF) λex L' a' w' Ts' hi eW=>?_
 have key:(match fn.results.toList,L'.x,L'.f 0 with
  | [.tmp tr],[⟨ds,pl⟩], .raw u _=>gd (pl.any (λp=>Nat.beq p.slot 0&&Nat.beq p.k 2&&Nat.beq p.off 0&&Nat.beq p.n (sz t))&&Nat.beq ds.length (sz t)) (match(XF L').s tr with
   | .int .i64 k=>bnd (vB t ds) λz=>some (z,k,u)
   | _=>none) none
  | _, _, _ => none) = some (r.1, r.2, v)→a'.defers =[]∧∃z,(results fn a'.tmps).run C.P w' = .ok z w'∧∃z', Ending.returned z = .returned z'∧z' = .int .i64 r.2∧LB .i64 r.2∧Wx w w'∧(∀b, b < w.heap.size→¬T b→w'.heap[b]? = w.heap[b]?)∧
      BB w' (λb=>T b∨w.heap.size≤b) us (gF.enc (.st t) r.1):=by
  intro eW;split at eW
  case h_2=>cases eW
  rename_i tr ds pl u d CW hx h0;cases pZ:(pl.any (λp=>Nat.beq p.slot 0&&Nat.beq p.k 2&&Nat.beq p.off 0&&Nat.beq p.n (sz t))&&Nat.beq ds.length (sz t))
  ·rw[pZ]at eW;cases eW
  rw[pZ]at eW;simp only[gB]at eW;simp only[Bool.and_eq_true]at pZ;obtain⟨b1,b2⟩:=pZ;have b2:=Nat.eq_of_beq_eq_true b2;obtain⟨p,hp,L8⟩:=List.any_eq_true.1 b1;simp only[Bool.and_eq_true]at L8;obtain⟨⟨⟨p1,p2⟩,p3⟩,p4⟩:=L8;have p1:=Nat.eq_of_beq_eq_true p1;have p2:=Nat.eq_of_beq_eq_true p2;have p3:=Nat.eq_of_beq_eq_true p3;have p4:=Nat.eq_of_beq_eq_true p4;split at eW
  case h_2=>cases eW
  rename_i k' hs;rw[fE]at eW;obtain⟨z,hz,eW⟩:=Option.bind_eq_some_iff.1 eW;have eW:=Option.some.inj eW;have q1:z=r.1:=(Prod.mk.inj eW).1;have q2:k'=r.2:=(Prod.mk.inj (Prod.mk.inj eW).2).1;have q3:u=v:=(Prod.mk.inj (Prod.mk.inj eW).2).2;subst q2 q3;obtain⟨h1,h2⟩:=uQ hi.rel CW hs;have HV:0<L'.x.length:=by rw[hx];simp
  obtain⟨us',t1,t2⟩:=hi.held 0 HV;have aX:L'.x[0]=⟨ds,pl⟩:=by simp only[hx,List.getElem_cons_zero]
  rw[aX]at t1 t2;obtain⟨o1,_,o3⟩:=t2 p hp;rw[p2]at o3;have o3:a'.tmps.getD p.slot undef= .agg ((us'.drop p.off).take p.n).toArray:=o3;have hu:=hi.froz 0;rw[h0]at hu
  have vY:a'.tmps.getD 0 undef=u:=by
   generalize a'.tmps.getD 0 undef=uu at hu;cases hu;rfl
  have hl':us'.length=sz t:=t1.1.trans b2;rw[p1,p3,p4,List.drop_zero,List.take_of_length_le (by omega),vY,hv]at o3
  have huu:us'=us:=by
   have:=(Value.agg.inj o3).symm;have:=congrArg Array.toList this;simpa using this
  subst huu;refine⟨hi.defers,_,h1,_,rfl,rfl,h2,hi.wx,λb hb ho=>hi.frame b hb ho,?_⟩;rw[←q1];exact(t1.keep (λ_ _ _=>rfl) λb hb _=>(hi.low 0 b HV hb).2).subs (wC t hz)
 unfold OT at eW;cases ex with
 | exit id=>cases eW
 | normal=>exact key eW
 | ret=>exact key eW
def zdf{P:Program}{g:Gl}:XC P (λf=>JA f []) g:=λf ki h=>by cases h
def zcr{P:Program}{g:Gl}{f:Nat}{ki:nC}{l:List (Nat×nC)}(h:BC P f ki g)(hl:XC P (λf=>JA f l) g):XC P (λk=>JA k ((f,ki) :: l)) g:=λk c hk=>by
 have hk:JA k ((f,ki) :: l)=some c:=hk;simp only[JA]at hk;cases hb:Nat.beq f k
 ·rw[hb]at hk;exact hl k c hk
 ·rw[hb]at hk;obtain rfl:=Nat.eq_of_beq_eq_true hb;cases hk;exact h
end
end Go.D

/-
 Regions that draw their order: one run in the order of the text serves every order.
-/
import Derived.Test.YthmhafeaiaigoaaGreatL5
import Derived.Orders
import Derived.LoopN
set_option linter.all false
namespace Go.D
variable [jA]
section
variable {C:Cx} {w0:World} {outer own D:Nat→Prop} {R:Type} {st st' st1 st2:St} {ρ ρ1 ρ2:Nat→Option RI} {a a1 a2:Act} {w w1 w2:World}
omit [jA]in
def eL{r:Nat}{l:List Nat}:VE r l=true↔r∈l:=by
 unfold VE;rw[List.any_eq_true];constructor
 ·rintro⟨x,h1,h2⟩;rw[Nat.eq_of_beq_eq_true h2];exact h1
 ·intro h;exact⟨r,h,by simp⟩
omit [jA]in
def nM{r:Nat}{l:List Nat}:VE r l=false↔r∉l:=by
 rw[←eL];cases VE r l<;>simp
omit [jA]in
def zjG{b r:Nat}:pI b r=true↔b≤r∧r<b+128:=by
 simp only[pI,Bool.and_eq_true,Nat.ble_eq,Nat.blt_eq]
omit [jA]in
def SL{b r:Nat}:pI b r=false↔¬(b≤r∧r<b+128):=by
 rw[←zjG];cases pI b r<;>simp
omit [jA]in
def zvq{P:Program}{o:Oper}{post:Act→World→Prop}(h:NC P o a w post)(hd:∀a' w',post a' w'→a'.defers=[]):
  NC P o a w λa' w'=>post a' w'∧∃v,a'=a.put o.dst v:=by
 intro next Q hn;have h0:=h post Q λ_ _ h=>h;unfold Oper.wp at *;generalize (execOp a.eval o).run P w=x at *;have put:∀v w',post (a.put o.dst v) w'→next (a.put o.dst v) w':=λv w' hp=>hn _ _ ⟨hp,v,rfl⟩;cases x with
 | ok n w'=>
  have nodef:∀d w',post ({a with defers:=d :: a.defers}.put o.dst undef) w'→False:=λd w' hp=>by
   have:=hd _ _ hp
   revert this
   cases o.dst<;>simp[Act.put]
  cases n<;>simp only[Oper.upon]at h0⊢ <;>first
   | exact put _ _ h0
   | exact Calls.mono' h0 λe w'' he=>by cases e<;>first | exact put _ _ he | exact he
   | exact h0.mono λ_ _ he=>put _ _ he
   | exact(nodef _ _ h0).elim
   | exact h0
 | halt x w'=>cases x<;>simp only[Oper.upon]at h0⊢ <;>exact h0
def mT(st st':St):Prop:=∀r row,st'.h r=some row→(∃row0,st.h r=some row0)∨row.m.isOwn=true
omit [jA]in
def qL{dst:Option Nat}{h':Nat→Option uA}(hk:∀r row,h' r=some row→(∃row0,st.h r=some row0)∨row.m.isOwn=true)(v:V):fD (mT st) (VA C dst {st with h:=h'} v some):=by
 intro st' h;cases dst with
 | none=>simp[VA]at h;subst h;exact hk
 | some d=>
  simp only[VA]at h;cases hb:Nat.blt d C.nt<;>simp[hb]at h
  subst h;exact hk
omit [jA]in
def zuj{dst:Option Nat}(v:V):fD (mT st) (VA C dst st v some):=qL (λ_ row h=> .inl ⟨row,h⟩) v
omit [jA]in
def zdE{h h':Nat→Option uA}(hk:∀r row,h' r=some row→(∃row0,h r=some row0)∨row.m.isOwn=true)(i:Nat)(c:uF):
  ∀r row,CA h' i (some ⟨c, .own⟩) r=some row→(∃row0,h r=some row0)∨row.m.isOwn=true:=λr row hr=>by
 by_cases hi:r=i
 ·subst hi;rw[RA]at hr;cases hr;exact .inr rfl
 ·rw[DA _ _ _ _ hi]at hr;exact hk r row hr
omit [jA]in
def zgl(h:Nat→Option uA)(ids:List Nat):∀r row,DC h ids r=some row→(∃row0,h r=some row0)∨row.m.isOwn=true:=λr row hr=>by
 obtain⟨row',h1,_⟩:=OU h ids r row hr;exact .inl ⟨row',h1⟩
omit [jA]in
def zuL(h:Nat→Option uA)(r:Option Nat):∀q row,JO h r q=some row→(∃row0,h q=some row0)∨row.m.isOwn=true:=λq row hq=>by
 cases r with
 | none=>exact .inl ⟨row,hq⟩
 | some r=>obtain⟨row',h1,_⟩:=nV h r q row hq;exact .inl ⟨row',h1⟩
omit [jA]in
def zvs(h:Nat→Option uA)(r:Nat):∀q row,CA h r none q=some row→(∃row0,h q=some row0)∨row.m.isOwn=true:=λq row hq=>by
 by_cases hi:q=r
 ·subst hi;rw[RA]at hq;cases hq
 ·rw[DA _ _ _ _ hi]at hq;exact .inl ⟨row,hq⟩
omit [jA]in
def zl4{dst:Option Nat}{h':Nat→Option uA}(hk:∀r row,h' r=some row→(∃row0,st.h r=some row0)∨row.m.isOwn=true)(i:Nat)(c:uF)(v:V):
  fD (mT st) (vF C dst {st with h:=h'} i c v some):=qL (zdE hk i c) v
omit [jA]in
def zuZ{dst:Option Nat}(i:Nat)(c:uF)(v:V):fD (mT st) (vF C dst st i c v some):=qL (zdE (λ_ row h=> .inl ⟨row,h⟩) i c) v
omit [jA]in
def zuM{dst:Option Nat}(i f:Nat)(as:List V):fD (mT st) (wK C i dst st f as some):=by
 unfold wK;split
 ·exact pF
 rename_i ci _;split
 ·split
  ·exact pF
  rename_i as' h' bs m0;refine YS _ λx _=>NS _ λr _=>tK _ λMV=>qL ?_ _;simp only[Bool.and_eq_true]at MV;intro q row hq;rw[DO]at hq;split at hq
  ·rename_i y hy;cases hq;rw[zgE (Nat.le_of_ble_eq_true MV.1) hy];exact .inr rfl
  ·exact .inl ⟨row,hq⟩
 rename_i as' h' bs m0;refine YS _ λx _=>NS _ λr _=>tK _ λMV=>qL ?_ _;intro q row hq;have MV:=Nat.le_of_ble_eq_true MV;rw[DO]at hq;split at hq
 ·rename_i y hy;cases hq;rw[zgE MV hy];exact .inr rfl
 ·rcases zsd hq with hq | hq
  ·exact .inl ⟨row,hq⟩
  ·obtain⟨row',h1,_⟩:=hU _ _ _ _ m0 q row hq;exact .inl ⟨row',h1⟩
omit [jA]in
def ztK{i:Nat}(o:Oper):fD (mT st) (qB C i o st some):=by
 unfold qB
 repeat' first
  | exact pF
  | exact zuj _
  | exact zuZ _ _ _
  | exact zuM _ _ _
  | exact qL (zgl _ _) _
  | exact qL (zvs _ _) _
  | exact zl4 (zgl _ _) _ _ _
  | exact zl4 (zuL _ _) _ _ _
  | exact qL (zdE (λ_ row h=> .inl ⟨row,h⟩) _ _) _
  | exact qL (zdE (zgl _ _) _ _) _
  | refine zk8 (λ_=>?_) _ _ _ _
  | refine zlZ (λ_=>?_) _ _ _
  | refine zfT (λ_=>?_) _ _ _
  | refine zlL (λ_=>?_) _ _ _ _ _ _
  | refine JS _ (λ_=>?_)
  | refine fS _ (λ_=>?_)
  | refine tK _ (λ_=>?_)
  | refine zlE _ (λ_=>?_)
  | refine YS _ (λ_ _=>?_)
  | refine NS _ (λ_ _=>?_)
  | split
omit [jA]in
def zjl{x:Option uA}{row':uA}(h:EV x=some row'):∃row,x=some row∧row.c=row'.c∧row.m.isRo=row'.m.isRo∧row'.m.isOwn=false:=by
 cases x with
 | none=>cases h
 | some row=>
  obtain⟨c,m⟩:=row;cases m<;>(simp only[EV,Option.some.injEq]at h;subst h;exact⟨_,rfl,rfl,rfl,rfl⟩)
def zvc(hr:ZA C w0 outer own ρ st a w)(hC:UF C)(hΦ:gG C)(pY:∃N,∀r,N≤r→ρ r=none){b:Nat}(OW:∀q,q<128→ρ (b+q)=none){o:Oper}{ls rd wr:List Nat}
  (hk:RF C b o ls rd wr st some=some st2):NC C.P o a w (JC C w0 outer own b ρ st2):=by
 unfold RF at hk;rw[vS]at hk;obtain⟨st',hs,h2⟩:=Option.bind_eq_some_iff.1 hk;have h2:=Option.some.inj h2;let N:Nat→Prop:=λr=>r∈wr∨r∈rd;let own':Nat→Prop:=λc=>∃r row ri,N r∧st.h r=some row∧row.m.isRo=false∧ρ r=some ri∧ri.nl=false∧ri.b=c;let outer':Nat→Prop:=λc=>outer c∨∃r row ri,¬N r∧st.h r=some row∧row.m.isRo=false∧ρ r=some ri∧ri.nl=false∧ri.b=c
 have A1:∀r row',AG rd wr st.h r=some row'→N r∧∃row,st.h r=some row∧row.c=row'.c∧row.m.isRo=row'.m.isRo:=λr row' h=>by
  simp only[AG]at h;cases hw:VE r wr
  ·simp only[hw,cond_false]at h;cases hd:VE r rd
   ·simp[hd]at h
   ·simp only[hd,cond_true]at h;obtain⟨row,h1,h2,h3,_⟩:=zjl h;exact⟨.inr (eL.1 hd),row,h1,h2,h3⟩
  ·simp only[hw,cond_true]at h;exact⟨.inl (eL.1 hw),row',h,rfl,rfl⟩
 have SX:∀c,tA outer' ρ (AG rd wr st.h) c→tA outer ρ st.h c:=by
  rintro c ((h | ⟨r,row,ri,e1,e2,e3,e4⟩) | ⟨r,row',ri,e1,e2,e3,e4⟩)
  ·exact .inl h
  ·exact .inr ⟨r,row,ri,e2,e3,e4⟩
  ·obtain⟨_,row,f1,f2,f3⟩:=A1 r row' e1;exact .inr ⟨r,row,ri,f1,by rw[f3];exact e2,e3,e4⟩
 have UY:∀c,own' c→c<w.heap.size∧(w0.heap.size≤c∨own c):=by
  rintro c ⟨r,row,ri,e1,e2,e3,e4,e5,rfl⟩;obtain⟨ri',f1,_,f2⟩:=hr.heap.rows r row e2;rw[e4]at f1;cases f1;exact⟨(f2 e5).2,(f2 e5).1.2 e3⟩
 have H6:∀c,outer' c→c<w.heap.size∧¬own' c:=by
  rintro c (h | ⟨r,row,ri,e1,e2,e3,e4,e5,rfl⟩)
  ·obtain⟨g1,g2⟩:=hr.heap.outLt c h;refine⟨Nat.lt_of_lt_of_le g1 hr.heap.wx.size,λho=>?_⟩
   rcases(UY c ho).2 with h3 | h3
   ·omega
   ·exact g2 h3
  ·obtain⟨ri',f1,_,f2⟩:=hr.heap.rows r row e2;rw[e4]at f1;cases f1;refine⟨(f2 e5).2,?_⟩;rintro⟨r',row',ri',g1,g2,g3,g4,g5,g6⟩;have:=hr.heap.inj r' r row' row ri' ri g2 e2 g4 e4 g5 e5 g6;subst this;exact e1 g1
 have T3:∀u d,VR w ρ (tA outer ρ st.h) u d→VR w ρ (tA outer' ρ (AG rd wr st.h)) u d:=λu d hu=>hu.mono (λ_ _ h=>h) (λ_ _ _=>rfl) λc hc=> .inl (SX c hc)
 have uZ:ZA C w outer' own' ρ {s:=EL ls st.s,h:=AG rd wr st.h,nx:=st.nx} a w:=by
  refine⟨⟨Wx.refl _,λ_ _ _=>rfl,H6,λr row' h=>?_,λq q' row row' qi qi' h1 h2 h3 h4 h5 h6 h7=>?_⟩,λt=>?_,hr.size,hr.defers,⟨C.g.stay w0 w (λc hc=>hr.heap.old c (Nat.lt_of_lt_of_le hc (C.g.lt _ hr.glob.p)) (hr.glob.own c hc)) hr.glob.p,λc hc ho=>?_,Nat.le_trans hr.glob.base hr.heap.wx.size,λc hc ho=>?_⟩⟩
  ·obtain⟨f0,row,f1,f2,f3⟩:=A1 r row' h;obtain⟨ri,g1,g2,g3⟩:=hr.heap.rows r row f1;refine⟨ri,g1,by rw[←f2];exact g2.keep (λ_=>rfl) T3,λhn=>⟨⟨?_,λhm=> .inr ⟨r,row,ri,f0,f1,by rw[f3];exact hm,g1,hn,rfl⟩⟩,(g3 hn).2⟩⟩;rintro(h | ⟨r',row2,ri',e1,e2,e3,e4,e5,e6⟩)
   ·exact(g3 hn).1.1 h
   ·have:=hr.heap.inj r' r row2 row ri' ri e2 f1 e4 g1 e5 hn e6;subst this;exact e1 f0
  ·obtain⟨_,row1,f1,_⟩:=A1 q row h1;obtain⟨_,row2,f2,_⟩:=A1 q' row' h2;exact hr.heap.inj q q' _ _ qi qi' f1 f2 h3 h4 h5 h6 h7
  ·show VR w ρ _ _ (EL ls st.s t)
   simp only[EL];cases VE t ls
   ·exact .undef _
   ·exact T3 _ _ (hr.slots t)
  ·have:=Nat.lt_of_lt_of_le hc (C.g.lt _ hr.glob.p)
   rcases(UY c ho).2 with h | h
   ·omega
   ·exact hr.glob.own c hc h
  ·have:=Nat.lt_of_lt_of_le hc hr.glob.base
   rcases(UY c ho).2 with h | h
   ·omega
   ·exact hr.glob.low c hc h
 have L:=zjA (π:=λr=>¬(b≤r∧r<b+128)) (i:=b) (λq hq h=>h (by omega)) o st' hs;have main:=zvq (zma uZ hC hΦ pY OW hs) λa' w' ⟨ρ',h,_⟩=>h.defers;intro next Q hn;refine main next Q λa1 w1 ⟨⟨ρ1,PV,hE,hx⟩,v,hv⟩=>hn _ _ ⟨ρ1,?_,hE,hx⟩;subst hv;have hh:=PV.heap
 have NW:∀r,ρ r≠none→¬(b≤r∧r<b+128):=λr h1 h2=>h1 (by
  have:=OW (r - b) (by omega);rwa [show b+(r - b)=r by omega]at this)
 have hρ1:∀r row,st.h r=some row→ρ1 r=ρ r:=λr row h=>by
  obtain⟨ri,h1,_⟩:=hr.heap.rows r row h;rw[h1,hx r ri h1]
 -- rows that are only read
 have hrd:∀r row,r∉wr→r∈rd→st.h r=some row→∃row',st'.h r=some row'∧row'.c=row.c∧row'.m.isRo=row.m.isRo:=λr row h1 h2 h3=>by
  have h4:AG rd wr st.h r=EV (some row):=by simp only[AG,nM.2 h1,eL.2 h2,cond_false,cond_true,h3]
  obtain⟨row',h5⟩:∃row',EV (some row)=some row':=by
   obtain⟨c,m⟩:=row;cases m<;>exact⟨_,rfl⟩
  obtain⟨row2,h6,h7,h8,h9⟩:=zjl h5;cases h6;obtain⟨ri,g1,_⟩:=hr.heap.rows r _ h3;exact⟨row',L.rows r row' (NW r (by rw[g1];simp)) (by show AG rd wr st.h r=_;rw[h4,h5]) h9,h7.symm,h8.symm⟩
 -- a row of the new state
 have JV:∀r row,st2.h r=some row→(st'.h r=some row)∨(r∉wr∧¬(b≤r∧r<b+128)∧st.h r=some row):=λr row h=>by
  rw[←h2]at h;simp only[HL]at h;cases hw:(VE r wr||pI b r)
  ·rw[hw]at h;simp only[Bool.or_eq_false_iff]at hw;exact .inr ⟨nM.1 hw.1,SL.1 hw.2,h⟩
  ·rw[hw]at h;exact .inl h
 have NZ:∀c,tA outer ρ1 st2.h c→tA outer' ρ1 st'.h c:=by
  rintro c (h | ⟨r,row,ri,e1,e2,e3,e4,e5⟩)
  ·exact .inl (.inl h)
  ·rcases JV r row e1 with h | ⟨h3,h4,h5⟩
   ·exact .inr ⟨r,row,ri,h,e2,e3,e4,e5⟩
   ·by_cases hd:r∈rd
    ·obtain⟨row',f1,f2,f3⟩:=hrd r row h3 hd h5;exact .inr ⟨r,row',ri,f1,by rw[f3];exact e2,e3,e4,e5⟩
    ·rw[hρ1 r row h5]at e3;exact .inl (.inr ⟨r,row,ri,λh=>h.elim h3 hd,h5,e2,e3,e4,e5⟩)
 have I6:∀c,tA outer' ρ1 st'.h c→tA outer ρ st.h c∨w.heap.size≤c:=by
  rintro c ((h | ⟨r,row,ri,e1,e2,e3,e4⟩) | ⟨r,row,ri,e1,e2,e3,e4,e5⟩)
  ·exact .inl (.inl h)
  ·exact .inl (.inr ⟨r,row,ri,e2,e3,e4⟩)
  ·obtain⟨ri',f1,_,f2⟩:=hh.rows r row e1;rw[e3]at f1;cases f1
   rcases(f2 e4).1.2 e2 with h | ⟨r',row',ri',g1,g2,g3,g4⟩
   ·exact .inr (by omega)
   ·rw[e5]at g4;exact .inl (.inr ⟨r',row',ri',g2,g3,g4⟩)
 have keepO:∀u d,VR w ρ (tA outer ρ st.h) u d→VR w1 ρ1 (tA outer ρ1 st2.h) u d:=λu d hu=>
  hu.mono hx (λc hc OV=>hh.old c OV λ⟨r,row,ri,g1,g2,g3,g4⟩=>hc (.inr ⟨r,row,ri,g2,g3,g4⟩)) λc hc=>I6 c (NZ c hc)
 have keepN:∀u d,VR w1 ρ1 (tA outer' ρ1 st'.h) u d→VR w1 ρ1 (tA outer ρ1 st2.h) u d:=λu d hu=>
  hu.mono (λ_ _ h=>h) (λ_ _ _=>rfl) λc hc=> .inl (NZ c hc)
 have J6:∀r row ri,r∉wr→r∉rd→st.h r=some row→ρ r=some ri→ri.nl=false→¬own' ri.b:=by
  rintro r row ri h1 h2 h3 h4 h5 ⟨r',row',ri',g1,g2,g3,g4,g5,g6⟩;have:=hr.heap.inj r' r row' row ri' ri g2 h3 g4 h4 g5 h5 g6;subst this;exact g1.elim h1 h2
 have g9:({a.put o.dst v with}:Act).defers=[]:=PV.defers;refine⟨⟨hr.heap.wx.trans hh.wx,λc hc ho=>?_,hr.heap.outLt,λr row h=>?_,λq q' row row' qi qi' h1 h3 h4 h5 h6 h7 h8=>?_⟩,λt=>?_,PV.size,PV.defers,hr.glob⟩
 ·rw[←hr.heap.old c hc ho];refine hh.old c (Nat.lt_of_lt_of_le hc hr.heap.wx.size) λhoc=>?_
  rcases(UY c hoc).2 with h3 | h3
  ·omega
  ·exact ho h3
 ·rcases JV r row h with h3 | ⟨h3,h4,h5⟩
  ·obtain⟨ri,f1,f2,f3⟩:=hh.rows r row h3;refine⟨ri,f1,f2.keep (λ_=>rfl) keepN,λhn=>⟨⟨λho=>(f3 hn).1.1 (.inl ho),λhm=>?_⟩,(f3 hn).2⟩⟩
   rcases(f3 hn).1.2 hm with h4 | h4
   ·exact .inl (Nat.le_trans hr.heap.wx.size h4)
   ·exact(UY _ h4).2
  ·obtain⟨ri,f1,f2,f3⟩:=hr.heap.rows r row h5;refine⟨ri,hx r ri f1,?_,λhn=>⟨(f3 hn).1,Nat.lt_of_lt_of_le (f3 hn).2 hh.wx.size⟩⟩
   by_cases hd:r∈rd
   ·obtain⟨row',g1,g2,g3⟩:=hrd r row h3 hd h5;obtain⟨ri',e1,e2,_⟩:=hh.rows r row' g1;rw[hx r ri f1]at e1;cases e1;rw[←g2];exact e2.keep (λ_=>rfl) keepN
   ·exact f2.keep (λhn=>hh.old _ (f3 hn).2 (J6 r row ri h3 hd h5 f1 hn)) keepO
 ·-- no two rows in one block
  have rowsOf:∀r row ri,st2.h r=some row→ρ1 r=some ri→ri.nl=false→(∃row',st'.h r=some row')∨(r∉wr∧r∉rd∧st.h r=some row∧ρ r=some ri):=λr row ri h1 h3 h4=>by
   rcases JV r row h1 with h5 | ⟨h5,h6,h7⟩
   ·exact .inl ⟨_,h5⟩
   ·by_cases hd:r∈rd
    ·obtain⟨row',g1,_⟩:=hrd r row h5 hd h7;exact .inl ⟨_,g1⟩
    ·exact .inr ⟨h5,hd,h7,by rw[←hρ1 r row h7];exact h3⟩
  have mixed:∀r r' row' row2 ri ri',st'.h r=some row2→ρ1 r=some ri→ri.nl=false→r'∉wr→r'∉rd→st.h r'=some row'→ρ r'=some ri'→ri'.nl=false→ri.b=ri'.b→False:=λr r' row' row2 ri ri' e1 e2 e3 e4 e5 e6 e7 e8 e9=>by
   obtain⟨ri2,f1,_,f3⟩:=hh.rows r row2 e1;rw[e2]at f1;cases f1;obtain⟨ri3,g1,_,g3⟩:=hr.heap.rows r' row' e6;rw[e7]at g1;cases g1;have OV:=(g3 e8).2;have bX:=J6 r' row' ri' e4 e5 e6 e7 e8
   by_cases hm:row2.m.isRo=false
   ·rcases(f3 e3).1.2 hm with h | h
    ·rw[e9]at h;omega
    ·rw[e9]at h;exact bX h
   ·-- a row that nobody writes:it was there ahead
    rcases ztK o st' hs r row2 e1 with⟨row0,h0⟩ | h0
    ·obtain⟨g0,row1,g4,_⟩:=A1 r row0 h0;obtain⟨ri4,g5,_⟩:=hr.heap.rows r row1 g4;have:=hx r ri4 g5;rw[e2]at this;cases this;have:=hr.heap.inj r r' row1 row' ri ri' g4 e6 g5 e7 e3 e8 e9;subst this;exact g0.elim e4 e5
    ·refine hm ?_;obtain⟨c,m⟩:=row2;cases m with
     | own=>rfl
     | ro=>cases h0
     | lock=>rfl
  rcases rowsOf q row qi h1 h4 h6 with⟨r1,e1⟩ | ⟨e1,e2,e3,e4⟩<;>rcases rowsOf q' row' qi' h3 h5 h7 with⟨r2,f1⟩ | ⟨f1,f2,f3,f4⟩
  ·exact hh.inj q q' _ _ qi qi' e1 f1 h4 h5 h6 h7 h8
  ·exact(mixed q q' row' r1 qi qi' e1 h4 h6 f1 f2 f3 f4 h7 h8).elim
  ·exact(mixed q' q row r2 qi' qi f1 h5 h7 e1 e2 e3 e4 h6 h8.symm).elim
  ·exact hr.heap.inj q q' row row' qi qi' e3 f3 e4 f4 h6 h7 h8
 ·have hst2:st2.s t=iN o.dst st.s st'.s t:=by rw[←h2]
  rw[hst2]
  have hput:∀t,o.dst≠some t→(a.put o.dst v).tmps.getD t undef=a.tmps.getD t undef:=λt ht=>by
   cases hd:o.dst with
   | none=>rfl
   | some d=>
    simp only[Act.put,Array.getD_eq_getD_getElem?];rw[Array.getElem?_setIfInBounds_ne];rintro rfl;exact ht hd
  have other:o.dst≠some t→VR w1 ρ1 (tA outer ρ1 st2.h) ((a.put o.dst v).tmps.getD t undef) (st.s t):=λht=>by
   rw[hput t ht];exact keepO _ _ (hr.slots t)
  cases hd:o.dst with
  | none=>simp only[iN];rw[←hd];exact other (by rw[hd];simp)
  | some d=>
   simp only[iN]
   by_cases ht:t=d
   ·subst ht;rw[RA, ←hd];exact keepN _ _ (PV.slots t)
   ·rw[DA _ _ _ _ ht, ←hd];exact other (by rw[hd];simpa using λe=>ht e.symm)
def PG(C:Cx)(ops:Array Oper)(nx:Nat)(e:wD)(st st':St):Prop:=
 ∃ o,ops[e.i]?=some o∧e.dst=o.dst∧
  ((o.guard=none∧RF C (nx+128 *e.i) o e.ls e.rd e.wr st some=some st')∨
   ∃j want dj,o.guard=some (j,want)∧(ops[j]?).bind (·.dst)=some dj∧dj∈e.ls∧
    ((st.s dj= .bool want∧RF C (nx+128 *e.i) o e.ls e.rd e.wr st some=some st')∨
     ((st.s dj= .tup []∨st.s dj= .bool (!want))∧VA C o.dst st (.tup []) some=some st')))
def wD.at(e:wD)(nx r:Nat):Prop:=r∈e.rd∨r∈e.wr∨(nx+128 *e.i≤r∧r<nx+128 *e.i+128)
def wD.to(e:wD)(nx r:Nat):Prop:=r∈e.wr∨(nx+128 *e.i≤r∧r<nx+128 *e.i+128)
omit [jA]in
def zsH{dst:Option Nat}{s s':Nat→V}{t:Nat}(h:dst≠some t):iN dst s s' t=s t:=by
 cases dst with
 | none=>rfl
 | some d=>exact DA _ _ _ _ (λe=>h (by rw[e]))
omit [jA]in
def zkv{d:Nat}{s s':Nat→V}:iN (some d) s s' d=s' d:=RA _ _ _
omit [jA]in
def zgQ{b:Nat}{wr:List Nat}{h h':Nat→Option uA}{r:Nat}(hr:r∈wr∨(b≤r∧r<b+128)):HL b wr h h' r=h' r:=by
 have:(VE r wr||pI b r)=true:=by
  rcases hr with hr | hr
  ·simp[eL.2 hr]
  ·simp[zjG.2 hr]
 simp only[HL,this,cond_true]
omit [jA]in
def zk4{b:Nat}{wr:List Nat}{h h':Nat→Option uA}{r:Nat}(hr:¬(r∈wr∨(b≤r∧r<b+128))):HL b wr h h' r=h r:=by
 have:(VE r wr||pI b r)=false:=by
  simp only[Bool.or_eq_false_iff,nM,SL];exact⟨λh=>hr (.inl h),λh=>hr (.inr h)⟩
 simp only[HL,this,cond_false]
omit [jA]in
def zfF{b:Nat}{o:Oper}{ls rd wr:List Nat}(h:RF C b o ls rd wr st some=some st'):
  ∃x,qB C b o {s:=EL ls st.s,h:=AG rd wr st.h,nx:=st.nx} some=some x∧st'={s:=iN o.dst st.s x.s,h:=HL b wr st.h x.h,nx:=st.nx}:=by
 unfold RF at h;rw[vS]at h;obtain⟨x,h1,h2⟩:=Option.bind_eq_some_iff.1 h;exact⟨x,h1,(Option.some.inj h2).symm⟩
omit [jA]in
def zgi{b:Nat}{o:Oper}{ls rd wr:List Nat}{x:St}(h:qB C b o {s:=EL ls st.s,h:=AG rd wr st.h,nx:=st.nx} some=some x):
  RF C b o ls rd wr st some=some {s:=iN o.dst st.s x.s,h:=HL b wr st.h x.h,nx:=st.nx}:=by
 unfold RF;rw[vS,h];rfl
omit [jA]in
def PG.frame{ops:Array Oper}{nx:Nat}{e:wD}(h:PG C ops nx e st st'):
  (∀t,e.dst≠some t→st'.s t=st.s t)∧(∀r,¬e.to nx r→st'.h r=st.h r)∧st'.nx=st.nx:=by
 obtain⟨o,h1,h2,h3⟩:=h
 have stp:RF C (nx+128 *e.i) o e.ls e.rd e.wr st some=some st'→(∀t,e.dst≠some t→st'.s t=st.s t)∧(∀r,¬e.to nx r→st'.h r=st.h r)∧st'.nx=st.nx:=λh=>by
  obtain⟨x,k1,rfl⟩:=zfF h;exact⟨λt ht=>zsH (by rw[←h2];exact ht),λr hr=>zk4 hr,rfl⟩
 have skp:VA C o.dst st (.tup []) some=some st'→(∀t,e.dst≠some t→st'.s t=st.s t)∧(∀r,¬e.to nx r→st'.h r=st.h r)∧st'.nx=st.nx:=λh=>by
  have L:=zdf (π:=λ_=>True) (V.tup []) st' h;refine⟨λt ht=>L.slots t (by rw[←h2];exact ht),λr _=>?_,L.nx⟩;cases hd:o.dst with
  | none=>rw[hd]at h;simp[VA]at h;rw[h]
  | some d=>
   rw[hd]at h;simp only[VA]at h;cases hb:Nat.blt d C.nt<;>simp[hb]at h
   rw[←h]
 rcases h3 with⟨_,h⟩ | ⟨j,want,dj,_,_,_,⟨_,h⟩ | ⟨_,h⟩⟩
 ·exact stp h
 ·exact stp h
 ·exact skp h
omit [jA]in
def PG.loc{ops:Array Oper}{nx:Nat}{e:wD}(h:PG C ops nx e st st')(hs:∀t∈e.ls,st2.s t=st.s t)(hh:∀r,e.at nx r→st2.h r=st.h r)(hn:st2.nx=st.nx):
  ∃st2',PG C ops nx e st2 st2'∧(∀t,e.dst=some t→st2'.s t=st'.s t)∧(∀r,e.to nx r→st2'.h r=st'.h r):=by
 obtain⟨o,h1,h2,h3⟩:=h
 have K6:EL e.ls st2.s=EL e.ls st.s:=by
  funext t;simp only[EL];cases hm:VE t e.ls
  ·rfl
  ·simp only[cond_true];exact hs t (eL.1 hm)
 have i9:AG e.rd e.wr st2.h=AG e.rd e.wr st.h:=by
  funext r;simp only[AG];cases hm:VE r e.wr
  ·cases A4:VE r e.rd
   ·rfl
   ·simp only[cond_true,cond_false];rw[hh r (.inl (eL.1 A4))]
  ·simp only[cond_true];exact hh r (.inr (.inl (eL.1 hm)))
 have stp:RF C (nx+128 *e.i) o e.ls e.rd e.wr st some=some st'→∃st2',RF C (nx+128 *e.i) o e.ls e.rd e.wr st2 some=some st2'∧(∀t,e.dst=some t→st2'.s t=st'.s t)∧(∀r,e.to nx r→st2'.h r=st'.h r):=λh=>by
  obtain⟨x,k1,rfl⟩:=zfF h;refine⟨_,zgi (x:=x) (by rw[K6,i9,hn];exact k1),λt ht=>?_,λr hr=>?_⟩
  ·rw[h2]at ht;rw[ht];exact(zkv).trans zkv.symm
  ·exact(zgQ hr).trans (zgQ hr).symm
 have skp:VA C o.dst st (.tup []) some=some st'→∃st2',VA C o.dst st2 (.tup []) some=some st2'∧(∀t,e.dst=some t→st2'.s t=st'.s t)∧(∀r,e.to nx r→st2'.h r=st'.h r):=λh=>by
  cases hd:o.dst with
  | none=>
   rw[hd]at h;simp[VA]at h;subst h;refine⟨st2,rfl,λt ht=>?_,λr hr=>hh r (.inr hr)⟩;rw[h2,hd]at ht;cases ht
  | some d=>
   rw[hd]at h;simp only[VA]at h;cases hb:Nat.blt d C.nt<;>simp[hb]at h
   subst h;refine⟨{st2 with s:=CA st2.s d (.tup [])},by simp[VA,hb],λt ht=>?_,λr hr=>hh r (.inr hr)⟩;rw[h2,hd]at ht;cases ht;exact(RA _ _ _).trans (RA _ _ _).symm
 rcases h3 with⟨g,h⟩ | ⟨j,want,dj,g1,g2,g3,⟨g4,h⟩ | ⟨g4,h⟩⟩
 ·obtain⟨x,k1,k2,k3⟩:=stp h;exact⟨x,⟨o,h1,h2, .inl ⟨g,k1⟩⟩,k2,k3⟩
 ·obtain⟨x,k1,k2,k3⟩:=stp h;exact⟨x,⟨o,h1,h2, .inr ⟨j,want,dj,g1,g2,g3, .inl ⟨by rw[hs dj g3];exact g4,k1⟩⟩⟩,k2,k3⟩
 ·obtain⟨x,k1,k2,k3⟩:=skp h;exact⟨x,⟨o,h1,h2, .inr ⟨j,want,dj,g1,g2,g3, .inr ⟨by rw[hs dj g3];exact g4,k1⟩⟩⟩,k2,k3⟩
structure zed(nx:Nat)(e1 e:wD):Prop where
 s1:∀t,e1.dst=some t→t∉e.ls
 s2:∀t,e.dst=some t→t∉e1.ls
 s3:∀t,e1.dst=some t→e.dst≠some t
 h1:∀r,e1.to nx r→¬e.at nx r
 h2:∀r,e.to nx r→¬e1.at nx r
omit [jA]in
def zrG{nx:Nat}{e1 e:wD}(SY:e1.i≠e.i)(h:uJ nx e1 e=true):zed nx e1 e:=by
 simp only[uJ,Bool.and_eq_true,Bool.not_eq_true',List.all_eq_true]at h;obtain⟨⟨⟨⟨⟨⟨⟨⟨a1,a2⟩,a3⟩,a4⟩,a5⟩,a6⟩,a7⟩,a8⟩,a9⟩:=h;have dst:∀{d:Option Nat} {l:List Nat},zd1 d l=false→∀t,d=some t→t∉l:=λh t ht=>by subst ht;exact nM.1 h
 refine⟨dst a1,dst a2,λt ht h=>?_,λr hr R5=>?_,λr hr R5=>?_⟩
 ·have:=dst a3 t ht;rw[h]at this;simp at this
 ·rcases hr with hr | hr
  ·have:=a4 r hr
   rcases R5 with h | h | h
   ·exact nM.1 this.1 h
   ·exact nM.1 this.2 h
   ·exact SL.1 (a9 r hr) h
  ·rcases R5 with h | h | h
   ·exact SL.1 (a6 r h) hr
   ·exact SL.1 (a7 r h) hr
   ·omega
 ·rcases hr with hr | hr
  ·rcases R5 with h | h | h
   ·exact nM.1 (a5 r hr) h
   ·exact nM.1 (a4 r h).2 hr
   ·exact SL.1 (a7 r hr) h
  ·rcases R5 with h | h | h
   ·exact SL.1 (a8 r h) hr
   ·exact SL.1 (a9 r h) hr
   ·omega
omit [jA]in
def PG.swap{ops:Array Oper}{nx:Nat}{e1 e:wD}(hp:zed nx e1 e)(h1:PG C ops nx e1 st st1)(h2:PG C ops nx e st1 st2):
  ∃st1',PG C ops nx e st st1'∧PG C ops nx e1 st1' st2:=by
 obtain⟨f1,f2,f3⟩:=h1.frame;obtain⟨g1,g2,g3⟩:=h2.frame;obtain⟨x,k1,k2,k3⟩:=h2.loc (st2:=st) (λt ht=>(f1 t λe=>hp.s1 t e ht).symm) (λr hr=>(f2 r λh=>hp.h1 r h hr).symm) f3.symm;obtain⟨m1,m2,m3⟩:=k1.frame;obtain⟨y,n1,n2,n3⟩:=h1.loc (st2:=x) (λt ht=>m1 t λe=>hp.s2 t e ht) (λr hr=>m2 r λh=>hp.h2 r h hr) m3;obtain⟨p1,p2,p3⟩:=n1.frame
 have hy:y=st2:=by
  have es:y.s=st2.s:=by
   funext t
   by_cases t1:e1.dst=some t
   ·rw[n2 t t1,g1 t (hp.s3 t t1)]
   ·rw[p1 t t1]
    by_cases t2:e.dst=some t
    ·rw[k2 t t2]
    ·rw[m1 t t2,g1 t t2,f1 t t1]
  have eh:y.h=st2.h:=by
   funext r;have toAt:∀{e:wD},e.to nx r→e.at nx r:=λh=> .inr h
   by_cases t1:e1.to nx r
   ·rw[n3 r t1,g2 r λh=>hp.h2 r h (toAt t1)]
   ·rw[p2 r t1]
    by_cases t2:e.to nx r
    ·rw[k3 r t2]
    ·rw[m2 r t2,g2 r t2,f2 r t1]
  have en:y.nx=st2.nx:=by rw[p3,m3,g3,f3]
  cases y;cases st2;simp_all
 exact⟨x,k1,hy▸n1⟩
inductive TH(C:Cx)(ops:Array Oper)(nx:Nat):List wD→St→St→Prop
 | nil (st:St):TH C ops nx [] st st
 | cons {e:wD} {l:List wD} {st st1 st2:St} (h:PG C ops nx e st st1) (k:TH C ops nx l st1 st2):TH C ops nx (e :: l) st st2
omit [jA]in
def TH.front{ops:Array Oper}{nx:Nat}{e:wD}{l2:List wD}:∀(l1:List wD) (st:St),(∀e1∈l1,zed nx e1 e)→TH C ops nx (l1++e :: l2) st st2→∃st1,PG C ops nx e st st1∧TH C ops nx (l1++l2) st1 st2
 | [],st,_,h=>by cases h with | cons h k=>exact⟨_,h,k⟩
 | e1 :: l1,st,hp,h=>by
  cases h with
  | cons h k=>
   obtain⟨s,k1,k2⟩:=TH.front l1 _ (λe h=>hp e (List.mem_cons_of_mem _ h)) k;obtain⟨x,n1,n2⟩:=h.swap (hp e1 (by simp)) k1;exact⟨x,n1, .cons n2 k2⟩
omit [jA]in
def zjw:∀(l:List Oper) (acc:List Nat),∃t,pD acc l=acc++t
 | [],acc=>⟨[],by simp[pD]⟩
 | o :: l,acc=>by
  obtain⟨t,h⟩:=zjw l (acc++[zao acc o.after.toList]);exact⟨_,by simp only[pD];rw[h,List.append_assoc]⟩
omit [jA]in
def zkt:∀(l:List Oper) (acc:List Nat) (k:Nat) (o:Oper),l[k]?=some o→
  (pD acc l).getD (acc.length+k) 0=zao ((pD acc l).take (acc.length+k)) o.after.toList
 | [],acc,k,o,h=>by simp at h
 | x :: l,acc,0,o,h=>by
  simp at h;subst h;simp only[pD,Nat.add_zero];obtain⟨t,ht⟩:=zjw l (acc++[zao acc x.after.toList]);rw[ht,List.append_assoc,List.getD_eq_getElem?_getD,List.getElem?_append_right (Nat.le_refl _)];simp
 | x :: l,acc,k+1,o,h=>by
  have:=zkt l (acc++[zao acc x.after.toList]) k o (by simpa using h);simp only[List.length_append,List.length_singleton]at this;simp only[pD];rw[show acc.length+(k+1)=acc.length+1+k by omega];exact this
omit [jA]in
def zkj(ms:List Nat)(d:Nat):∀(es:List Edge) (s:Nat),Nat.testBit (es.foldl (λs e=>bif Region.binds .any e then s|||(2^e.on|||ms.getD e.on 0)else s) s) d=true→
  Nat.testBit s d=true∨∃e∈es,Region.binds .any e=true∧(e.on=d∨Nat.testBit (ms.getD e.on 0) d=true)
 | [],s,h=> .inl h
 | e :: es,s,h=>by
  rcases zkj ms d es _ h with h1 | ⟨x,h1,h2⟩
  ·cases hb:Region.binds .any e
   ·simp only[hb,cond_false]at h1;exact .inl h1
   ·simp only[hb,cond_true,Nat.testBit_or,Bool.or_eq_true,Nat.testBit_two_pow,decide_eq_true_eq]at h1
    rcases h1 with h1 | h1 | h1
    ·exact .inl h1
    ·exact .inr ⟨e,by simp,hb, .inl h1⟩
    ·exact .inr ⟨e,by simp,hb, .inr h1⟩
  ·exact .inr ⟨x,List.mem_cons_of_mem _ h1,h2⟩
omit [jA]in
def zvH{ops:Array Oper}{S:Nat→Prop}(hE:∀i o,ops[i]?=some o→∀e∈o.after,Region.binds .any e=true→e.on<i)
  (hS:∀k o,S k→ops[k]?=some o→∀e∈o.after,Region.binds .any e=true→S e.on):
  ∀(i:Nat) (o:Oper),ops[i]?=some o→(∀e∈o.after,Region.binds .any e=true→S e.on)→∀d,Nat.testBit ((pD [] ops.toList).getD i 0) d=true→S d:=by
 intro i;induction i using Nat.strongRecOn with
 | _ i ih=>
  intro o ho he d hd;have h0:=zkt ops.toList [] i o (by simpa using ho);simp only[List.length_nil,Nat.zero_add]at h0;rw[h0]at hd
  have hi:i<ops.size:=by
   rcases Nat.lt_or_ge i ops.size with h | h
   ·exact h
   ·rw[Array.getElem?_eq_none h]at ho;cases ho
  rcases zkj _ d _ _ hd with h1 | ⟨e,h1,h2,h3⟩
  ·simp at h1
  ·have h1:e∈o.after:=by simpa using h1
   have K0:=he e h1 h2;have OV:=hE i o ho e h1 h2
   rcases h3 with h3 | h3
   ·rw[←h3];exact K0
   ·have h4:((pD [] ops.toList).take i).getD e.on 0=(pD [] ops.toList).getD e.on 0:=by
     rw[List.getD_eq_getElem?_getD,List.getD_eq_getElem?_getD,List.getElem?_take,if_pos OV]
    rw[h4]at h3;have ho2:ops[e.on]?=some ops[e.on]:=Array.getElem?_eq_getElem (by omega);exact ih e.on OV _ ho2 (hS e.on _ K0 ho2) d h3
omit [jA]in
def zfX{ops:Array Oper}{listed:Array Bool}{i:Nat}:i∈Region.ready .any ops listed↔
  i<ops.size∧listed.getD i true=false∧∃o,ops[i]?=some o∧∀e∈o.after,Region.binds .any e=true→listed.getD e.on false=true:=by
 unfold Region.ready;rw[List.mem_filter,List.mem_range];constructor
 ·rintro⟨h1,h2⟩;simp only[Bool.and_eq_true,Bool.not_eq_true']at h2;refine⟨h1,h2.1,?_⟩;rw[Array.getElem?_eq_getElem h1]at h2;refine⟨ops[i],Array.getElem?_eq_getElem h1,λe he hb=>?_⟩;have h3:=h2.2;simp only[Option.map_some,Option.getD_some]at h3;rw[Array.all_eq_true']at h3;have:=h3 e he;simpa[hb]using this
 ·rintro⟨h1,h2,o,h3,h4⟩;refine⟨h1,?_⟩;rw[h2,h3];simp only[Bool.not_false,Bool.true_and,Option.map_some,Option.getD_some];rw[Array.all_eq_true'];intro e he;cases hb:Region.binds .any e
  ·rfl
  ·simp[h4 e he hb]
def zvf{w:World}{ρ:Nat→Option RI}{bad:Nat→Prop}{v:Value}(h:VR w ρ bad v (.tup [])):v=undef:=by
 cases h with
 | tup _ vs hs hv=>
  have:vs= #[]:=by simpa using hs
  subst this;rfl
def zlh(hC:UF C)(hΦ:gG C){ops:Array Oper}{nx:Nat}{Q:Exit→Act→World→Prop}{stf:St}(hE:∀i o,ops[i]?=some o→∀e∈o.after,Region.binds .any e=true→e.on<i)
  (D:Nat→Prop) (hD:∀o∈ops,∀d,o.dst=some d→D d) (ρ0:Nat→Option RI)
  (NV:∀a' w' ρ',ZA C w0 outer own ρ' stf a' w'→(∀q qi,ρ0 q=some qi→ρ' q=some qi)→(∀q,nx+128 *ops.size≤q→ρ' q=none)→Q .normal a' w'):
  ∀(fuel:Nat) (l:List wD) (listed:Array Bool) (st:St) (a:Act) (w:World) (ρ:Nat→Option RI),
   l.length=fuel→TH C ops nx l st stf→l.Pairwise (λe1 e=>e1.i<e.i∧(Nat.testBit ((pD [] ops.toList).getD e.i 0) e1.i=true∨uJ nx e1 e=true))→
   listed.size=ops.size→(∀i,i<ops.size→(listed.getD i true=false↔∃e∈l,e.i=i))→(∀e∈l,e.i<ops.size)→
   (∀k o,listed.getD k false=true→ops[k]?=some o→∀e∈o.after,Region.binds .any e=true→listed.getD e.on false=true)→
   ZA C w0 outer own ρ st a w→(∀e∈l,∀q,q<128→ρ (nx+128 *e.i+q)=none)→(∀q,nx+128 *ops.size≤q→ρ q=none)→(∀q qi,ρ0 q=some qi→ρ q=some qi)→
   wpAny C.P .any ops Q fuel listed a w
 | 0,l,listed,st,a,w,ρ,hl,ht,hp,YV,VX,OV,U0,hr,hf,hN,hx=>by
  obtain rfl:l=[]:=List.eq_nil_of_length_eq_zero hl;cases ht;refine⟨?_,NV a w ρ hr hx hN⟩;refine List.eq_nil_iff_forall_not_mem.2 λi hi=>?_;obtain⟨h1,h2,_⟩:=zfX.1 hi;obtain⟨e,he,_⟩:=(VX i h1).1 h2;simp at he
 | fuel+1,l,listed,st,a,w,ρ,hl,ht,hp,YV,VX,OV,U0,hr,hf,hN,hx=>by
  have getF:∀k,k<ops.size→listed.getD k true=true→listed.getD k false=true:=λk hk h=>by
   rw[Array.getD_eq_getD_getElem?]at h⊢;rw[Array.getElem?_eq_getElem (by omega)]at h⊢;exact h
  have getT:∀k,listed.getD k false=true→listed.getD k true=true:=λk h=>by
   rw[Array.getD_eq_getD_getElem?]at h⊢;cases h2:listed[k]? with
   | none=>rfl
   | some b=>rw[h2]at h;exact h
  refine⟨λJ2=>?_,λi hi=>?_⟩
  ·exfalso;cases l with
   | nil=>simp at hl
   | cons e l=>
    have he:=OV e (by simp)
    have:e.i∈Region.ready .any ops listed:=zfX.2 ⟨he,(VX _ he).2 ⟨e,by simp,rfl⟩,ops[e.i],Array.getElem?_eq_getElem he,λx hx hb=>by
     have h1:=hE _ _ (Array.getElem?_eq_getElem he) x hx hb;refine getF _ (by omega) ?_;cases h2:listed.getD x.on true with
     | true=>rfl
     | false=>
      obtain⟨e',h3,h4⟩:=(VX x.on (by omega)).1 h2
      rcases List.mem_cons.1 h3 with rfl | h3
      ·omega
      ·have:=(List.rel_of_pairwise_cons hp h3).1;omega⟩
    rw[J2]at this;simp at this
  ·obtain⟨h1,h2,o,ho,h4⟩:=zfX.1 hi;obtain⟨e,he,rfl⟩:=(VX i h1).1 h2;obtain⟨l1,l2,rfl⟩:=List.append_of_mem he
   have hap:∀e1∈l1,zed nx e1 e:=λe1 PY=>by
    have h5:=(List.pairwise_append.1 hp).2.2 e1 PY e (by simp);refine zrG (by omega) (h5.2.resolve_left λhb=>?_);have:=zvH (S:=λk=>listed.getD k false=true) hE (λk o hk L6=>U0 k o hk L6) e.i o ho h4 e1.i hb;have h6:=(VX e1.i (OV e1 (by simp[PY]))).2 ⟨e1,by simp[PY],rfl⟩;rw[getT _ this]at h6;cases h6
   obtain⟨s1,k1,k2⟩:=ht.front l1 st hap;obtain⟨o',ho',hdst,GW⟩:=k1;rw[ho]at ho';cases ho'
   -- what is left
   have rest:∀a1 w1 ρ1,ZA C w0 outer own ρ1 s1 a1 w1→(∀q,¬(nx+128 *e.i≤q∧q<nx+128 *e.i+128)→ρ1 q=ρ q)→(∀q qi,ρ q=some qi→ρ1 q=some qi)→
     wpAny C.P .any ops Q fuel (listed.setIfInBounds e.i true) a1 w1:=λa1 w1 ρ1 PV j9 Y1=>by
    have SY:∀e'∈l1++l2,e'.i≠e.i:=λe' h=>by
     rcases List.mem_append.1 h with h | h
     ·have:=((List.pairwise_append.1 hp).2.2 e' h e (by simp)).1;omega
     ·have:=(List.rel_of_pairwise_cons (List.pairwise_append.1 hp).2.1 h).1;omega
    have V4:∀k d,k≠e.i→(listed.setIfInBounds e.i true).getD k d=listed.getD k d:=λk d hk=>by
     rw[Array.getD_eq_getD_getElem?,Array.getD_eq_getD_getElem?,Array.getElem?_setIfInBounds_ne (λh=>hk h.symm)]
    have UX:∀d,(listed.setIfInBounds e.i true).getD e.i d=true:=λd=>by
     rw[Array.getD_eq_getD_getElem?,Array.getElem?_setIfInBounds_self];simp[YV,h1]
    refine zlh hC hΦ hE D hD ρ0 NV fuel (l1++l2) _ s1 a1 w1 ρ1 (by simp at hl⊢;omega) k2 ?_ (by simp[YV]) (λi hi=>?_) (λe' CX=>OV e' ?_) ?_ PV (λe' CX q hq=>?_) (λq hq=>?_) (λq qi h=>Y1 q qi (hx q qi h))
    ·refine hp.sublist ?_;exact(List.sublist_cons_self e l2).append_left l1
    ·by_cases t6:i=e.i
     ·subst t6;rw[UX];constructor
      ·intro h;cases h
      ·rintro⟨e',h5,h6⟩;exact absurd h6 (SY e' h5)
     ·rw[V4 i true t6,VX i hi];constructor
      ·rintro⟨e',h5,h6⟩;refine⟨e',?_,h6⟩
       rcases List.mem_append.1 h5 with h5 | h5
       ·exact List.mem_append_left _ h5
       ·rcases List.mem_cons.1 h5 with rfl | h5
        ·exact absurd h6.symm t6
        ·exact List.mem_append_right _ h5
      ·rintro⟨e',h5,h6⟩;refine⟨e',?_,h6⟩
       rcases List.mem_append.1 h5 with h5 | h5
       ·exact List.mem_append_left _ h5
       ·exact List.mem_append_right _ (List.mem_cons_of_mem _ h5)
    ·rcases List.mem_append.1 CX with h5 | h5
     ·exact List.mem_append_left _ h5
     ·exact List.mem_append_right _ (List.mem_cons_of_mem _ h5)
    ·intro k o2 hk L6 x nZ hb
     by_cases hxe:x.on=e.i
     ·rw[hxe];exact UX false
     ·rw[V4 _ _ hxe]
      by_cases hke:k=e.i
      ·subst hke;rw[ho]at L6;cases L6;exact h4 x nZ hb
      ·rw[V4 _ _ hke]at hk;exact U0 k o2 hk L6 x nZ hb
    ·rw[j9 _ (by have:=SY e' CX;omega)];refine hf e' ?_ q hq
     rcases List.mem_append.1 CX with h5 | h5
     ·exact List.mem_append_left _ h5
     ·exact List.mem_append_right _ (List.mem_cons_of_mem _ h5)
    ·rw[j9 q (by omega)];exact hN q hq
   have run:RF C (nx+128 *e.i) o e.ls e.rd e.wr st some=some s1→o.wp C.P a w (wpAny C.P .any ops Q fuel (listed.setIfInBounds e.i true)) Q:=λhs=>by
    refine zvc hr hC hΦ ⟨_,hN⟩ (λq hq=>hf e (by simp) q hq) hs _ Q λa1 w1 hA=>?_;obtain⟨ρ1,PV,j9,Y1⟩:=hA;exact rest a1 w1 ρ1 PV (λq hq=>j9 q hq) Y1
   unfold wpOp;rw[ho]
   rcases GW with⟨hg,hs⟩ | ⟨j,want,dj,hg,o0,_,⟨hv,hs⟩ | ⟨hv,hs⟩⟩
   ·simp only;rw[if_pos (by simp[Region.wanted,hg])];exact .inl (run hs)
   ·have R2:=hr.slots dj;rw[hv]at R2
    have hb:a.tmps.getD dj undef= .bool want:=by
     generalize a.tmps.getD dj undef=v at R2;cases R2;rfl
    have rZ:dj<a.tmps.size:=by
     rcases Nat.lt_or_ge dj a.tmps.size with h | h
     ·exact h
     ·rw[Array.getD_eq_getD_getElem?,Array.getElem?_eq_none h]at hb;cases hb
    have hy:yielded ops a.tmps j=some want:=by
     unfold yielded;rw[o0];simp only[Option.bind_some];rw[Array.getD_eq_getD_getElem?,Array.getElem?_eq_getElem rZ]at hb;rw[Array.getElem?_eq_getElem rZ];simp only[Option.getD_some]at hb;rw[hb]
    simp only;rw[if_pos (by simp[Region.wanted,hg,hy])];exact .inl (run hs)
   ·have bX:Region.wanted o (yielded ops a.tmps)=false:=by
     have R2:=hr.slots dj
     rcases hv with hv | hv
     ·rw[hv]at R2;have hu:=zvf R2
      have hy:yielded ops a.tmps j=none:=by
       unfold yielded;rw[o0];simp only[Option.bind_some];split
       ·rename_i b hb;rw[Array.getD_eq_getD_getElem?,hb]at hu;cases hu
       ·rfl
      simp[Region.wanted,hg,hy]
     ·rw[hv]at R2
      have hb:a.tmps.getD dj undef= .bool (!want):=by
       generalize a.tmps.getD dj undef=v at R2;cases R2;rfl
      have hy:yielded ops a.tmps j=some (!want):=by
       unfold yielded;rw[o0];simp only[Option.bind_some];rw[Array.getD_eq_getD_getElem?]at hb;cases h2:a.tmps[dj]? with
       | none=>rw[h2]at hb;cases hb
       | some v=>rw[h2]at hb;simp only[Option.getD_some]at hb;rw[hb]
      simp only[Region.wanted,hg,hy];cases want<;>rfl
    simp only;rw[if_neg (by simp[bX])];obtain⟨p1,_,_⟩:=hr.put (v:=undef) (d:= .tup []) (.tup [] #[] rfl λj hj=>by simp at hj) hs;exact rest _ w ρ p1 (λ_ _=>rfl) (λ_ _ h=>h)
omit [jA]in
def PG.keeps{ops:Array Oper}{nx:Nat}{e:wD}(h:PG C ops nx e st st'):nD nx st.h st'.h:=by
 obtain⟨o,h1,h2,h3⟩:=h
 have stp:RF C (nx+128 *e.i) o e.ls e.rd e.wr st some=some st'→nD nx st.h st'.h:=λh=>by
  obtain⟨x,k1,rfl⟩:=zfF h;have L:=zko (n:=nx) (i:=nx+128 *e.i) (by omega) o x k1;intro r row hr JV hm;have hr:r<nx:=hr;show HL _ _ _ _ r=_
  by_cases hw:r∈e.wr
  ·rw[zgQ (.inl hw)];exact L.rows r row hr (by show AG e.rd e.wr st.h r=_;simp only[AG,eL.2 hw,cond_true];exact JV) hm
  ·rw[zk4 (λh=>h.elim hw λh=>by omega)];exact JV
 have skp:VA C o.dst st (.tup []) some=some st'→nD nx st.h st'.h:=λh=>(zdf (π:=λr=>r<nx) (V.tup []) st' h).rows
 rcases h3 with⟨_,h⟩ | ⟨j,want,dj,_,_,_,⟨_,h⟩ | ⟨_,h⟩⟩
 ·exact stp h
 ·exact stp h
 ·exact skp h
omit [jA]in
def TH.frame{ops:Array Oper}{nx:Nat}(hD:∀o∈ops,∀d,o.dst=some d→D d){l:List wD}(h:TH C ops nx l st st'):
  (∀s,¬D s→st'.s s=st.s s)∧nD nx st.h st'.h∧st'.nx=st.nx:=by
 induction h with
 | nil=>exact⟨λ_ _=>rfl,nD.refl _ _,rfl⟩
 | cons h k ih=>
  obtain⟨f1,f2,f3⟩:=h.frame;obtain⟨o,h1,h2,_⟩:=id h;refine⟨λs hs=>?_,h.keeps.trans ih.2.1,ih.2.2.trans f3⟩;rw[ih.1 s hs,f1 s λhd=>hs (hD o (Array.mem_of_getElem? h1) s (h2▸hd))]
omit [jA]in
def zsU{mask nx:Nat}{rs:List wD}{e:wD}(h:nJ mask nx rs e=true):∀e1∈rs,Nat.testBit mask e1.i=true∨uJ nx e1 e=true:=λe1 he=>by
 have:=List.all_eq_true.1 h e1 he;simpa using this
omit [jA]in
def zlq{ops:Array Oper}{nx:Nat}{K:St→Option R}{r:R}:∀(m k:Nat) (rs:List wD) (st:St),k+m=ops.size→
  vJ C ops (pD [] ops.toList) nx (GF k (ops.toList.drop k)) rs st K=some r→
  ∃l stf,TH C ops nx l st stf∧K stf=some r∧l.map (·.i)=List.range' k m∧(∀i o,k≤i→ops[i]?=some o→∀e∈o.after,Region.binds .any e=true→e.on<i)∧
   (∀e∈l,∀e1∈rs,Nat.testBit ((pD [] ops.toList).getD e.i 0) e1.i=true∨uJ nx e1 e=true)∧
   l.Pairwise λe1 e=>e1.i<e.i∧(Nat.testBit ((pD [] ops.toList).getD e.i 0) e1.i=true∨uJ nx e1 e=true)
 | 0,k,rs,st,hk,IV=>by
  have:ops.toList.drop k=[]:=List.drop_eq_nil_of_le (by simp;omega);rw[this]at IV;refine⟨[],st, .nil _,IV,rfl,λi o hi ho=>?_,λe he=>by simp at he, .nil⟩;rw[Array.getElem?_eq_none (by omega)]at ho;cases ho
 | m+1,k,rs,st,hk,IV=>by
  have OV:k<ops.size:=by omega
  have ho:ops[k]?=some ops[k]:=Array.getElem?_eq_getElem OV
  have M6:GF k (ops.toList.drop k)=(k,ops[k]) :: GF (k+1) (ops.toList.drop (k+1)):=by
   rw[List.drop_eq_getElem_cons (by simpa using OV)];rfl
  rw[M6]at IV;simp only[vJ]at IV;cases hed:zlP k ops[k]
  case false=>simp[hed]at IV
  simp only[hed,aD]at IV
  have N6:∀e∈(ops[k]).after,Region.binds .any e=true→e.on<k:=λe he hb=>by
   have:=List.all_eq_true.1 hed e (by simpa using he);simp only[hb,Bool.not_true,Bool.false_or,Nat.blt_eq]at this;exact this
  -- one operation more
  have more:∀(e:wD) (st1:St),e.i=k→nJ ((pD [] ops.toList).getD k 0) nx rs e=true→PG C ops nx e st st1→
    vJ C ops (pD [] ops.toList) nx (GF (k+1) (ops.toList.drop (k+1))) (e :: rs) st1 K=some r→
    ∃l stf,TH C ops nx l st stf∧K stf=some r∧l.map (·.i)=List.range' k (m+1)∧(∀i o,k≤i→ops[i]?=some o→∀e∈o.after,Region.binds .any e=true→e.on<i)∧
     (∀e∈l,∀e1∈rs,Nat.testBit ((pD [] ops.toList).getD e.i 0) e1.i=true∨uJ nx e1 e=true)∧
     l.Pairwise λe1 e=>e1.i<e.i∧(Nat.testBit ((pD [] ops.toList).getD e.i 0) e1.i=true∨uJ nx e1 e=true):=λe st1 hei DX O6 XV=>by
   obtain⟨l,stf,k1,k2,k3,k4,k5,k6⟩:=zlq m (k+1) (e :: rs) st1 (by omega) XV
   have hli:∀e'∈l,k+1≤e'.i:=λe' CX=>by
    have:e'.i∈l.map (·.i):=List.mem_map.2 ⟨e',CX,rfl⟩;rw[k3,List.mem_range']at this;obtain⟨_,_,h⟩:=this;omega
   refine⟨e :: l,stf, .cons O6 k1,k2,by rw[List.map_cons,k3,hei,List.range'_succ],λi o hi hio=>?_,λe' CX e1 PY=>?_,List.pairwise_cons.2 ⟨λe' CX=>⟨?_,?_⟩,k6⟩⟩
   ·rcases Nat.lt_or_eq_of_le hi with h | h
    ·exact k4 i o h hio
    ·subst h;rw[ho]at hio;cases hio;exact N6
   ·rcases List.mem_cons.1 CX with rfl | CX
    ·rw[hei];exact zsU DX e1 PY
    ·exact k5 e' CX e1 (List.mem_cons_of_mem _ PY)
   ·have:=hli e' CX;omega
   ·exact k5 e' CX e (by simp)
  have skip:∀(j:Nat) (want:Bool) (dj:Nat),(ops[k]).guard=some (j,want)→(ops[j]?).bind (·.dst)=some dj→(st.s dj= .tup []∨st.s dj= .bool (!want))→
    (bif nJ ((pD [] ops.toList).getD k 0) nx rs ⟨k,(ops[k]).dst,[dj],[],[]⟩ then VA C (ops[k]).dst st (.tup []) fun st'=>
     vJ C ops (pD [] ops.toList) nx (GF (k+1) (ops.toList.drop (k+1))) (⟨k,(ops[k]).dst,[dj],[],[]⟩ :: rs) st' K else none)=some r→
    ∃l stf,TH C ops nx l st stf∧K stf=some r∧l.map (·.i)=List.range' k (m+1)∧(∀i o,k≤i→ops[i]?=some o→∀e∈o.after,Region.binds .any e=true→e.on<i)∧
     (∀e∈l,∀e1∈rs,Nat.testBit ((pD [] ops.toList).getD e.i 0) e1.i=true∨uJ nx e1 e=true)∧
     l.Pairwise λe1 e=>e1.i<e.i∧(Nat.testBit ((pD [] ops.toList).getD e.i 0) e1.i=true∨uJ nx e1 e=true):=λj want dj hg o0 hv h=>by
   cases DX:nJ ((pD [] ops.toList).getD k 0) nx rs ⟨k,(ops[k]).dst,[dj],[],[]⟩
   case false=>rw[DX]at h;cases h
   simp only[DX,cond_true]at h;rw[OS]at h;obtain⟨st1,h1,h2⟩:=Option.bind_eq_some_iff.1 h;exact more _ st1 rfl DX ⟨_,ho,rfl, .inr ⟨j,want,dj,hg,o0,by simp, .inr ⟨hv,h1⟩⟩⟩ h2
  split at IV
  ·rename_i hg;cases DX:nJ ((pD [] ops.toList).getD k 0) nx rs ⟨k,(ops[k]).dst,wO ops[k],(DI ops[k] st).1,(DI ops[k] st).2⟩
   case false=>rw[DX]at IV;cases IV
   simp only[DX,aD]at IV;unfold RF at IV;rw[vS]at IV;obtain⟨x,h1,h2⟩:=Option.bind_eq_some_iff.1 IV;exact more _ _ rfl DX ⟨_,ho,rfl, .inl ⟨hg,zgi h1⟩⟩ h2
  ·rename_i j want hg;split at IV
   ·cases IV
   rename_i dj o0;split at IV
   ·rename_i hs;exact skip j want dj hg o0 (.inl hs) IV
   ·rename_i t hs
    have UX:({st with s:=CA st.s dj (.bool t)}:St)=st:=by
     have:CA st.s dj (.bool t)=st.s:=by
      funext q
      by_cases hq:q=dj
      ·subst hq;rw[RA,hs]
      ·rw[DA _ _ _ _ hq]
     rw[this]
    by_cases d9:t=want
    ·subst d9
     have IV:(bif nJ ((pD [] ops.toList).getD k 0) nx rs ⟨k,(ops[k]).dst,dj :: wO ops[k],(DI ops[k] {st with s:=CA st.s dj (.bool t)}).1,(DI ops[k] {st with s:=CA st.s dj (.bool t)}).2⟩then
       RF C (nx+128 *k) ops[k] (dj :: wO ops[k]) (DI ops[k] {st with s:=CA st.s dj (.bool t)}).1 (DI ops[k] {st with s:=CA st.s dj (.bool t)}).2 {st with s:=CA st.s dj (.bool t)} λst'=>
        vJ C ops (pD [] ops.toList) nx (GF (k+1) (ops.toList.drop (k+1))) (⟨k,(ops[k]).dst,dj :: wO ops[k],(DI ops[k] {st with s:=CA st.s dj (.bool t)}).1,(DI ops[k] {st with s:=CA st.s dj (.bool t)}).2⟩ :: rs) st' K else none)=some r:=by
      cases t<;>exact IV
     rw[UX]at IV;cases DX:nJ ((pD [] ops.toList).getD k 0) nx rs ⟨k,(ops[k]).dst,dj :: wO ops[k],(DI ops[k] st).1,(DI ops[k] st).2⟩
     case false=>rw[DX]at IV;cases IV
     simp only[DX,cond_true]at IV;unfold RF at IV;rw[vS]at IV;obtain⟨x,h1,h2⟩:=Option.bind_eq_some_iff.1 IV;exact more _ _ rfl DX ⟨_,ho,rfl, .inr ⟨j,t,dj,hg,o0,by simp, .inl ⟨hs,zgi h1⟩⟩⟩ h2
    ·have dX:t= !want:=by cases t<;>cases want<;>simp_all
     have IV:(bif nJ ((pD [] ops.toList).getD k 0) nx rs ⟨k,(ops[k]).dst,[dj],[],[]⟩then VA C (ops[k]).dst {st with s:=CA st.s dj (.bool t)} (.tup []) λst'=>
       vJ C ops (pD [] ops.toList) nx (GF (k+1) (ops.toList.drop (k+1))) (⟨k,(ops[k]).dst,[dj],[],[]⟩ :: rs) st' K else none)=some r:=by
      subst dX;cases want<;>exact IV
     rw[UX]at IV;exact skip j want dj hg o0 (.inr (by rw[hs,dX])) IV
   ·cases IV
def zvT(hC:UF C)(hΦ:gG C){id:Nat}{ops:Array Oper}{Q:Exit→Act→World→Prop}{K:St→Option R}{r:R}(hD:∀o∈ops,∀d,o.dst=some d→D d)
  (hr:ZA C w0 outer own ρ st a w) (hf:∀q,st.nx≤q→ρ q=none)
  (IV:vJ C ops (pD [] ops.toList) st.nx (GF 0 ops.toList) [] st (λst'=>K {st' with nx:=st.nx+128 *ops.size})=some r)
  (NV:∀st' a' w' ρ',pC C w0 outer own D st ρ st' a' w' ρ'→K st'=some r→Q .normal a' w'):(Code.region id ops true).wp C.P Q a w:=by
 obtain⟨l,stf,k1,k2,k3,k4,k5,k6⟩:=zlq ops.size 0 [] st (by omega) IV;obtain⟨f1,f2,f3⟩:=k1.frame hD
 have P6:∀ i,i<ops.size↔∃ e ∈ l,e.i=i:=fun i=>by
  have : i ∈ l.map (·.i) ↔ i < ops.size := by rw [k3, List.mem_range']; constructor
                                              ·rintro⟨_,h,rfl⟩;omega
                                              ·intro h;exact⟨i,h,by omega⟩
  rw[←this,List.mem_map]
 have Q6:∀i,i<ops.size→(Array.replicate ops.size false).getD i true=false:=λi hi=>by
  rw[Array.getD_eq_getD_getElem?,Array.getElem?_eq_getElem (by simpa using hi)];simp
 have R6:∀i,(Array.replicate ops.size false).getD i false=false:=λi=>by
  rw[Array.getD_eq_getD_getElem?];cases h:(Array.replicate ops.size false)[i]? with
  | none=>rfl
  | some b=>rw[Array.getElem?_replicate]at h;split at h<;>simp_all
 obtain⟨m1,m2⟩:=hr.heap.world (w':={w with drawn:=w.drawn+1}) ⟨rfl,rfl,rfl,Nat.le_refl _⟩ rfl;have PV:ZA C w0 outer own ρ st a {w with drawn:=w.drawn+1}:=⟨m1,λi=>m2 _ _ (hr.slots i),hr.size,hr.defers,hr.glob⟩;refine wp_region_any hC.mixed ?_
 refine zlh hC hΦ (λi o ho=>k4 i o (Nat.zero_le _) ho) D hD ρ (λa' w' ρ' h1 h2 h3=>?_) ops.size l _ st a _ ρ ?_ k1 k6 (by simp) (λi hi=>⟨λ_=>(P6 i).1 hi,λ_=>Q6 i hi⟩) (λe he=>(P6 e.i).2 ⟨e,he,rfl⟩)
  (λk o hk=>by rw[R6]at hk;cases hk) PV (λe he q hq=>hf _ (by omega)) (λq hq=>hf q (by omega)) (λ_ _ h=>h)
 ·refine NV {stf with nx:=st.nx+128 *ops.size} a' w' ρ' ⟨⟨h1.heap,h1.slots,h1.size,h1.defers,h1.glob⟩,h2,f1,f2,Nat.le_add_right _ _,h3⟩ k2
 ·have:=congrArg List.length k3;simpa using this
end
end Go.D
namespace Go.D
variable [jA]
def AT:Ex→Exit
 | .normal=> .normal
 | .exit id=> .exit id
 | .ret=> .ret
section
variable {C:Cx} {w0:World} {outer own D:Nat→Prop} {R:Type} {st st1 st2:St} {ρ ρ1 ρ2:Nat→Option RI} {a a1 a2:Act} {w w1 w2:World}
def pC.refl(hr:ZA C w0 outer own ρ st a w)(hf:∀q,st.nx≤q→ρ q=none):pC C w0 outer own D st ρ st a w ρ:=
 ⟨hr,λ_ _ h=>h,λ_ _=>rfl,nD.refl _ _,Nat.le_refl _,hf⟩
def pC.trans(h:pC C w0 outer own D st ρ st1 a1 w1 ρ1)(k:pC C w0 outer own D st1 ρ1 st2 a2 w2 ρ2):pC C w0 outer own D st ρ st2 a2 w2 ρ2:=
 ⟨k.rel,λq qi hq=>k.ext _ _ (h.ext _ _ hq),λs hs=>(k.slots s hs).trans (h.slots s hs),h.keeps.trans (k.keeps.le h.nx),Nat.le_trans h.nx k.nx,k.fresh⟩
def pC.mono{D':Nat→Prop}(h:pC C w0 outer own D st ρ st1 a1 w1 ρ1)(hd:∀s,D s→D' s):pC C w0 outer own D' st ρ st1 a1 w1 ρ1:=
 ⟨h.rel,h.ext,λs hs=>h.slots s λe=>hs (hd s e),h.keeps,h.nx,h.fresh⟩
omit [jA]in
def zq4{s:Nat}{ids:List Nat}(h:zha st s=some ids):rJ st.h ids:=by
 unfold zha at h;cases hb:Nat.ble 1000000 s
 ·simp only[hb,cond_false]at h;split at h
  ·rename_i hf;cases h;exact zcj hf
  ·cases h
 ·simp only[hb,cond_true]at h;split at h
  ·split at h
   ·split at h
    ·rename_i hf;cases h;exact XT hf
    ·cases h
   ·cases h
  ·cases h
def nO:∀(pre:List Nat) (st st1:St),xK pre st=some st1→ZA C w0 outer own ρ st a w→ZA C w0 outer own ρ st1 a w∧st1.s=st.s∧st1.nx=st.nx∧∀n,nD n st.h st1.h
 | [],st,st1,h,hr=>by simp[xK]at h;subst h;exact⟨hr,rfl,rfl,λn=>nD.refl n _⟩
 | s :: pre,st,st1,h,hr=>by
  simp only[xK]at h;split at h
  case h_2=>cases h
  rename_i ids hf;obtain⟨m1,m2⟩:=hr.heap.mark ids;have PV:ZA C w0 outer own ρ {st with h:=DC st.h ids} a w:=hr.turn m1 m2;obtain⟨k1,k2,k3,k4⟩:=nO pre _ st1 h PV;exact⟨k1,k2,k3,λn=>(PN _ (zq4 hf)).trans (k4 n)⟩
def pC.pre{pre:List Nat}(hp:xK pre st=some st1)(hr:ZA C w0 outer own ρ st a w)(h:pC C w0 outer own D st1 ρ st2 a2 w2 ρ2):pC C w0 outer own D st ρ st2 a2 w2 ρ2:=by
 obtain⟨_,k2,k3,k4⟩:=nO pre st st1 hp hr;exact⟨h.rel,h.ext,λs hs=>by rw[h.slots s hs,k2],(k4 _).trans (by rw[←k3];exact h.keeps),by rw[←k3];exact h.nx,h.fresh⟩
def pC.unlock{j:JI}{b:St}(h:pC C w0 outer own D (kD j b) ρ st1 a1 w1 ρ1):pC C w0 outer own D b ρ (Go.D.unlock b st1) a1 w1 ρ1:=
 ⟨h.rel.unlock b,h.ext,h.slots,zrx h.keeps,h.nx,h.fresh⟩
def pC.install{j:JI}{b:St}{k:ND j.cs→Option R}{r:R}(hb:ZA C w0 outer own ρ b a w)(hf:∀q,b.nx≤q→ρ q=none)(h:pC C w0 outer own (λs=>j.has s=true) (kD j b) ρ st1 a1 w1 ρ1)
  (uX:DS j=true) (he:YG j.cs st1 k=some r):∃x,k x=some r∧∃ρ2,pC C w0 outer own (λs=>j.has s=true) b ρ (Go.D.install j b x) a1 w1 ρ2:=by
 obtain⟨x,h1,ρ2,h2,h3,h4,h5⟩:=zfL hb hf h.rel h.fresh h.nx h.ext (λs hs=>h.slots s (by simp[hs])) h.keeps uX he;refine⟨x,h1,ρ2,h2,h4,λs hs=>tU j b x s (by simpa using hs),h5,?_,h3⟩;simp only[Go.D.install];omega
def zlR(hC:UF C)(hΦ:gG C){id:Nat}{pre:List Nat}{d:Bool}{ops:Array Oper}{Q:Exit→Act→World→Prop}{K:St→Option R}{r:R}(hD:∀o∈ops,∀d,o.dst=some d→D d)
  (hr:ZA C w0 outer own ρ st a w) (hf:∀q,st.nx≤q→ρ q=none) (IV:zaI C pre d ops st K=some r)
  (NV:∀st' a' w' ρ',pC C w0 outer own D st ρ st' a' w' ρ'→K st'=some r→Q .normal a' w'):(Code.region id ops d).wp C.P Q a w:=by
 cases d with
 | true=>
  simp only[zaI,aD,zmU]at IV;split at IV
  ·cases IV
  rename_i st0 hp;obtain⟨p1,p2,p3,p4⟩:=nO _ _ _ hp hr;exact zvT hC hΦ hD p1 (by rw[←p3]at hf;exact hf) IV λst' a' w' ρ' h1 h2=>NV st' a' w' ρ' (pC.pre hp hr h1) h2
 | false=>
  simp only[zaI,US]at IV;refine wp_region ?_;rw[List.range_eq_range'];refine zgP hC hΦ st.nx hD ops.size 0 st a w ρ (by omega) hr (λq hq=>hf q (by omega)) IV λst' a' w' ρ' h1 h2 h3 h4 h5 h6 h7=>?_;exact NV {st' with nx:=st.nx+128 *ops.size} a' w' ρ' ⟨⟨h1.heap,h1.slots,h1.size,h1.defers,h1.glob⟩,h3,h4,h5,Nat.le_add_right _ _,h2⟩ h7
end
end Go.D
namespace Go.D
variable [jA]
section
variable {C:Cx} {w0:World} {outer own D:Nat→Prop} {R:Type} {st st1 st2:St} {ρ ρ1 ρ2:Nat→Option RI} {a a1 a2:Act} {w w1 w2:World} {j:JI}
omit [jA]in
def ztq(t:TN)(x:El t):∀c∈enc t x,zL c=none:=by
 intro c hc;cases t<;>(simp[enc,zdj,zhh,zgm,zg6,zgU,zg3,zhg,zgF,zgC,zge,zgH,zg5,zcI,zf4,zgf,zc8,zf3,zgy,zgN,zf8,zg2,zhb,zdg,zgA]at hc;rcases hc with rfl | hc<;>(repeat (first | rfl | (rcases hc with rfl | hc))))
omit [jA]in
def zjx(ow:List Nat)(base:Nat):∀(es:List V) (p r:Nat),(∀c∈es,zL c=none)→∀c∈SA ow base p es,zL c=some r→base≤r
 | [],p,r,_,c,hc,_=>by simp[SA]at hc
 | e :: es,p,r,he,c,hc,h=>by
  have ih:=zjx ow base es (p+1) r (λc hc=>he c (by simp[hc]));have h0:=he e (by simp);cases e<;>(simp only[SA,List.mem_cons]at hc;rcases hc with rfl | hc)<;>first | exact ih c hc h | (rw[h0]at h;cases h) | skip
  cases hb:ow.any (Nat.beq p)
  ·simp[hb,zL]at h
  ·simp[hb,zL]at h;omega
def zmB(sl:Nat→V)(cs:List iC)(id:Nat)(h:Nat→Option uA)(q:Nat)(row:uA):Prop:=
 h q=some row∨(id≤q∧∃t l,row.c= .arr t l)∨(∃s t ow es, .box s t ow∈cs∧sl s= .bp q 0∧row=⟨.box es, .own⟩∧∀c∈es,∀r,zL c=some r→id≤r)
omit [jA]in
def zfD(sl:Nat→V):∀(cs:List iC) (id:Nat) (x:ND cs) (h:Nat→Option uA) (q:Nat) (row:uA),OO sl cs id x h q=some row→zmB sl cs id h q row:=by
 have one:∀(c:iC) (id:Nat) (x:c.T) (h:Nat→Option uA) (q:Nat) (row:uA),vK sl c id x h q=some row→zmB sl [c] id h q row:=by
  intro c id x h q row hq;cases c with
  | drop s=>exact .inl hq
  | slot s ty=>exact .inl hq
  | own s t=>
   simp only[vK]at hq
   by_cases C4:q=id
   ·subst C4;rw[RA]at hq;cases hq;exact .inr (.inl ⟨Nat.le_refl _,_,_,rfl⟩)
   ·rw[DA _ _ _ _ C4]at hq;exact .inl hq
  | box s t ow=>
   simp only[vK]at hq;generalize hs:sl s=v at hq;cases v with
   | bp r off=>
    cases off with
    | zero=>
     simp only at hq
     by_cases mW:q=r
     ·subst mW;rw[RA]at hq;cases hq;exact .inr (.inr ⟨s,t,ow,_,by simp,hs,rfl,λc hc r hr=>zjx ow id _ 0 r (ztq t x) c hc hr⟩)
     ·rw[DA _ _ _ _ mW,xC]at hq;split at hq
      ·rename_i y hy;cases hq;obtain⟨_,_,he,h1,h2⟩:=LE _ _ _ _ _ _ hy;exact .inr (.inl ⟨by omega,_,_,congrArg uA.c he⟩)
      ·exact .inl hq
    | succ n=>exact .inl hq
   | _=>exact .inl hq
 intro cs;induction cs with
 | nil=>intro id x h q row hq;exact .inl hq
 | cons c cs ih=>
  intro id x h q row hq;cases cs with
  | nil=>exact one c id x h q row hq
  | cons d r=>
   rcases one c id x.1 _ q row hq with h1 | h1 | ⟨s,t,ow,es,h1,h2,h3,h4⟩
   ·rcases ih (id+128) x.2 h q row h1 with h2 | ⟨h2,h3⟩ | ⟨s,t,ow,es,h3,h4,h5,h6⟩
    ·exact .inl h2
    ·exact .inr (.inl ⟨by omega,h3⟩)
    ·exact .inr (.inr ⟨s,t,ow,es,List.mem_cons_of_mem _ h3,h4,h5,λc hc r hr=>by have:=h6 c hc r hr;omega⟩)
   ·exact .inr (.inl h1)
   ·exact .inr (.inr ⟨s,t,ow,es,by simp at h1;simp[h1],h2,h3,h4⟩)
omit [jA]in
def zvh(f:Nat→V)(s:Nat)(t:TN):∀(cs:List iC) (id:Nat) (x:ND cs),gI cs=true→ .own s t∈cs→∃r,VG cs id x f s= .ow r∧id≤r:=by
 intro cs;induction cs with
 | nil=>intro id x _ h;simp at h
 | cons c cs ih=>
  intro id x hn hm
  have key:∀(y:c.T) (g:Nat→V),c= .own s t→∃r,wI c id y g s= .ow r∧id≤r:=by
   intro y g hc;subst hc;exact⟨id,RA _ _ _,Nat.le_refl _⟩
  rcases List.mem_cons.1 hm with he | hm
  ·cases cs with
   | nil=>exact key x f he.symm
   | cons d r=>exact key x.1 _ he.symm
  ·cases cs with
   | nil=>simp at hm
   | cons d r=>
    have M4:gI (d :: r)=true∧∀y g,wI c id y g s=g s:=by
     have hs:mE (d :: r) s=true:=by
      clear ih;generalize d :: r=l at hm;induction l with
      | nil=>simp at hm
      | cons e l ih=>
       rcases List.mem_cons.1 hm with h | h
       ·subst h;simp[mE]
       ·cases e<;>simp[mE,ih h]
     cases c with
     | slot s' ty=>
      simp only[gI,Bool.and_eq_true,Bool.not_eq_true']at hn;refine⟨hn.2,λy g=>DA _ _ _ _ ?_⟩;rintro rfl;rw[hs]at hn;exact absurd hn.1 (by simp)
     | own s' ty=>
      simp only[gI,Bool.and_eq_true,Bool.not_eq_true']at hn;refine⟨hn.2,λy g=>DA _ _ _ _ ?_⟩;rintro rfl;rw[hs]at hn;exact absurd hn.1 (by simp)
     | box s' ty ow=>exact⟨hn,λy g=>rfl⟩
     | drop s'=>exact⟨hn,λy g=>rfl⟩
    obtain⟨q,h1,h2⟩:=ih (id+128) x.2 M4.1 hm;exact⟨q,by simp only[VG];rw[M4.2];exact h1,by omega⟩
omit [jA]in
def zoB{b:St}{x:ND j.cs}(uX:DS j=true)(hn:gI j.cs=true)(hk:nD b.nx b.h (install j b x).h):
  nD b.nx (kD j b).h (kD j (install j b x)).h:=by
 intro q row hq hr hm;simp only[kD]at hr;split at hr
 ·rename_i c hc;cases hi:wL j.cs b q
  case true=>simp only[hi,cond_true,Option.some.injEq]at hr;subst hr;cases hm
  simp only[hi,cond_false,Option.some.injEq]at hr;subst hr
  have S6:∀s t ow,iC.box s t ow∈j.cs→(install j b x).s s=b.s s:=λs t ow hm=>tU j b x s (by
   have:=List.all_eq_true.1 uX _ hm;simpa using this)
  have hdr:∀s,iC.drop s∈j.cs→(install j b x).s s=b.s s:=λs hm=>tU j b x s (by
   have:=List.all_eq_true.1 uX _ hm;simpa using this)
  have bX:∀c∈j.cs,kJ b q c=false:=λc hc=>by
   have h0:(j.cs.any (kJ b q))=false:=hi;cases h1:kJ b q c with
   | false=>rfl
   | true=>rw[List.any_eq_true.2 ⟨c,hc,h1⟩]at h0;cases h0
  have R8:∀s t ow,iC.box s t ow∈j.cs→b.s s≠ .bp q 0:=λs t ow hm h=>by
   have:=bX _ hm;simp[kJ,h]at this
  have W4:∀s,iC.drop s∈j.cs→b.s s≠ .bp q 0:=λs hm h=>by
   have:=bX _ hm;simp[kJ,h]at this
  have XV:SH j b q=some ⟨c, .own⟩:=by simp[SH,hc,hi]
  have h1:(install j b x).h q=some ⟨c, .own⟩:=by
   obtain⟨row',h2⟩:=zkK b.s j.cs b.nx x _ q _ XV
   rcases zfD b.s j.cs b.nx x _ q _ h2 with h3 | ⟨h3,_⟩ | ⟨s,t,ow,es,h3,h4,_⟩
   ·rw[XV]at h3;cases h3;exact h2
   ·omega
   ·exact absurd h4 (R8 s t ow h3)
  have h2:wL j.cs (install j b x) q=false:=by
   cases h3:wL j.cs (install j b x) q with
   | false=>rfl
   | true=>
    exfalso;obtain⟨cm,h4,h5⟩:=List.any_eq_true.1 h3;cases cm with
    | slot s ty=>cases h5
    | own s t=>
     obtain⟨r,h6,h7⟩:=zvh (λi=>bif EO j.kill i then .undef else b.s i) s t j.cs b.nx x hn h4;have h8:(install j b x).s s= .ow r:=h6;simp only[kJ,h8,zL]at h5;have:=Nat.eq_of_beq_eq_true h5;omega
    | box s t ow=>
     have h6:=S6 s t ow h4;simp only[kJ,h6]at h5;split at h5
     ·rename_i bb K4;simp only[Bool.or_eq_true]at h5
      rcases h5 with h5 | h5
      ·have:=Nat.eq_of_beq_eq_true h5;subst this;exact R8 s t ow h4 K4
      ·split at h5
       ·rename_i cs m K6;obtain⟨cc,h7,h8⟩:=List.any_eq_true.1 h5;split at h8
        ·rename_i r' W0;have:=Nat.eq_of_beq_eq_true h8;subst this
         rcases zfD b.s j.cs b.nx x _ bb _ K6 with h9 | ⟨_,_,_,h9⟩ | ⟨s',t',ow',es,_,_,h9,vW⟩
         ·have LW:∃m',b.h bb=some ⟨.box cs,m'⟩:=by
           unfold SH at h9;split at h9
           ·rename_i c' mZ;cases rW:wL j.cs b bb
            ·simp only[rW,cond_false,Option.some.injEq]at h9;cases h9;exact⟨_,mZ⟩
            ·simp[rW]at h9
           ·exact⟨_,h9⟩
          obtain⟨m',LW⟩:=LW;have ZW:=bX _ h4;simp only[kJ,K4,LW,Bool.or_eq_false_iff]at ZW;have rX:=List.any_eq_false.1 ZW.2 cc h7;rw[W0]at rX;exact rX h8
         ·cases h9
         ·cases h9;have:=vW cc h7 _ W0;omega
        ·cases h8
       ·cases h5
     ·cases h5
    | drop s=>
     have h6:=hdr s h4;simp only[kJ,h6]at h5;split at h5
     ·rename_i bb K4;simp only[Bool.or_eq_true]at h5
      rcases h5 with h5 | h5
      ·have:=Nat.eq_of_beq_eq_true h5;subst this;exact W4 s h4 K4
      ·split at h5
       ·rename_i cs m K6;obtain⟨cc,h7,h8⟩:=List.any_eq_true.1 h5;split at h8
        ·rename_i r' W0;have:=Nat.eq_of_beq_eq_true h8;subst this
         rcases zfD b.s j.cs b.nx x _ bb _ K6 with h9 | ⟨_,_,_,h9⟩ | ⟨s',t',ow',es,_,_,h9,vW⟩
         ·have LW:∃m',b.h bb=some ⟨.box cs,m'⟩:=by
           unfold SH at h9;split at h9
           ·rename_i c' mZ;cases rW:wL j.cs b bb
            ·simp only[rW,cond_false,Option.some.injEq]at h9;cases h9;exact⟨_,mZ⟩
            ·simp[rW]at h9
           ·exact⟨_,h9⟩
          obtain⟨m',LW⟩:=LW;have ZW:=bX _ h4;simp only[kJ,K4,LW,Bool.or_eq_false_iff]at ZW;have rX:=List.any_eq_false.1 ZW.2 cc h7;rw[W0]at rX;exact rX h8
         ·cases h9
         ·cases h9;have:=vW cc h7 _ W0;omega
        ·cases h8
       ·cases h5
     ·cases h5
  simp only[kD,h1,h2,cond_false]
 ·have h1:=hk q row hq hr hm;simp only[kD,h1];obtain⟨c,m⟩:=row;cases m with
  | own=>cases hm
  | ro=>rfl
  | lock=>rfl
def pC.round{b:St}{x:ND j.cs}{k:ND j.cs→Option R}{r:R}(hb:ZA C w0 outer own ρ b a w)(hf:∀q,b.nx≤q→ρ q=none)
  (h0:pC C w0 outer own (λs=>j.has s=true) b ρ (Go.D.install j b x) a1 w1 ρ1)
  (h:pC C w0 outer own (λs=>j.has s=true) (kD j (Go.D.install j b x)) ρ1 st2 a2 w2 ρ2)
  (uX:DS j=true) (hn:gI j.cs=true) (he:YG j.cs st2 k=some r):∃y,k y=some r∧∃ρ3,pC C w0 outer own (λs=>j.has s=true) b ρ (Go.D.install j b y) a2 w2 ρ3:=by
 have hnx:b.nx≤st2.nx:=Nat.le_trans h0.nx h.nx
 obtain⟨y,h1,ρ3,h2,h3,h4,h5⟩:=zfL (ρ':=ρ2) hb hf h.rel h.fresh hnx (λq qi hq=>h.ext _ _ (h0.ext _ _ hq)) (λs hs=>by
   have T6:¬(j.has s=true):=by simp[hs]
   have e1:=h.slots s T6;have e2:=h0.slots s T6;exact e1.trans e2)
  ((zoB uX hn h0.keeps).trans (h.keeps.le h0.nx)) uX he
 refine⟨y,h1,ρ3,h2,h4,λs hs=>tU j b y s (by simpa using hs),h5,?_,h3⟩;simp only[Go.D.install];omega
def zl5{an:An}{c:Code}{b:St}{K:Ex→St→Option R}{r:R}{Q:Exit→Act→World→Prop}(hb:ZA C w0 outer own ρ b a w)(hf:∀q,b.nx≤q→ρ q=none)
  (uX:DS j=true) (hn:gI j.cs=true)
  (body:∀ (st:St) (a:Act) (w:World) (ρ:Nat→Option RI) (K:Ex→St→Option R) (Q:Exit→Act→World→Prop),ZA C w0 outer own ρ st a w→(∀ q,st.nx≤q→ρ q=none)→XE C an c st K=some r→
   (∀e st' a' w' ρ',pC C w0 outer own (λs=>j.has s=true) st ρ st' a' w' ρ'→K e st'=some r→Q (AT e) a' w')→c.wp C.P Q a w)
  (NV:∀e st' a' w' ρ',pC C w0 outer own (λs=>j.has s=true) b ρ st' a' w' ρ'→K e st'=some r→Q (AT e) a' w'):
  ∀(n:Nat) (x:ND j.cs) (a1:Act) (w1:World) (ρ1:Nat→Option RI),pC C w0 outer own (λs=>j.has s=true) b ρ (Go.D.install j b x) a1 w1 ρ1→
   sA n (λ(x : ND j.cs) (k : ND j.cs→Option R) => XE C an c (kD j (Go.D.install j b x)) λe st' => match e with
        | .normal=>YG j.cs st' k
        | e=>K e (Go.D.unlock (Go.D.install j b x) st')) x=some r→Code.rounds C.P c Q n a1 w1
 | 0,x,a1,w1,ρ1,h0,h=>by simp[sA]at h
 | n+1,x,a1,w1,ρ1,h0,h=>by
  rw[rounds_succ];simp only[sA]at h;refine body _ a1 w1 ρ1 _ _ (h0.rel.lock j) h0.fresh h λe st' a' w' ρ' hg hk=>?_;cases e with
  | normal=>
   obtain⟨y,k1,ρ3,k2⟩:=h0.round hb hf hg uX hn hk;exact zl5 hb hf uX hn body NV n y a' w' ρ3 k2 k1
  | exit id=>exact NV (.exit id) _ a' w' ρ' (h0.trans hg.unlock) hk
  | ret=>exact NV .ret _ a' w' ρ' (h0.trans hg.unlock) hk
def zlJ(hC:UF C)(hΦ:gG C)(an:An):∀(c:Code) (D:Nat→Prop),vI an D c→∀(st:St) (a:Act) (w:World) (ρ:Nat→Option RI) (K:Ex→St→Option R) (r:R) (Q:Exit→Act→World→Prop),
  ZA C w0 outer own ρ st a w→(∀q,st.nx≤q→ρ q=none)→XE C an c st K=some r→
  (∀e st' a' w' ρ',pC C w0 outer own D st ρ st' a' w' ρ'→K e st'=some r→Q (AT e) a' w')→c.wp C.P Q a w:=by
 intro c;induction c with
 | skip=>
  intro D hT st a w ρ K r Q hr hf IV NV;exact wp_skip (NV .normal st a w ρ (pC.refl hr hf) IV)
 | region id ops d=>
  intro D hT st a w ρ K r Q hr hf IV NV;simp only[XE]at IV;split at IV
  ·exact zlR hC hΦ hT.1 hr hf IV λst' a' w' ρ' h1 h2=>NV .normal st' a' w' ρ' h1 h2
  ·rename_i j hj;split at IV
   ·cases IV
   rename_i st0 hp;obtain⟨p1,p2,p3,p4⟩:=nO _ _ _ hp hr;cases pX:iH an j (.region id ops d)
   case false=>simp[pX]at IV
   simp only[pX,aD,aA]at IV;simp only[iH,Bool.and_eq_true]at pX;have hw:=aH an j _ pX.1.1;refine zlR (D:=λs=>j.has s=true) hC hΦ hw.1 (p1.lock j) (by rw[←p3]at hf;exact hf) IV λst' a' w' ρ' h1 h2=>?_;obtain⟨x,k1,ρ2,k2⟩:=pC.install p1 (by rw[←p3]at hf;exact hf) h1 pX.1.2 h2;have hD:∀s,j.has s=true→D s:=by have:=hT.2;rw[hj]at this;exact this
   exact NV .normal _ a' w' ρ2 (pC.pre hp hr (k2.mono hD)) k1
 | seq x y ihx ihy=>
  intro D hT st a w ρ K r Q hr hf IV NV;simp only[XE]at IV;refine wp_seq (ihx D hT.1 st a w ρ _ r _ hr hf IV λe st' a' w' ρ' h1 h2=>?_);cases e with
  | normal=>exact ihy D hT.2 st' a' w' ρ' _ r _ h1.rel h1.fresh h2 λe st2 a2 w2 ρ2 h3 h4=>NV e st2 a2 w2 ρ2 (h1.trans h3) h4
  | exit id=>exact NV (.exit id) st' a' w' ρ' h1 h2
  | ret=>exact NV .ret st' a' w' ρ' h1 h2
 | cond c x y ihx ihy=>
  intro D hT st a w ρ K r Q hr hf IV NV;cases c with
  | tmp t=>
   simp only[XE]at IV;split at IV
   case h_2=>cases IV
   rename_i b hb;have hv:=hr.slots t;rw[hb]at hv
   have hc:a.eval (.tmp t)= .bool b:=by
    show a.tmps.getD t undef=_
    generalize a.tmps.getD t undef=v at hv;cases hv;rfl
   refine wp_cond hc ?_;split at IV
   ·cases b with
    | true=>exact ihx D hT.1 st a w ρ K r Q hr hf IV NV
    | false=>exact ihy D hT.2.1 st a w ρ K r Q hr hf IV NV
   ·rename_i j hj;split at IV
    ·cases IV
    rename_i st0 hp;obtain⟨p1,p2,p3,p4⟩:=nO _ _ _ hp hr;cases pX:iH an j x&&iH an j y
    case false=>simp[pX]at IV
    simp only[pX,aD,aA]at IV;simp only[iH,Bool.and_eq_true]at pX;have hD:∀s,j.has s=true→D s:=by have:=hT.2.2;rw[hj]at this;exact this
    have B1:∀q,st0.nx≤q→ρ q=none:=by rw[←p3]at hf;exact hf
    have cC:∀(e:Ex) (st':St) (a':Act) (w':World) (ρ':Nat→Option RI),pC C w0 outer own (λs=>j.has s=true) (kD j st0) ρ st' a' w' ρ'→
      (match e with
       | .normal=>YG j.cs st' λy=>K .normal (Go.D.install j st0 y)
       | e=>K e (Go.D.unlock st0 st'))=some r→Q (AT e) a' w':=by
     intro e st' a' w' ρ' h1 h2;cases e with
     | normal=>
      obtain⟨x,k1,ρ2,k2⟩:=pC.install p1 B1 h1 pX.1.1.2 h2;exact NV .normal _ a' w' ρ2 (pC.pre hp hr (k2.mono hD)) k1
     | exit id=>exact NV (.exit id) _ a' w' ρ' (pC.pre hp hr (h1.unlock.mono hD)) h2
     | ret=>exact NV .ret _ a' w' ρ' (pC.pre hp hr (h1.unlock.mono hD)) h2
    cases b with
    | true=>exact ihx _ (aH an j _ pX.1.1.1) (kD j st0) a w ρ _ r Q (p1.lock j) B1 IV cC
    | false=>exact ihy _ (aH an j _ pX.2.1.1) (kD j st0) a w ρ _ r Q (p1.lock j) B1 IV cC
  | _=>simp[XE]at IV
 | block id x ih=>
  intro D hT st a w ρ K r Q hr hf IV NV;refine wp_block ?_;simp only[XE]at IV;split at IV
  ·refine ih D hT.1 st a w ρ _ r _ hr hf IV λe st' a' w' ρ' h1 h2=>?_;cases e with
   | normal=>exact NV .normal st' a' w' ρ' h1 h2
   | ret=>exact NV .ret st' a' w' ρ' h1 h2
   | exit id'=>
    simp only[AT,Exit.inBlock];simp only at h2;cases hb:Nat.beq id' id
    ·have SY:¬id'=id:=λe=>by subst e;simp at hb
     rw[if_neg SY];rw[hb]at h2;exact NV (.exit id') st' a' w' ρ' h1 h2
    ·have SY:=Nat.eq_of_beq_eq_true hb;rw[if_pos SY];rw[hb]at h2;exact NV .normal st' a' w' ρ' h1 h2
  ·rename_i j hj;split at IV
   ·cases IV
   rename_i st0 hp;obtain⟨p1,p2,p3,p4⟩:=nO _ _ _ hp hr;cases pX:iH an j x
   case false=>simp[pX]at IV
   simp only[pX,aD,aA]at IV;simp only[iH,Bool.and_eq_true]at pX;have hD:∀s,j.has s=true→D s:=by have:=hT.2;rw[hj]at this;exact this
   have B1:∀q,st0.nx≤q→ρ q=none:=by rw[←p3]at hf;exact hf
   refine ih _ (aH an j _ pX.1.1) (kD j st0) a w ρ _ r _ (p1.lock j) B1 IV λe st' a' w' ρ' h1 h2=>?_;cases e with
   | normal=>
    obtain⟨x,k1,ρ2,k2⟩:=pC.install p1 B1 h1 pX.1.2 h2;exact NV .normal _ a' w' ρ2 (pC.pre hp hr (k2.mono hD)) k1
   | ret=>exact NV .ret _ a' w' ρ' (pC.pre hp hr (h1.unlock.mono hD)) h2
   | exit id'=>
    simp only[AT,Exit.inBlock];simp only at h2;cases hb:Nat.beq id' id
    ·have SY:¬id'=id:=λe=>by subst e;simp at hb
     rw[if_neg SY];rw[hb]at h2;exact NV (.exit id') _ a' w' ρ' (pC.pre hp hr (h1.unlock.mono hD)) h2
    ·have SY:=Nat.eq_of_beq_eq_true hb;rw[if_pos SY];rw[hb]at h2;obtain⟨x,k1,ρ2,k2⟩:=pC.install p1 B1 h1 pX.1.2 h2;exact NV .normal _ a' w' ρ2 (pC.pre hp hr (k2.mono hD)) k1
 | loop x ih=>
  intro D hT st a w ρ K r Q hr hf IV NV;simp only[XE]at IV;split at IV
  ·cases IV
  rename_i rid hrid;split at IV
  ·cases IV
  rename_i j hj;split at IV
  ·cases IV
  rename_i st0 hp;obtain⟨p1,p2,p3,p4⟩:=nO _ _ _ hp hr;cases pX:iH an j x
  case false=>simp[pX]at IV
  simp only[pX,aD]at IV;simp only[iH,Bool.and_eq_true]at pX;have hD:∀s,j.has s=true→D s:=by have:=hT.2;simp only[hrid,hj]at this;exact this
  have B1:∀q,st0.nx≤q→ρ q=none:=by rw[←p3]at hf;exact hf
  obtain⟨x0,h1,ρ2,h2,h3,h4,h5⟩:=zfL (b:=st0) (st':=kD j st0) p1 B1 (p1.lock j) B1 (Nat.le_refl _) (λ_ _ h=>h) (λ_ _=>rfl) (nD.refl _ _) pX.1.2 IV
  refine wp_loop_rounds FU (zl5 (j:=j) p1 B1 pX.1.2 pX.2 (λst a w ρ K Q hr hf IV NV=>ih _ (aH an j _ pX.1.1) st a w ρ K r Q hr hf IV NV)
    (λe st' a' w' ρ' hg hk=>NV e st' a' w' ρ' (pC.pre hp hr (hg.mono hD)) hk) FU x0 a w ρ2 ⟨h2,h4,λs hs=>tU j st0 x0 s (by simpa using hs),h5,?_,h3⟩ h1)
  simp only[Go.D.install];omega
 | exit id=>
  intro D hT st a w ρ K r Q hr hf IV NV;exact wp_exit (NV (.exit id) st a w ρ (pC.refl hr hf) IV)
 | ret=>
  intro D hT st a w ρ K r Q hr hf IV NV;exact wp_ret (NV .ret st a w ρ (pC.refl hr hf) IV)
 | _=>
  intro D hT st a w ρ K r Q hr hf IV NV;simp[XE]at IV
end
end Go.D

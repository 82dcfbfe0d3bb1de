/-
 Regions that draw their order: one run in the order of the text serves every order.
-/
import Derived.Test.YtfipojlaeaeedaaGreatL5
import Derived.Orders
import Derived.LoopN
set_option linter.all false
namespace Go.D
variable [fA]
section
variable {C:Cx} {w0:World} {outer own D:Nat→Prop} {R:Type} {st st' st1 st2:St} {ρ ρ1 ρ2:Nat→Option RI} {a a1 a2:Act} {w w1 w2:World}
omit [fA]in
def PH{r:Nat}{l:List Nat}:qD r l=true↔r∈l:=by
 unfold qD;rw[List.any_eq_true];constructor
 ·rintro⟨x,h1,h2⟩;rw[Nat.eq_of_beq_eq_true h2];exact h1
 ·intro h;exact⟨r,h,by simp⟩
omit [fA]in
def zI{r:Nat}{l:List Nat}:qD r l=false↔r∉l:=by
 rw[←PH];cases qD r l<;>simp
omit [fA]in
def zc8{b r:Nat}:cG b r=true↔b≤r∧r<b+128:=by
 simp only[cG,Bool.and_eq_true,Nat.ble_eq,Nat.blt_eq]
omit [fA]in
def tI{b r:Nat}:cG b r=false↔¬(b≤r∧r<b+128):=by
 rw[←zc8];cases cG b r<;>simp
omit [fA]in
def zl2{P:Program}{o:Oper}{post:Act→World→Prop}(h:RB P o a w post)(hd:∀a' w',post a' w'→a'.defers=[]):
  RB P o a w λa' w'=>post a' w'∧∃v,a'=a.put o.dst v:=by
 intro next Q hn;have h0:=h post Q λ_ _ h=>h;unfold Oper.wp at *;generalize (execOp a.eval o).run P w=x at *;have put:∀v w',post (a.put o.dst v) w'→next (a.put o.dst v) w':=λv w' hp=>hn _ _ ⟨hp,v,rfl⟩;cases x with
 | ok n w'=>
  have nodef:∀d w',post ({a with defers:=d :: a.defers}.put o.dst undef) w'→False:=λd w' hp=>by
   have:=hd _ _ hp
   revert this
   cases o.dst<;>simp[Act.put]
  cases n<;>simp only[Oper.upon]at h0⊢ <;>first
   | exact put _ _ h0
   | exact Calls.mono' h0 λe w'' he=>by cases e<;>first | exact put _ _ he | exact he
   | exact h0.mono λ_ _ he=>put _ _ he
   | exact(nodef _ _ h0).elim
   | exact h0
 | halt x w'=>cases x<;>simp only[Oper.upon]at h0⊢ <;>exact h0
def yN(st st':St):Prop:=∀r row,st'.h r=some row→(∃row0,st.h r=some row0)∨row.m.isOwn=true
omit [fA]in
def ZH{dst:Option Nat}{h':Nat→Option kA}(hk:∀r row,h' r=some row→(∃row0,st.h r=some row0)∨row.m.isOwn=true)(v:V):YB (yN st) (IA C dst {st with h:=h'} v some):=by
 intro st' h;cases dst with
 | none=>simp[IA]at h;subst h;exact hk
 | some d=>
  simp only[IA]at h;cases hb:Nat.blt d C.nt<;>simp[hb]at h
  subst h;exact hk
omit [fA]in
def zk7{dst:Option Nat}(v:V):YB (yN st) (IA C dst st v some):=ZH (λ_ row h=> .inl ⟨row,h⟩) v
omit [fA]in
def kU{h h':Nat→Option kA}(hk:∀r row,h' r=some row→(∃row0,h r=some row0)∨row.m.isOwn=true)(i:Nat)(c:ND):
  ∀r row,sA h' i (some ⟨c, .own⟩) r=some row→(∃row0,h r=some row0)∨row.m.isOwn=true:=λr row hr=>by
 by_cases hi:r=i
 ·subst hi;rw[EA]at hr;cases hr;exact .inr rfl
 ·rw[tA _ _ _ _ hi]at hr;exact hk r row hr
omit [fA]in
def za6(h:Nat→Option kA)(ids:List Nat):∀r row,FB h ids r=some row→(∃row0,h r=some row0)∨row.m.isOwn=true:=λr row hr=>by
 obtain⟨row',h1,_⟩:=BO h ids r row hr;exact .inl ⟨row',h1⟩
omit [fA]in
def zls(h:Nat→Option kA)(r:Option Nat):∀q row,jK h r q=some row→(∃row0,h q=some row0)∨row.m.isOwn=true:=λq row hq=>by
 cases r with
 | none=>exact .inl ⟨row,hq⟩
 | some r=>obtain⟨row',h1,_⟩:=dP h r q row hq;exact .inl ⟨row',h1⟩
omit [fA]in
def zl4(h:Nat→Option kA)(r:Nat):∀q row,sA h r none q=some row→(∃row0,h q=some row0)∨row.m.isOwn=true:=λq row hq=>by
 by_cases hi:q=r
 ·subst hi;rw[EA]at hq;cases hq
 ·rw[tA _ _ _ _ hi]at hq;exact .inl ⟨row,hq⟩
omit [fA]in
def zfa{dst:Option Nat}{h':Nat→Option kA}(hk:∀r row,h' r=some row→(∃row0,st.h r=some row0)∨row.m.isOwn=true)(i:Nat)(c:ND)(v:V):
  YB (yN st) (OD C dst {st with h:=h'} i c v some):=ZH (kU hk i c) v
omit [fA]in
def zlD{dst:Option Nat}(i:Nat)(c:ND)(v:V):YB (yN st) (OD C dst st i c v some):=ZH (kU (λ_ row h=> .inl ⟨row,h⟩) i c) v
omit [fA]in
def zlt{dst:Option Nat}(i f:Nat)(as:List V):YB (yN st) (tH C i dst st f as some):=by
 unfold tH;split
 ·exact FD
 rename_i ci _;split
 ·split
  ·exact FD
  rename_i as' h' bs JY;refine qN _ λx _=>YM _ λr _=>qH _ λLV=>ZH ?_ _;simp only[Bool.and_eq_true]at LV;intro q row hq;rw[cK]at hq;split at hq
  ·rename_i y hy;cases hq;rw[zbh (Nat.le_of_ble_eq_true LV.1) hy];exact .inr rfl
  ·exact .inl ⟨row,hq⟩
 rename_i as' h' bs JY;refine qN _ λx _=>YM _ λr _=>qH _ λLV=>ZH ?_ _;intro q row hq;have LV:=Nat.le_of_ble_eq_true LV;rw[cK]at hq;split at hq
 ·rename_i y hy;cases hq;rw[zbh LV hy];exact .inr rfl
 ·rcases zjh hq with hq | hq
  ·exact .inl ⟨row,hq⟩
  ·obtain⟨row',h1,_⟩:=XN _ _ _ _ JY q row hq;exact .inl ⟨row',h1⟩
omit [fA]in
def zkB{i:Nat}(o:Oper):YB (yN st) (UA C i o st some):=by
 unfold UA
 repeat' first
  | exact FD
  | exact zk7 _
  | exact zlD _ _ _
  | exact zlt _ _ _
  | exact ZH (za6 _ _) _
  | exact ZH (zl4 _ _) _
  | exact zfa (za6 _ _) _ _ _
  | exact zfa (zls _ _) _ _ _
  | exact ZH (kU (λ_ row h=> .inl ⟨row,h⟩) _ _) _
  | exact ZH (kU (za6 _ _) _ _) _
  | refine zer (λ_=>?_) _ _ _ _
  | refine ze7 (λ_=>?_) _ _ _
  | refine zaF (λ_=>?_) _ _ _
  | refine zeY (λ_=>?_) _ _ _ _ _ _
  | refine UM _ (λ_=>?_)
  | refine AM _ (λ_=>?_)
  | refine qH _ (λ_=>?_)
  | refine zeT _ (λ_=>?_)
  | refine qN _ (λ_ _=>?_)
  | refine YM _ (λ_ _=>?_)
  | split
omit [fA]in
def zcP{x:Option kA}{row':kA}(h:vP x=some row'):∃row,x=some row∧row.c=row'.c∧row.m.isRo=row'.m.isRo∧row'.m.isOwn=false:=by
 cases x with
 | none=>cases h
 | some row=>
  obtain⟨c,m⟩:=row;cases m<;>(simp only[vP,Option.some.injEq]at h;subst h;exact⟨_,rfl,rfl,rfl,rfl⟩)
def zlP(hr:NA C w0 outer own ρ st a w)(hC:iE C)(hΦ:rE C)(yX:∃N,∀r,N≤r→ρ r=none){b:Nat}(qW:∀q,q<128→ρ (b+q)=none){o:Oper}{ls rd wr:List Nat}
  (hk:fE C b o ls rd wr st some=some st2):RB C.P o a w (JB C w0 outer own b ρ st2):=by
 unfold fE at hk;rw[LM]at hk;obtain⟨st',hs,h2⟩:=Option.bind_eq_some_iff.1 hk;have h2:=Option.some.inj h2;let N:Nat→Prop:=λr=>r∈wr∨r∈rd;let own':Nat→Prop:=λc=>∃r row ri,N r∧st.h r=some row∧row.m.isRo=false∧ρ r=some ri∧ri.nl=false∧ri.b=c;let outer':Nat→Prop:=λc=>outer c∨∃r row ri,¬N r∧st.h r=some row∧row.m.isRo=false∧ρ r=some ri∧ri.nl=false∧ri.b=c
 have hZ:∀r row',GE rd wr st.h r=some row'→N r∧∃row,st.h r=some row∧row.c=row'.c∧row.m.isRo=row'.m.isRo:=λr row' h=>by
  simp only[GE]at h;cases hw:qD r wr
  ·simp only[hw,cond_false]at h;cases hd:qD r rd
   ·simp[hd]at h
   ·simp only[hd,cond_true]at h;obtain⟨row,h1,h2,h3,_⟩:=zcP h;exact⟨.inr (PH.1 hd),row,h1,h2,h3⟩
  ·simp only[hw,cond_true]at h;exact⟨.inl (PH.1 hw),row',h,rfl,rfl⟩
 have kX:∀c,jA outer' ρ (GE rd wr st.h) c→jA outer ρ st.h c:=by
  rintro c ((h | ⟨r,row,ri,e1,e2,e3,e4⟩) | ⟨r,row',ri,e1,e2,e3,e4⟩)
  ·exact .inl h
  ·exact .inr ⟨r,row,ri,e2,e3,e4⟩
  ·obtain⟨_,row,f1,f2,f3⟩:=hZ r row' e1;exact .inr ⟨r,row,ri,f1,by rw[f3];exact e2,e3,e4⟩
 have OX:∀c,own' c→c<w.heap.size∧(w0.heap.size≤c∨own c):=by
  rintro c ⟨r,row,ri,e1,e2,e3,e4,e5,rfl⟩;obtain⟨ri',f1,_,f2⟩:=hr.heap.rows r row e2;rw[e4]at f1;cases f1;exact⟨(f2 e5).2,(f2 e5).1.2 e3⟩
 have C4:∀c,outer' c→c<w.heap.size∧¬own' c:=by
  rintro c (h | ⟨r,row,ri,e1,e2,e3,e4,e5,rfl⟩)
  ·obtain⟨g1,g2⟩:=hr.heap.outLt c h;refine⟨Nat.lt_of_lt_of_le g1 hr.heap.wx.size,λho=>?_⟩
   rcases(OX c ho).2 with h3 | h3
   ·omega
   ·exact g2 h3
  ·obtain⟨ri',f1,_,f2⟩:=hr.heap.rows r row e2;rw[e4]at f1;cases f1;refine⟨(f2 e5).2,?_⟩;rintro⟨r',row',ri',g1,g2,g3,g4,g5,g6⟩;have:=hr.heap.inj r' r row' row ri' ri g2 e2 g4 e4 g5 e5 g6;subst this;exact e1 g1
 have T0:∀u d,VR w ρ (jA outer ρ st.h) u d→VR w ρ (jA outer' ρ (GE rd wr st.h)) u d:=λu d hu=>hu.mono (λ_ _ h=>h) (λ_ _ _=>rfl) λc hc=> .inl (kX c hc)
 have kY:NA C w outer' own' ρ {s:=mI ls st.s,h:=GE rd wr st.h,nx:=st.nx} a w:=by
  refine⟨⟨Wx.refl _,λ_ _ _=>rfl,C4,λr row' h=>?_,λq q' row row' qi qi' h1 h2 h3 h4 h5 h6 h7=>?_⟩,λt=>?_,hr.size,hr.defers,⟨C.g.stay w0 w (λc hc=>hr.heap.old c (Nat.lt_of_lt_of_le hc (C.g.lt _ hr.glob.p)) (hr.glob.own c hc)) hr.glob.p,λc hc ho=>?_,Nat.le_trans hr.glob.base hr.heap.wx.size,λc hc ho=>?_⟩⟩
  ·obtain⟨f0,row,f1,f2,f3⟩:=hZ r row' h;obtain⟨ri,g1,g2,g3⟩:=hr.heap.rows r row f1;refine⟨ri,g1,by rw[←f2];exact g2.keep (λ_=>rfl) T0,λhn=>⟨⟨?_,λhm=> .inr ⟨r,row,ri,f0,f1,by rw[f3];exact hm,g1,hn,rfl⟩⟩,(g3 hn).2⟩⟩;rintro(h | ⟨r',row2,ri',e1,e2,e3,e4,e5,e6⟩)
   ·exact(g3 hn).1.1 h
   ·have:=hr.heap.inj r' r row2 row ri' ri e2 f1 e4 g1 e5 hn e6;subst this;exact e1 f0
  ·obtain⟨_,row1,f1,_⟩:=hZ q row h1;obtain⟨_,row2,f2,_⟩:=hZ q' row' h2;exact hr.heap.inj q q' _ _ qi qi' f1 f2 h3 h4 h5 h6 h7
  ·show VR w ρ _ _ (mI ls st.s t)
   simp only[mI];cases qD t ls
   ·exact .undef _
   ·exact T0 _ _ (hr.slots t)
  ·have:=Nat.lt_of_lt_of_le hc (C.g.lt _ hr.glob.p)
   rcases(OX c ho).2 with h | h
   ·omega
   ·exact hr.glob.own c hc h
  ·have:=Nat.lt_of_lt_of_le hc hr.glob.base
   rcases(OX c ho).2 with h | h
   ·omega
   ·exact hr.glob.low c hc h
 have L:=zc0 (π:=λr=>¬(b≤r∧r<b+128)) (i:=b) (λq hq h=>h (by omega)) o st' hs;have main:=zl2 (zfg kY hC hΦ yX qW hs) λa' w' ⟨ρ',h,_⟩=>h.defers;intro next Q hn;refine main next Q λa1 w1 ⟨⟨ρ1,WV,hE,hx⟩,v,hv⟩=>hn _ _ ⟨ρ1,?_,hE,hx⟩;subst hv;have hh:=WV.heap
 have lW:∀r,ρ r≠none→¬(b≤r∧r<b+128):=λr h1 h2=>h1 (by
  have:=qW (r - b) (by omega);rwa [show b+(r - b)=r by omega]at this)
 have hρ1:∀r row,st.h r=some row→ρ1 r=ρ r:=λr row h=>by
  obtain⟨ri,h1,_⟩:=hr.heap.rows r row h;rw[h1,hx r ri h1]
 -- rows that are only read
 have Q8:∀r row,r∉wr→r∈rd→st.h r=some row→∃row',st'.h r=some row'∧row'.c=row.c∧row'.m.isRo=row.m.isRo:=λr row h1 h2 h3=>by
  have h4:GE rd wr st.h r=vP (some row):=by simp only[GE,zI.2 h1,PH.2 h2,cond_false,cond_true,h3]
  obtain⟨row',h5⟩:∃row',vP (some row)=some row':=by
   obtain⟨c,m⟩:=row;cases m<;>exact⟨_,rfl⟩
  obtain⟨row2,h6,h7,h8,h9⟩:=zcP h5;cases h6;obtain⟨ri,g1,_⟩:=hr.heap.rows r _ h3;exact⟨row',L.rows r row' (lW r (by rw[g1];simp)) (by show GE rd wr st.h r=_;rw[h4,h5]) h9,h7.symm,h8.symm⟩
 -- a row of the new state
 have JV:∀r row,st2.h r=some row→(st'.h r=some row)∨(r∉wr∧¬(b≤r∧r<b+128)∧st.h r=some row):=λr row h=>by
  rw[←h2]at h;simp only[nI]at h;cases hw:(qD r wr||cG b r)
  ·rw[hw]at h;simp only[Bool.or_eq_false_iff]at hw;exact .inr ⟨zI.1 hw.1,tI.1 hw.2,h⟩
  ·rw[hw]at h;exact .inl h
 have xY:∀c,jA outer ρ1 st2.h c→jA outer' ρ1 st'.h c:=by
  rintro c (h | ⟨r,row,ri,e1,e2,e3,e4,e5⟩)
  ·exact .inl (.inl h)
  ·rcases JV r row e1 with h | ⟨h3,h4,h5⟩
   ·exact .inr ⟨r,row,ri,h,e2,e3,e4,e5⟩
   ·by_cases hd:r∈rd
    ·obtain⟨row',f1,f2,f3⟩:=Q8 r row h3 hd h5;exact .inr ⟨r,row',ri,f1,by rw[f3];exact e2,e3,e4,e5⟩
    ·rw[hρ1 r row h5]at e3;exact .inl (.inr ⟨r,row,ri,λh=>h.elim h3 hd,h5,e2,e3,e4,e5⟩)
 have D4:∀c,jA outer' ρ1 st'.h c→jA outer ρ st.h c∨w.heap.size≤c:=by
  rintro c ((h | ⟨r,row,ri,e1,e2,e3,e4⟩) | ⟨r,row,ri,e1,e2,e3,e4,e5⟩)
  ·exact .inl (.inl h)
  ·exact .inl (.inr ⟨r,row,ri,e2,e3,e4⟩)
  ·obtain⟨ri',f1,_,f2⟩:=hh.rows r row e1;rw[e3]at f1;cases f1
   rcases(f2 e4).1.2 e2 with h | ⟨r',row',ri',g1,g2,g3,g4⟩
   ·exact .inr (by omega)
   ·rw[e5]at g4;exact .inl (.inr ⟨r',row',ri',g2,g3,g4⟩)
 have keepO:∀u d,VR w ρ (jA outer ρ st.h) u d→VR w1 ρ1 (jA outer ρ1 st2.h) u d:=λu d hu=>
  hu.mono hx (λc hc NV=>hh.old c NV λ⟨r,row,ri,g1,g2,g3,g4⟩=>hc (.inr ⟨r,row,ri,g2,g3,g4⟩)) λc hc=>D4 c (xY c hc)
 have keepN:∀u d,VR w1 ρ1 (jA outer' ρ1 st'.h) u d→VR w1 ρ1 (jA outer ρ1 st2.h) u d:=λu d hu=>
  hu.mono (λ_ _ h=>h) (λ_ _ _=>rfl) λc hc=> .inl (xY c hc)
 have E4:∀r row ri,r∉wr→r∉rd→st.h r=some row→ρ r=some ri→ri.nl=false→¬own' ri.b:=by
  rintro r row ri h1 h2 h3 h4 h5 ⟨r',row',ri',g1,g2,g3,g4,g5,g6⟩;have:=hr.heap.inj r' r row' row ri' ri g2 h3 g4 h4 g5 h5 g6;subst this;exact g1.elim h1 h2
 have v7:({a.put o.dst v with}:Act).defers=[]:=WV.defers;refine⟨⟨hr.heap.wx.trans hh.wx,λc hc ho=>?_,hr.heap.outLt,λr row h=>?_,λq q' row row' qi qi' h1 h3 h4 h5 h6 h7 h8=>?_⟩,λt=>?_,WV.size,WV.defers,hr.glob⟩
 ·rw[←hr.heap.old c hc ho];refine hh.old c (Nat.lt_of_lt_of_le hc hr.heap.wx.size) λJ8=>?_
  rcases(OX c J8).2 with h3 | h3
  ·omega
  ·exact ho h3
 ·rcases JV r row h with h3 | ⟨h3,h4,h5⟩
  ·obtain⟨ri,f1,f2,f3⟩:=hh.rows r row h3;refine⟨ri,f1,f2.keep (λ_=>rfl) keepN,λhn=>⟨⟨λho=>(f3 hn).1.1 (.inl ho),λhm=>?_⟩,(f3 hn).2⟩⟩
   rcases(f3 hn).1.2 hm with h4 | h4
   ·exact .inl (Nat.le_trans hr.heap.wx.size h4)
   ·exact(OX _ h4).2
  ·obtain⟨ri,f1,f2,f3⟩:=hr.heap.rows r row h5;refine⟨ri,hx r ri f1,?_,λhn=>⟨(f3 hn).1,Nat.lt_of_lt_of_le (f3 hn).2 hh.wx.size⟩⟩
   by_cases hd:r∈rd
   ·obtain⟨row',g1,g2,g3⟩:=Q8 r row h3 hd h5;obtain⟨ri',e1,e2,_⟩:=hh.rows r row' g1;rw[hx r ri f1]at e1;cases e1;rw[←g2];exact e2.keep (λ_=>rfl) keepN
   ·exact f2.keep (λhn=>hh.old _ (f3 hn).2 (E4 r row ri h3 hd h5 f1 hn)) keepO
 ·-- no two rows in one block
  have rowsOf:∀r row ri,st2.h r=some row→ρ1 r=some ri→ri.nl=false→(∃row',st'.h r=some row')∨(r∉wr∧r∉rd∧st.h r=some row∧ρ r=some ri):=λr row ri h1 h3 h4=>by
   rcases JV r row h1 with h5 | ⟨h5,h6,h7⟩
   ·exact .inl ⟨_,h5⟩
   ·by_cases hd:r∈rd
    ·obtain⟨row',g1,_⟩:=Q8 r row h5 hd h7;exact .inl ⟨_,g1⟩
    ·exact .inr ⟨h5,hd,h7,by rw[←hρ1 r row h7];exact h3⟩
  have mixed:∀r r' row' row2 ri ri',st'.h r=some row2→ρ1 r=some ri→ri.nl=false→r'∉wr→r'∉rd→st.h r'=some row'→ρ r'=some ri'→ri'.nl=false→ri.b=ri'.b→False:=λr r' row' row2 ri ri' e1 e2 e3 e4 e5 e6 e7 e8 e9=>by
   obtain⟨ri2,f1,_,f3⟩:=hh.rows r row2 e1;rw[e2]at f1;cases f1;obtain⟨ri3,g1,_,g3⟩:=hr.heap.rows r' row' e6;rw[e7]at g1;cases g1;have NV:=(g3 e8).2;have YW:=E4 r' row' ri' e4 e5 e6 e7 e8
   by_cases hm:row2.m.isRo=false
   ·rcases(f3 e3).1.2 hm with h | h
    ·rw[e9]at h;omega
    ·rw[e9]at h;exact YW h
   ·-- a row that nobody writes:it was there ahead
    rcases zkB o st' hs r row2 e1 with⟨row0,h0⟩ | h0
    ·obtain⟨g0,row1,g4,_⟩:=hZ r row0 h0;obtain⟨ri4,g5,_⟩:=hr.heap.rows r row1 g4;have:=hx r ri4 g5;rw[e2]at this;cases this;have:=hr.heap.inj r r' row1 row' ri ri' g4 e6 g5 e7 e3 e8 e9;subst this;exact g0.elim e4 e5
    ·refine hm ?_;obtain⟨c,m⟩:=row2;cases m with
     | own=>rfl
     | ro=>cases h0
     | lock=>rfl
  rcases rowsOf q row qi h1 h4 h6 with⟨r1,e1⟩ | ⟨e1,e2,e3,e4⟩<;>rcases rowsOf q' row' qi' h3 h5 h7 with⟨r2,f1⟩ | ⟨f1,f2,f3,f4⟩
  ·exact hh.inj q q' _ _ qi qi' e1 f1 h4 h5 h6 h7 h8
  ·exact(mixed q q' row' r1 qi qi' e1 h4 h6 f1 f2 f3 f4 h7 h8).elim
  ·exact(mixed q' q row r2 qi' qi f1 h5 h7 e1 e2 e3 e4 h6 h8.symm).elim
  ·exact hr.heap.inj q q' row row' qi qi' e3 f3 e4 f4 h6 h7 h8
 ·have R8:st2.s t=oJ o.dst st.s st'.s t:=by rw[←h2]
  rw[R8]
  have T8:∀t,o.dst≠some t→(a.put o.dst v).tmps.getD t undef=a.tmps.getD t undef:=λt ht=>by
   cases hd:o.dst with
   | none=>rfl
   | some d=>
    simp only[Act.put,Array.getD_eq_getD_getElem?];rw[Array.getElem?_setIfInBounds_ne];rintro rfl;exact ht hd
  have other:o.dst≠some t→VR w1 ρ1 (jA outer ρ1 st2.h) ((a.put o.dst v).tmps.getD t undef) (st.s t):=λht=>by
   rw[T8 t ht];exact keepO _ _ (hr.slots t)
  cases hd:o.dst with
  | none=>simp only[oJ];rw[←hd];exact other (by rw[hd];simp)
  | some d=>
   simp only[oJ]
   by_cases ht:t=d
   ·subst ht;rw[EA, ←hd];exact keepN _ _ (WV.slots t)
   ·rw[tA _ _ _ _ ht, ←hd];exact other (by rw[hd];simpa using λe=>ht e.symm)
def TE(C:Cx)(ops:Array Oper)(nx:Nat)(e:nC)(st st':St):Prop:=
 ∃ o,ops[e.i]?=some o∧e.dst=o.dst∧
  ((o.guard=none∧fE C (nx+128 *e.i) o e.ls e.rd e.wr st some=some st')∨
   ∃j want dj,o.guard=some (j,want)∧(ops[j]?).bind (·.dst)=some dj∧dj∈e.ls∧
    ((st.s dj= .bool want∧fE C (nx+128 *e.i) o e.ls e.rd e.wr st some=some st')∨
     ((st.s dj= .tup []∨st.s dj= .bool (!want))∧IA C o.dst st (.tup []) some=some st')))
def nC.at(e:nC)(nx r:Nat):Prop:=r∈e.rd∨r∈e.wr∨(nx+128 *e.i≤r∧r<nx+128 *e.i+128)
def nC.to(e:nC)(nx r:Nat):Prop:=r∈e.wr∨(nx+128 *e.i≤r∧r<nx+128 *e.i+128)
omit [fA]in
def zjD{dst:Option Nat}{s s':Nat→V}{t:Nat}(h:dst≠some t):oJ dst s s' t=s t:=by
 cases dst with
 | none=>rfl
 | some d=>exact tA _ _ _ _ (λe=>h (by rw[e]))
omit [fA]in
def zdN{d:Nat}{s s':Nat→V}:oJ (some d) s s' d=s' d:=EA _ _ _
omit [fA]in
def zbv{b:Nat}{wr:List Nat}{h h':Nat→Option kA}{r:Nat}(hr:r∈wr∨(b≤r∧r<b+128)):nI b wr h h' r=h' r:=by
 have:(qD r wr||cG b r)=true:=by
  rcases hr with hr | hr
  ·simp[PH.2 hr]
  ·simp[zc8.2 hr]
 simp only[nI,this,cond_true]
omit [fA]in
def zem{b:Nat}{wr:List Nat}{h h':Nat→Option kA}{r:Nat}(hr:¬(r∈wr∨(b≤r∧r<b+128))):nI b wr h h' r=h r:=by
 have:(qD r wr||cG b r)=false:=by
  simp only[Bool.or_eq_false_iff,zI,tI];exact⟨λh=>hr (.inl h),λh=>hr (.inr h)⟩
 simp only[nI,this,cond_false]
omit [fA]in
def zav{b:Nat}{o:Oper}{ls rd wr:List Nat}(h:fE C b o ls rd wr st some=some st'):
  ∃x,UA C b o {s:=mI ls st.s,h:=GE rd wr st.h,nx:=st.nx} some=some x∧st'={s:=oJ o.dst st.s x.s,h:=nI b wr st.h x.h,nx:=st.nx}:=by
 unfold fE at h;rw[LM]at h;obtain⟨x,h1,h2⟩:=Option.bind_eq_some_iff.1 h;exact⟨x,h1,(Option.some.inj h2).symm⟩
omit [fA]in
def za3{b:Nat}{o:Oper}{ls rd wr:List Nat}{x:St}(h:UA C b o {s:=mI ls st.s,h:=GE rd wr st.h,nx:=st.nx} some=some x):
  fE C b o ls rd wr st some=some {s:=oJ o.dst st.s x.s,h:=nI b wr st.h x.h,nx:=st.nx}:=by
 unfold fE;rw[LM,h];rfl
omit [fA]in
def TE.frame{ops:Array Oper}{nx:Nat}{e:nC}(h:TE C ops nx e st st'):
  (∀t,e.dst≠some t→st'.s t=st.s t)∧(∀r,¬e.to nx r→st'.h r=st.h r)∧st'.nx=st.nx:=by
 obtain⟨o,h1,h2,h3⟩:=h
 have stp:fE C (nx+128 *e.i) o e.ls e.rd e.wr st some=some st'→(∀t,e.dst≠some t→st'.s t=st.s t)∧(∀r,¬e.to nx r→st'.h r=st.h r)∧st'.nx=st.nx:=λh=>by
  obtain⟨x,k1,rfl⟩:=zav h;exact⟨λt ht=>zjD (by rw[←h2];exact ht),λr hr=>zem hr,rfl⟩
 have skp:IA C o.dst st (.tup []) some=some st'→(∀t,e.dst≠some t→st'.s t=st.s t)∧(∀r,¬e.to nx r→st'.h r=st.h r)∧st'.nx=st.nx:=λh=>by
  have L:=JT (π:=λ_=>True) (V.tup []) st' h;refine⟨λt ht=>L.slots t (by rw[←h2];exact ht),λr _=>?_,L.nx⟩;cases hd:o.dst with
  | none=>rw[hd]at h;simp[IA]at h;rw[h]
  | some d=>
   rw[hd]at h;simp only[IA]at h;cases hb:Nat.blt d C.nt<;>simp[hb]at h
   rw[←h]
 rcases h3 with⟨_,h⟩ | ⟨j,want,dj,_,_,_,⟨_,h⟩ | ⟨_,h⟩⟩
 ·exact stp h
 ·exact stp h
 ·exact skp h
omit [fA]in
def TE.loc{ops:Array Oper}{nx:Nat}{e:nC}(h:TE C ops nx e st st')(hs:∀t∈e.ls,st2.s t=st.s t)(hh:∀r,e.at nx r→st2.h r=st.h r)(hn:st2.nx=st.nx):
  ∃st2',TE C ops nx e st2 st2'∧(∀t,e.dst=some t→st2'.s t=st'.s t)∧(∀r,e.to nx r→st2'.h r=st'.h r):=by
 obtain⟨o,h1,h2,h3⟩:=h
 have F4:mI e.ls st2.s=mI e.ls st.s:=by
  funext t;simp only[mI];cases hm:qD t e.ls
  ·rfl
  ·simp only[cond_true];exact hs t (PH.1 hm)
 have hch:GE e.rd e.wr st2.h=GE e.rd e.wr st.h:=by
  funext r;simp only[GE];cases hm:qD r e.wr
  ·cases z3:qD r e.rd
   ·rfl
   ·simp only[cond_true,cond_false];rw[hh r (.inl (PH.1 z3))]
  ·simp only[cond_true];exact hh r (.inr (.inl (PH.1 hm)))
 have stp:fE C (nx+128 *e.i) o e.ls e.rd e.wr st some=some st'→∃st2',fE C (nx+128 *e.i) o e.ls e.rd e.wr st2 some=some st2'∧(∀t,e.dst=some t→st2'.s t=st'.s t)∧(∀r,e.to nx r→st2'.h r=st'.h r):=λh=>by
  obtain⟨x,k1,rfl⟩:=zav h;refine⟨_,za3 (x:=x) (by rw[F4,hch,hn];exact k1),λt ht=>?_,λr hr=>?_⟩
  ·rw[h2]at ht;rw[ht];exact(zdN).trans zdN.symm
  ·exact(zbv hr).trans (zbv hr).symm
 have skp:IA C o.dst st (.tup []) some=some st'→∃st2',IA C o.dst st2 (.tup []) some=some st2'∧(∀t,e.dst=some t→st2'.s t=st'.s t)∧(∀r,e.to nx r→st2'.h r=st'.h r):=λh=>by
  cases hd:o.dst with
  | none=>
   rw[hd]at h;simp[IA]at h;subst h;refine⟨st2,rfl,λt ht=>?_,λr hr=>hh r (.inr hr)⟩;rw[h2,hd]at ht;cases ht
  | some d=>
   rw[hd]at h;simp only[IA]at h;cases hb:Nat.blt d C.nt<;>simp[hb]at h
   subst h;refine⟨{st2 with s:=sA st2.s d (.tup [])},by simp[IA,hb],λt ht=>?_,λr hr=>hh r (.inr hr)⟩;rw[h2,hd]at ht;cases ht;exact(EA _ _ _).trans (EA _ _ _).symm
 rcases h3 with⟨g,h⟩ | ⟨j,want,dj,g1,g2,g3,⟨g4,h⟩ | ⟨g4,h⟩⟩
 ·obtain⟨x,k1,k2,k3⟩:=stp h;exact⟨x,⟨o,h1,h2, .inl ⟨g,k1⟩⟩,k2,k3⟩
 ·obtain⟨x,k1,k2,k3⟩:=stp h;exact⟨x,⟨o,h1,h2, .inr ⟨j,want,dj,g1,g2,g3, .inl ⟨by rw[hs dj g3];exact g4,k1⟩⟩⟩,k2,k3⟩
 ·obtain⟨x,k1,k2,k3⟩:=skp h;exact⟨x,⟨o,h1,h2, .inr ⟨j,want,dj,g1,g2,g3, .inr ⟨by rw[hs dj g3];exact g4,k1⟩⟩⟩,k2,k3⟩
structure TU(nx:Nat)(e1 e:nC):Prop where
 s1:∀t,e1.dst=some t→t∉e.ls
 s2:∀t,e.dst=some t→t∉e1.ls
 s3:∀t,e1.dst=some t→e.dst≠some t
 h1:∀r,e1.to nx r→¬e.at nx r
 h2:∀r,e.to nx r→¬e1.at nx r
omit [fA]in
def ziR{nx:Nat}{e1 e:nC}(MX:e1.i≠e.i)(h:LG nx e1 e=true):TU nx e1 e:=by
 simp only[LG,Bool.and_eq_true,Bool.not_eq_true',List.all_eq_true]at h;obtain⟨⟨⟨⟨⟨⟨⟨⟨a1,a2⟩,a3⟩,a4⟩,a5⟩,a6⟩,a7⟩,a8⟩,a9⟩:=h;have dst:∀{d:Option Nat} {l:List Nat},JU d l=false→∀t,d=some t→t∉l:=λh t ht=>by subst ht;exact zI.1 h
 refine⟨dst a1,dst a2,λt ht h=>?_,λr hr G4=>?_,λr hr G4=>?_⟩
 ·have:=dst a3 t ht;rw[h]at this;simp at this
 ·rcases hr with hr | hr
  ·have:=a4 r hr
   rcases G4 with h | h | h
   ·exact zI.1 this.1 h
   ·exact zI.1 this.2 h
   ·exact tI.1 (a9 r hr) h
  ·rcases G4 with h | h | h
   ·exact tI.1 (a6 r h) hr
   ·exact tI.1 (a7 r h) hr
   ·omega
 ·rcases hr with hr | hr
  ·rcases G4 with h | h | h
   ·exact zI.1 (a5 r hr) h
   ·exact zI.1 (a4 r h).2 hr
   ·exact tI.1 (a7 r hr) h
  ·rcases G4 with h | h | h
   ·exact tI.1 (a8 r h) hr
   ·exact tI.1 (a9 r h) hr
   ·omega
omit [fA]in
def TE.swap{ops:Array Oper}{nx:Nat}{e1 e:nC}(hp:TU nx e1 e)(h1:TE C ops nx e1 st st1)(h2:TE C ops nx e st1 st2):
  ∃st1',TE C ops nx e st st1'∧TE C ops nx e1 st1' st2:=by
 obtain⟨f1,f2,f3⟩:=h1.frame;obtain⟨g1,g2,g3⟩:=h2.frame;obtain⟨x,k1,k2,k3⟩:=h2.loc (st2:=st) (λt ht=>(f1 t λe=>hp.s1 t e ht).symm) (λr hr=>(f2 r λh=>hp.h1 r h hr).symm) f3.symm;obtain⟨m1,m2,m3⟩:=k1.frame;obtain⟨y,n1,n2,n3⟩:=h1.loc (st2:=x) (λt ht=>m1 t λe=>hp.s2 t e ht) (λr hr=>m2 r λh=>hp.h2 r h hr) m3;obtain⟨p1,p2,p3⟩:=n1.frame
 have hy:y=st2:=by
  have es:y.s=st2.s:=by
   funext t
   by_cases t1:e1.dst=some t
   ·rw[n2 t t1,g1 t (hp.s3 t t1)]
   ·rw[p1 t t1]
    by_cases t2:e.dst=some t
    ·rw[k2 t t2]
    ·rw[m1 t t2,g1 t t2,f1 t t1]
  have eh:y.h=st2.h:=by
   funext r;have toAt:∀{e:nC},e.to nx r→e.at nx r:=λh=> .inr h
   by_cases t1:e1.to nx r
   ·rw[n3 r t1,g2 r λh=>hp.h2 r h (toAt t1)]
   ·rw[p2 r t1]
    by_cases t2:e.to nx r
    ·rw[k3 r t2]
    ·rw[m2 r t2,g2 r t2,f2 r t1]
  have en:y.nx=st2.nx:=by rw[p3,m3,g3,f3]
  cases y;cases st2;simp_all
 exact⟨x,k1,hy▸n1⟩
inductive RF(C:Cx)(ops:Array Oper)(nx:Nat):List nC→St→St→Prop
 | nil (st:St):RF C ops nx [] st st
 | cons {e:nC} {l:List nC} {st st1 st2:St} (h:TE C ops nx e st st1) (k:RF C ops nx l st1 st2):RF C ops nx (e :: l) st st2
omit [fA]in
def RF.front{ops:Array Oper}{nx:Nat}{e:nC}{l2:List nC}:∀(l1:List nC) (st:St),(∀e1∈l1,TU nx e1 e)→RF C ops nx (l1++e :: l2) st st2→∃st1,TE C ops nx e st st1∧RF C ops nx (l1++l2) st1 st2
 | [],st,_,h=>by cases h with | cons h k=>exact⟨_,h,k⟩
 | e1 :: l1,st,hp,h=>by
  cases h with
  | cons h k=>
   obtain⟨s,k1,k2⟩:=RF.front l1 _ (λe h=>hp e (List.mem_cons_of_mem _ h)) k;obtain⟨x,n1,n2⟩:=h.swap (hp e1 (by simp)) k1;exact⟨x,n1, .cons n2 k2⟩
omit [fA]in
def zcX:∀(l:List Oper) (acc:List Nat),∃t,iC acc l=acc++t
 | [],acc=>⟨[],by simp[iC]⟩
 | o :: l,acc=>by
  obtain⟨t,h⟩:=zcX l (acc++[JP acc o.after.toList]);exact⟨_,by simp only[iC];rw[h,List.append_assoc]⟩
omit [fA]in
def zdK:∀(l:List Oper) (acc:List Nat) (k:Nat) (o:Oper),l[k]?=some o→
  (iC acc l).getD (acc.length+k) 0=JP ((iC acc l).take (acc.length+k)) o.after.toList
 | [],acc,k,o,h=>by simp at h
 | x :: l,acc,0,o,h=>by
  simp at h;subst h;simp only[iC,Nat.add_zero];obtain⟨t,ht⟩:=zcX l (acc++[JP acc x.after.toList]);rw[ht,List.append_assoc,List.getD_eq_getElem?_getD,List.getElem?_append_right (Nat.le_refl _)];simp
 | x :: l,acc,k+1,o,h=>by
  have:=zdK l (acc++[JP acc x.after.toList]) k o (by simpa using h);simp only[List.length_append,List.length_singleton]at this;simp only[iC];rw[show acc.length+(k+1)=acc.length+1+k by omega];exact this
omit [fA]in
def zdB(ms:List Nat)(d:Nat):∀(es:List Edge) (s:Nat),Nat.testBit (es.foldl (λs e=>bif Region.binds .any e then s|||(2^e.on|||ms.getD e.on 0)else s) s) d=true→
  Nat.testBit s d=true∨∃e∈es,Region.binds .any e=true∧(e.on=d∨Nat.testBit (ms.getD e.on 0) d=true)
 | [],s,h=> .inl h
 | e :: es,s,h=>by
  rcases zdB ms d es _ h with h1 | ⟨x,h1,h2⟩
  ·cases hb:Region.binds .any e
   ·simp only[hb,cond_false]at h1;exact .inl h1
   ·simp only[hb,cond_true,Nat.testBit_or,Bool.or_eq_true,Nat.testBit_two_pow,decide_eq_true_eq]at h1
    rcases h1 with h1 | h1 | h1
    ·exact .inl h1
    ·exact .inr ⟨e,by simp,hb, .inl h1⟩
    ·exact .inr ⟨e,by simp,hb, .inr h1⟩
  ·exact .inr ⟨x,List.mem_cons_of_mem _ h1,h2⟩
omit [fA]in
def zmg{ops:Array Oper}{S:Nat→Prop}(hE:∀i o,ops[i]?=some o→∀e∈o.after,Region.binds .any e=true→e.on<i)
  (hS:∀k o,S k→ops[k]?=some o→∀e∈o.after,Region.binds .any e=true→S e.on):
  ∀(i:Nat) (o:Oper),ops[i]?=some o→(∀e∈o.after,Region.binds .any e=true→S e.on)→∀d,Nat.testBit ((iC [] ops.toList).getD i 0) d=true→S d:=by
 intro i;induction i using Nat.strongRecOn with
 | _ i ih=>
  intro o ho he d hd;have h0:=zdK ops.toList [] i o (by simpa using ho);simp only[List.length_nil,Nat.zero_add]at h0;rw[h0]at hd
  have hi:i<ops.size:=by
   rcases Nat.lt_or_ge i ops.size with h | h
   ·exact h
   ·rw[Array.getElem?_eq_none h]at ho;cases ho
  rcases zdB _ d _ _ hd with h1 | ⟨e,h1,h2,h3⟩
  ·simp at h1
  ·have h1:e∈o.after:=by simpa using h1
   have hse:=he e h1 h2;have NV:=hE i o ho e h1 h2
   rcases h3 with h3 | h3
   ·rw[←h3];exact hse
   ·have h4:((iC [] ops.toList).take i).getD e.on 0=(iC [] ops.toList).getD e.on 0:=by
     rw[List.getD_eq_getElem?_getD,List.getD_eq_getElem?_getD,List.getElem?_take,if_pos NV]
    rw[h4]at h3;have zY:ops[e.on]?=some ops[e.on]:=Array.getElem?_eq_getElem (by omega);exact ih e.on NV _ zY (hS e.on _ hse zY) d h3
omit [fA]in
def zaI{ops:Array Oper}{listed:Array Bool}{i:Nat}:i∈Region.ready .any ops listed↔
  i<ops.size∧listed.getD i true=false∧∃o,ops[i]?=some o∧∀e∈o.after,Region.binds .any e=true→listed.getD e.on false=true:=by
 unfold Region.ready;rw[List.mem_filter,List.mem_range];constructor
 ·rintro⟨h1,h2⟩;simp only[Bool.and_eq_true,Bool.not_eq_true']at h2;refine⟨h1,h2.1,?_⟩;rw[Array.getElem?_eq_getElem h1]at h2;refine⟨ops[i],Array.getElem?_eq_getElem h1,λe he hb=>?_⟩;have h3:=h2.2;simp only[Option.map_some,Option.getD_some]at h3;rw[Array.all_eq_true']at h3;have:=h3 e he;simpa[hb]using this
 ·rintro⟨h1,h2,o,h3,h4⟩;refine⟨h1,?_⟩;rw[h2,h3];simp only[Bool.not_false,Bool.true_and,Option.map_some,Option.getD_some];rw[Array.all_eq_true'];intro e he;cases hb:Region.binds .any e
  ·rfl
  ·simp[h4 e he hb]
def zlT{w:World}{ρ:Nat→Option RI}{bad:Nat→Prop}{v:Value}(h:VR w ρ bad v (.tup [])):v=undef:=by
 cases h with
 | tup _ vs hs hv=>
  have:vs= #[]:=by simpa using hs
  subst this;rfl
def zez(hC:iE C)(hΦ:rE C){ops:Array Oper}{nx:Nat}{Q:Exit→Act→World→Prop}{stf:St}(hE:∀i o,ops[i]?=some o→∀e∈o.after,Region.binds .any e=true→e.on<i)
  (D:Nat→Prop) (hD:∀o∈ops,∀d,o.dst=some d→D d) (ρ0:Nat→Option RI)
  (MV:∀a' w' ρ',NA C w0 outer own ρ' stf a' w'→(∀q qi,ρ0 q=some qi→ρ' q=some qi)→(∀q,nx+128 *ops.size≤q→ρ' q=none)→Q .normal a' w'):
  ∀(fuel:Nat) (l:List nC) (listed:Array Bool) (st:St) (a:Act) (w:World) (ρ:Nat→Option RI),
   l.length=fuel→RF C ops nx l st stf→l.Pairwise (λe1 e=>e1.i<e.i∧(Nat.testBit ((iC [] ops.toList).getD e.i 0) e1.i=true∨LG nx e1 e=true))→
   listed.size=ops.size→(∀i,i<ops.size→(listed.getD i true=false↔∃e∈l,e.i=i))→(∀e∈l,e.i<ops.size)→
   (∀k o,listed.getD k false=true→ops[k]?=some o→∀e∈o.after,Region.binds .any e=true→listed.getD e.on false=true)→
   NA C w0 outer own ρ st a w→(∀e∈l,∀q,q<128→ρ (nx+128 *e.i+q)=none)→(∀q,nx+128 *ops.size≤q→ρ q=none)→(∀q qi,ρ0 q=some qi→ρ q=some qi)→
   wpAny C.P .any ops Q fuel listed a w
 | 0,l,listed,st,a,w,ρ,hl,ht,hp,RV,nX,NV,TZ,hr,hf,hN,hx=>by
  obtain rfl:l=[]:=List.eq_nil_of_length_eq_zero hl;cases ht;refine⟨?_,MV a w ρ hr hx hN⟩;refine List.eq_nil_iff_forall_not_mem.2 λi hi=>?_;obtain⟨h1,h2,_⟩:=zaI.1 hi;obtain⟨e,he,_⟩:=(nX i h1).1 h2;simp at he
 | fuel+1,l,listed,st,a,w,ρ,hl,ht,hp,RV,nX,NV,TZ,hr,hf,hN,hx=>by
  have getF:∀k,k<ops.size→listed.getD k true=true→listed.getD k false=true:=λk hk h=>by
   rw[Array.getD_eq_getD_getElem?]at h⊢;rw[Array.getElem?_eq_getElem (by omega)]at h⊢;exact h
  have getT:∀k,listed.getD k false=true→listed.getD k true=true:=λk h=>by
   rw[Array.getD_eq_getD_getElem?]at h⊢;cases h2:listed[k]? with
   | none=>rfl
   | some b=>rw[h2]at h;exact h
  refine⟨λQZ=>?_,λi hi=>?_⟩
  ·exfalso;cases l with
   | nil=>simp at hl
   | cons e l=>
    have he:=NV e (by simp)
    have:e.i∈Region.ready .any ops listed:=zaI.2 ⟨he,(nX _ he).2 ⟨e,by simp,rfl⟩,ops[e.i],Array.getElem?_eq_getElem he,λx hx hb=>by
     have h1:=hE _ _ (Array.getElem?_eq_getElem he) x hx hb;refine getF _ (by omega) ?_;cases h2:listed.getD x.on true with
     | true=>rfl
     | false=>
      obtain⟨e',h3,h4⟩:=(nX x.on (by omega)).1 h2
      rcases List.mem_cons.1 h3 with rfl | h3
      ·omega
      ·have:=(List.rel_of_pairwise_cons hp h3).1;omega⟩
    rw[QZ]at this;simp at this
  ·obtain⟨h1,h2,o,ho,h4⟩:=zaI.1 hi;obtain⟨e,he,rfl⟩:=(nX i h1).1 h2;obtain⟨l1,l2,rfl⟩:=List.append_of_mem he
   have hap:∀e1∈l1,TU nx e1 e:=λe1 AY=>by
    have h5:=(List.pairwise_append.1 hp).2.2 e1 AY e (by simp);refine ziR (by omega) (h5.2.resolve_left λhb=>?_);have:=zmg (S:=λk=>listed.getD k false=true) hE (λk o hk I4=>TZ k o hk I4) e.i o ho h4 e1.i hb;have h6:=(nX e1.i (NV e1 (by simp[AY]))).2 ⟨e1,by simp[AY],rfl⟩;rw[getT _ this]at h6;cases h6
   obtain⟨s1,k1,k2⟩:=ht.front l1 st hap;obtain⟨o',ho',hdst,jW⟩:=k1;rw[ho]at ho';cases ho'
   -- what is left
   have rest:∀a1 w1 ρ1,NA C w0 outer own ρ1 s1 a1 w1→(∀q,¬(nx+128 *e.i≤q∧q<nx+128 *e.i+128)→ρ1 q=ρ q)→(∀q qi,ρ q=some qi→ρ1 q=some qi)→
     wpAny C.P .any ops Q fuel (listed.setIfInBounds e.i true) a1 w1:=λa1 w1 ρ1 WV z7 n4=>by
    have MX:∀e'∈l1++l2,e'.i≠e.i:=λe' h=>by
     rcases List.mem_append.1 h with h | h
     ·have:=((List.pairwise_append.1 hp).2.2 e' h e (by simp)).1;omega
     ·have:=(List.rel_of_pairwise_cons (List.pairwise_append.1 hp).2.1 h).1;omega
    have C2:∀k d,k≠e.i→(listed.setIfInBounds e.i true).getD k d=listed.getD k d:=λk d hk=>by
     rw[Array.getD_eq_getD_getElem?,Array.getD_eq_getD_getElem?,Array.getElem?_setIfInBounds_ne (λh=>hk h.symm)]
    have mX:∀d,(listed.setIfInBounds e.i true).getD e.i d=true:=λd=>by
     rw[Array.getD_eq_getD_getElem?,Array.getElem?_setIfInBounds_self];simp[RV,h1]
    refine zez hC hΦ hE D hD ρ0 MV fuel (l1++l2) _ s1 a1 w1 ρ1 (by simp at hl⊢;omega) k2 ?_ (by simp[RV]) (λi hi=>?_) (λe' VW=>NV e' ?_) ?_ WV (λe' VW q hq=>?_) (λq hq=>?_) (λq qi h=>n4 q qi (hx q qi h))
    ·refine hp.sublist ?_;exact(List.sublist_cons_self e l2).append_left l1
    ·by_cases Z3:i=e.i
     ·subst Z3;rw[mX];constructor
      ·intro h;cases h
      ·rintro⟨e',h5,h6⟩;exact absurd h6 (MX e' h5)
     ·rw[C2 i true Z3,nX i hi];constructor
      ·rintro⟨e',h5,h6⟩;refine⟨e',?_,h6⟩
       rcases List.mem_append.1 h5 with h5 | h5
       ·exact List.mem_append_left _ h5
       ·rcases List.mem_cons.1 h5 with rfl | h5
        ·exact absurd h6.symm Z3
        ·exact List.mem_append_right _ h5
      ·rintro⟨e',h5,h6⟩;refine⟨e',?_,h6⟩
       rcases List.mem_append.1 h5 with h5 | h5
       ·exact List.mem_append_left _ h5
       ·exact List.mem_append_right _ (List.mem_cons_of_mem _ h5)
    ·rcases List.mem_append.1 VW with h5 | h5
     ·exact List.mem_append_left _ h5
     ·exact List.mem_append_right _ (List.mem_cons_of_mem _ h5)
    ·intro k o2 hk I4 x hx2 hb
     by_cases hxe:x.on=e.i
     ·rw[hxe];exact mX false
     ·rw[C2 _ _ hxe]
      by_cases hke:k=e.i
      ·subst hke;rw[ho]at I4;cases I4;exact h4 x hx2 hb
      ·rw[C2 _ _ hke]at hk;exact TZ k o2 hk I4 x hx2 hb
    ·rw[z7 _ (by have:=MX e' VW;omega)];refine hf e' ?_ q hq
     rcases List.mem_append.1 VW with h5 | h5
     ·exact List.mem_append_left _ h5
     ·exact List.mem_append_right _ (List.mem_cons_of_mem _ h5)
    ·rw[z7 q (by omega)];exact hN q hq
   have run:fE C (nx+128 *e.i) o e.ls e.rd e.wr st some=some s1→o.wp C.P a w (wpAny C.P .any ops Q fuel (listed.setIfInBounds e.i true)) Q:=λhs=>by
    refine zlP hr hC hΦ ⟨_,hN⟩ (λq hq=>hf e (by simp) q hq) hs _ Q λa1 w1 hA=>?_;obtain⟨ρ1,WV,z7,n4⟩:=hA;exact rest a1 w1 ρ1 WV (λq hq=>z7 q hq) n4
   unfold wpOp;rw[ho]
   rcases jW with⟨hg,hs⟩ | ⟨j,want,dj,hg,KY,_,⟨hv,hs⟩ | ⟨hv,hs⟩⟩
   ·simp only;rw[if_pos (by simp[Region.wanted,hg])];exact .inl (run hs)
   ·have WZ:=hr.slots dj;rw[hv]at WZ
    have hb:a.tmps.getD dj undef= .bool want:=by
     generalize a.tmps.getD dj undef=v at WZ;cases WZ;rfl
    have gY:dj<a.tmps.size:=by
     rcases Nat.lt_or_ge dj a.tmps.size with h | h
     ·exact h
     ·rw[Array.getD_eq_getD_getElem?,Array.getElem?_eq_none h]at hb;cases hb
    have hy:yielded ops a.tmps j=some want:=by
     unfold yielded;rw[KY];simp only[Option.bind_some];rw[Array.getD_eq_getD_getElem?,Array.getElem?_eq_getElem gY]at hb;rw[Array.getElem?_eq_getElem gY];simp only[Option.getD_some]at hb;rw[hb]
    simp only;rw[if_pos (by simp[Region.wanted,hg,hy])];exact .inl (run hs)
   ·have YW:Region.wanted o (yielded ops a.tmps)=false:=by
     have WZ:=hr.slots dj
     rcases hv with hv | hv
     ·rw[hv]at WZ;have hu:=zlT WZ
      have hy:yielded ops a.tmps j=none:=by
       unfold yielded;rw[KY];simp only[Option.bind_some];split
       ·rename_i b hb;rw[Array.getD_eq_getD_getElem?,hb]at hu;cases hu
       ·rfl
      simp[Region.wanted,hg,hy]
     ·rw[hv]at WZ
      have hb:a.tmps.getD dj undef= .bool (!want):=by
       generalize a.tmps.getD dj undef=v at WZ;cases WZ;rfl
      have hy:yielded ops a.tmps j=some (!want):=by
       unfold yielded;rw[KY];simp only[Option.bind_some];rw[Array.getD_eq_getD_getElem?]at hb;cases h2:a.tmps[dj]? with
       | none=>rw[h2]at hb;cases hb
       | some v=>rw[h2]at hb;simp only[Option.getD_some]at hb;rw[hb]
      simp only[Region.wanted,hg,hy];cases want<;>rfl
    simp only;rw[if_neg (by simp[YW])];obtain⟨p1,_,_⟩:=hr.put (v:=undef) (d:= .tup []) (.tup [] #[] rfl λj hj=>by simp at hj) hs;exact rest _ w ρ p1 (λ_ _=>rfl) (λ_ _ h=>h)
omit [fA]in
def TE.keeps{ops:Array Oper}{nx:Nat}{e:nC}(h:TE C ops nx e st st'):dC nx st.h st'.h:=by
 obtain⟨o,h1,h2,h3⟩:=h
 have stp:fE C (nx+128 *e.i) o e.ls e.rd e.wr st some=some st'→dC nx st.h st'.h:=λh=>by
  obtain⟨x,k1,rfl⟩:=zav h;have L:=zdF (n:=nx) (i:=nx+128 *e.i) (by omega) o x k1;intro r row hr JV hm;have hr:r<nx:=hr;show nI _ _ _ _ r=_
  by_cases hw:r∈e.wr
  ·rw[zbv (.inl hw)];exact L.rows r row hr (by show GE e.rd e.wr st.h r=_;simp only[GE,PH.2 hw,cond_true];exact JV) hm
  ·rw[zem (λh=>h.elim hw λh=>by omega)];exact JV
 have skp:IA C o.dst st (.tup []) some=some st'→dC nx st.h st'.h:=λh=>(JT (π:=λr=>r<nx) (V.tup []) st' h).rows
 rcases h3 with⟨_,h⟩ | ⟨j,want,dj,_,_,_,⟨_,h⟩ | ⟨_,h⟩⟩
 ·exact stp h
 ·exact stp h
 ·exact skp h
omit [fA]in
def RF.frame{ops:Array Oper}{nx:Nat}(hD:∀o∈ops,∀d,o.dst=some d→D d){l:List nC}(h:RF C ops nx l st st'):
  (∀s,¬D s→st'.s s=st.s s)∧dC nx st.h st'.h∧st'.nx=st.nx:=by
 induction h with
 | nil=>exact⟨λ_ _=>rfl,dC.refl _ _,rfl⟩
 | cons h k ih=>
  obtain⟨f1,f2,f3⟩:=h.frame;obtain⟨o,h1,h2,_⟩:=id h;refine⟨λs hs=>?_,h.keeps.trans ih.2.1,ih.2.2.trans f3⟩;rw[ih.1 s hs,f1 s λhd=>hs (hD o (Array.mem_of_getElem? h1) s (h2▸hd))]
omit [fA]in
def zjS{mask nx:Nat}{rs:List nC}{e:nC}(h:FG mask nx rs e=true):∀e1∈rs,Nat.testBit mask e1.i=true∨LG nx e1 e=true:=λe1 he=>by
 have:=List.all_eq_true.1 h e1 he;simpa using this
omit [fA]in
def zeI{ops:Array Oper}{nx:Nat}{K:St→Option R}{r:R}:∀(m k:Nat) (rs:List nC) (st:St),k+m=ops.size→
  MG C ops (iC [] ops.toList) nx (XD k (ops.toList.drop k)) rs st K=some r→
  ∃l stf,RF C ops nx l st stf∧K stf=some r∧l.map (·.i)=List.range' k m∧(∀i o,k≤i→ops[i]?=some o→∀e∈o.after,Region.binds .any e=true→e.on<i)∧
   (∀e∈l,∀e1∈rs,Nat.testBit ((iC [] ops.toList).getD e.i 0) e1.i=true∨LG nx e1 e=true)∧
   l.Pairwise λe1 e=>e1.i<e.i∧(Nat.testBit ((iC [] ops.toList).getD e.i 0) e1.i=true∨LG nx e1 e=true)
 | 0,k,rs,st,hk,IV=>by
  have:ops.toList.drop k=[]:=List.drop_eq_nil_of_le (by simp;omega);rw[this]at IV;refine⟨[],st, .nil _,IV,rfl,λi o hi ho=>?_,λe he=>by simp at he, .nil⟩;rw[Array.getElem?_eq_none (by omega)]at ho;cases ho
 | m+1,k,rs,st,hk,IV=>by
  have NV:k<ops.size:=by omega
  have ho:ops[k]?=some ops[k]:=Array.getElem?_eq_getElem NV
  have J4:XD k (ops.toList.drop k)=(k,ops[k]) :: XD (k+1) (ops.toList.drop (k+1)):=by
   rw[List.drop_eq_getElem_cons (by simpa using NV)];rfl
  rw[J4]at IV;simp only[MG]at IV;cases U8:ze1 k ops[k]
  case false=>simp[U8]at IV
  simp only[U8,XB]at IV
  have K4:∀e∈(ops[k]).after,Region.binds .any e=true→e.on<k:=λe he hb=>by
   have:=List.all_eq_true.1 U8 e (by simpa using he);simp only[hb,Bool.not_true,Bool.false_or,Nat.blt_eq]at this;exact this
  -- one operation more
  have more:∀(e:nC) (st1:St),e.i=k→FG ((iC [] ops.toList).getD k 0) nx rs e=true→TE C ops nx e st st1→
    MG C ops (iC [] ops.toList) nx (XD (k+1) (ops.toList.drop (k+1))) (e :: rs) st1 K=some r→
    ∃l stf,RF C ops nx l st stf∧K stf=some r∧l.map (·.i)=List.range' k (m+1)∧(∀i o,k≤i→ops[i]?=some o→∀e∈o.after,Region.binds .any e=true→e.on<i)∧
     (∀e∈l,∀e1∈rs,Nat.testBit ((iC [] ops.toList).getD e.i 0) e1.i=true∨LG nx e1 e=true)∧
     l.Pairwise λe1 e=>e1.i<e.i∧(Nat.testBit ((iC [] ops.toList).getD e.i 0) e1.i=true∨LG nx e1 e=true):=λe st1 hei ZW L4 PV=>by
   obtain⟨l,stf,k1,k2,k3,k4,k5,k6⟩:=zeI m (k+1) (e :: rs) st1 (by omega) PV
   have hli:∀e'∈l,k+1≤e'.i:=λe' VW=>by
    have:e'.i∈l.map (·.i):=List.mem_map.2 ⟨e',VW,rfl⟩;rw[k3,List.mem_range']at this;obtain⟨_,_,h⟩:=this;omega
   refine⟨e :: l,stf, .cons L4 k1,k2,by rw[List.map_cons,k3,hei,List.range'_succ],λi o hi V8=>?_,λe' VW e1 AY=>?_,List.pairwise_cons.2 ⟨λe' VW=>⟨?_,?_⟩,k6⟩⟩
   ·rcases Nat.lt_or_eq_of_le hi with h | h
    ·exact k4 i o h V8
    ·subst h;rw[ho]at V8;cases V8;exact K4
   ·rcases List.mem_cons.1 VW with rfl | VW
    ·rw[hei];exact zjS ZW e1 AY
    ·exact k5 e' VW e1 (List.mem_cons_of_mem _ AY)
   ·have:=hli e' VW;omega
   ·exact k5 e' VW e (by simp)
  have skip:∀(j:Nat) (want:Bool) (dj:Nat),(ops[k]).guard=some (j,want)→(ops[j]?).bind (·.dst)=some dj→(st.s dj= .tup []∨st.s dj= .bool (!want))→
    (bif FG ((iC [] ops.toList).getD k 0) nx rs ⟨k,(ops[k]).dst,[dj],[],[]⟩ then IA C (ops[k]).dst st (.tup []) fun st'=>
     MG C ops (iC [] ops.toList) nx (XD (k+1) (ops.toList.drop (k+1))) (⟨k,(ops[k]).dst,[dj],[],[]⟩ :: rs) st' K else none)=some r→
    ∃l stf,RF C ops nx l st stf∧K stf=some r∧l.map (·.i)=List.range' k (m+1)∧(∀i o,k≤i→ops[i]?=some o→∀e∈o.after,Region.binds .any e=true→e.on<i)∧
     (∀e∈l,∀e1∈rs,Nat.testBit ((iC [] ops.toList).getD e.i 0) e1.i=true∨LG nx e1 e=true)∧
     l.Pairwise λe1 e=>e1.i<e.i∧(Nat.testBit ((iC [] ops.toList).getD e.i 0) e1.i=true∨LG nx e1 e=true):=λj want dj hg KY hv h=>by
   cases ZW:FG ((iC [] ops.toList).getD k 0) nx rs ⟨k,(ops[k]).dst,[dj],[],[]⟩
   case false=>rw[ZW]at h;cases h
   simp only[ZW,cond_true]at h;rw[aN]at h;obtain⟨st1,h1,h2⟩:=Option.bind_eq_some_iff.1 h;exact more _ st1 rfl ZW ⟨_,ho,rfl, .inr ⟨j,want,dj,hg,KY,by simp, .inr ⟨hv,h1⟩⟩⟩ h2
  split at IV
  ·rename_i hg;cases ZW:FG ((iC [] ops.toList).getD k 0) nx rs ⟨k,(ops[k]).dst,VJ ops[k],(sG ops[k] st).1,(sG ops[k] st).2⟩
   case false=>rw[ZW]at IV;cases IV
   simp only[ZW,XB]at IV;unfold fE at IV;rw[LM]at IV;obtain⟨x,h1,h2⟩:=Option.bind_eq_some_iff.1 IV;exact more _ _ rfl ZW ⟨_,ho,rfl, .inl ⟨hg,za3 h1⟩⟩ h2
  ·rename_i j want hg;split at IV
   ·cases IV
   rename_i dj KY;split at IV
   ·rename_i hs;exact skip j want dj hg KY (.inl hs) IV
   ·rename_i t hs
    have mX:({st with s:=sA st.s dj (.bool t)}:St)=st:=by
     have:sA st.s dj (.bool t)=st.s:=by
      funext q
      by_cases hq:q=dj
      ·subst hq;rw[EA,hs]
      ·rw[tA _ _ _ _ hq]
     rw[this]
    by_cases t7:t=want
    ·subst t7
     have IV:(bif FG ((iC [] ops.toList).getD k 0) nx rs ⟨k,(ops[k]).dst,dj :: VJ ops[k],(sG ops[k] {st with s:=sA st.s dj (.bool t)}).1,(sG ops[k] {st with s:=sA st.s dj (.bool t)}).2⟩then
       fE C (nx+128 *k) ops[k] (dj :: VJ ops[k]) (sG ops[k] {st with s:=sA st.s dj (.bool t)}).1 (sG ops[k] {st with s:=sA st.s dj (.bool t)}).2 {st with s:=sA st.s dj (.bool t)} λst'=>
        MG C ops (iC [] ops.toList) nx (XD (k+1) (ops.toList.drop (k+1))) (⟨k,(ops[k]).dst,dj :: VJ ops[k],(sG ops[k] {st with s:=sA st.s dj (.bool t)}).1,(sG ops[k] {st with s:=sA st.s dj (.bool t)}).2⟩ :: rs) st' K else none)=some r:=by
      cases t<;>exact IV
     rw[mX]at IV;cases ZW:FG ((iC [] ops.toList).getD k 0) nx rs ⟨k,(ops[k]).dst,dj :: VJ ops[k],(sG ops[k] st).1,(sG ops[k] st).2⟩
     case false=>rw[ZW]at IV;cases IV
     simp only[ZW,cond_true]at IV;unfold fE at IV;rw[LM]at IV;obtain⟨x,h1,h2⟩:=Option.bind_eq_some_iff.1 IV;exact more _ _ rfl ZW ⟨_,ho,rfl, .inr ⟨j,t,dj,hg,KY,by simp, .inl ⟨hs,za3 h1⟩⟩⟩ h2
    ·have vW:t= !want:=by cases t<;>cases want<;>simp_all
     have IV:(bif FG ((iC [] ops.toList).getD k 0) nx rs ⟨k,(ops[k]).dst,[dj],[],[]⟩then IA C (ops[k]).dst {st with s:=sA st.s dj (.bool t)} (.tup []) λst'=>
       MG C ops (iC [] ops.toList) nx (XD (k+1) (ops.toList.drop (k+1))) (⟨k,(ops[k]).dst,[dj],[],[]⟩ :: rs) st' K else none)=some r:=by
      subst vW;cases want<;>exact IV
     rw[mX]at IV;exact skip j want dj hg KY (.inr (by rw[hs,vW])) IV
   ·cases IV
def zmq(hC:iE C)(hΦ:rE C){id:Nat}{ops:Array Oper}{Q:Exit→Act→World→Prop}{K:St→Option R}{r:R}(hD:∀o∈ops,∀d,o.dst=some d→D d)
  (hr:NA C w0 outer own ρ st a w) (hf:∀q,st.nx≤q→ρ q=none)
  (IV:MG C ops (iC [] ops.toList) st.nx (XD 0 ops.toList) [] st (λst'=>K {st' with nx:=st.nx+128 *ops.size})=some r)
  (MV:∀st' a' w' ρ',xB C w0 outer own D st ρ st' a' w' ρ'→K st'=some r→Q .normal a' w'):(Code.region id ops true).wp C.P Q a w:=by
 obtain⟨l,stf,k1,k2,k3,k4,k5,k6⟩:=zeI ops.size 0 [] st (by omega) IV;obtain⟨f1,f2,f3⟩:=k1.frame hD
 have M4:∀ i,i<ops.size↔∃ e ∈ l,e.i=i:=fun i=>by
  have : i ∈ l.map (·.i) ↔ i < ops.size := by rw [k3, List.mem_range']; constructor
                                              ·rintro⟨_,h,rfl⟩;omega
                                              ·intro h;exact⟨i,h,by omega⟩
  rw[←this,List.mem_map]
 have N4:∀i,i<ops.size→(Array.replicate ops.size false).getD i true=false:=λi hi=>by
  rw[Array.getD_eq_getD_getElem?,Array.getElem?_eq_getElem (by simpa using hi)];simp
 have O4:∀i,(Array.replicate ops.size false).getD i false=false:=λi=>by
  rw[Array.getD_eq_getD_getElem?];cases h:(Array.replicate ops.size false)[i]? with
  | none=>rfl
  | some b=>rw[Array.getElem?_replicate]at h;split at h<;>simp_all
 obtain⟨m1,m2⟩:=hr.heap.world (w':={w with drawn:=w.drawn+1}) ⟨rfl,rfl,rfl,Nat.le_refl _⟩ rfl;have WV:NA C w0 outer own ρ st a {w with drawn:=w.drawn+1}:=⟨m1,λi=>m2 _ _ (hr.slots i),hr.size,hr.defers,hr.glob⟩;refine wp_region_any hC.mixed ?_
 refine zez hC hΦ (λi o ho=>k4 i o (Nat.zero_le _) ho) D hD ρ (λa' w' ρ' h1 h2 h3=>?_) ops.size l _ st a _ ρ ?_ k1 k6 (by simp) (λi hi=>⟨λ_=>(M4 i).1 hi,λ_=>N4 i hi⟩) (λe he=>(M4 e.i).2 ⟨e,he,rfl⟩)
  (λk o hk=>by rw[O4]at hk;cases hk) WV (λe he q hq=>hf _ (by omega)) (λq hq=>hf q (by omega)) (λ_ _ h=>h)
 ·refine MV {stf with nx:=st.nx+128 *ops.size} a' w' ρ' ⟨⟨h1.heap,h1.slots,h1.size,h1.defers,h1.glob⟩,h2,f1,f2,Nat.le_add_right _ _,h3⟩ k2
 ·have:=congrArg List.length k3;simpa using this
end
end Go.D
namespace Go.D
variable [fA]
def IN:Ex→Exit
 | .normal=> .normal
 | .exit id=> .exit id
 | .ret=> .ret
section
variable {C:Cx} {w0:World} {outer own D:Nat→Prop} {R:Type} {st st1 st2:St} {ρ ρ1 ρ2:Nat→Option RI} {a a1 a2:Act} {w w1 w2:World}
def xB.refl(hr:NA C w0 outer own ρ st a w)(hf:∀q,st.nx≤q→ρ q=none):xB C w0 outer own D st ρ st a w ρ:=
 ⟨hr,λ_ _ h=>h,λ_ _=>rfl,dC.refl _ _,Nat.le_refl _,hf⟩
def xB.trans(h:xB C w0 outer own D st ρ st1 a1 w1 ρ1)(k:xB C w0 outer own D st1 ρ1 st2 a2 w2 ρ2):xB C w0 outer own D st ρ st2 a2 w2 ρ2:=
 ⟨k.rel,λq qi hq=>k.ext _ _ (h.ext _ _ hq),λs hs=>(k.slots s hs).trans (h.slots s hs),h.keeps.trans (k.keeps.le h.nx),Nat.le_trans h.nx k.nx,k.fresh⟩
def xB.mono{D':Nat→Prop}(h:xB C w0 outer own D st ρ st1 a1 w1 ρ1)(hd:∀s,D s→D' s):xB C w0 outer own D' st ρ st1 a1 w1 ρ1:=
 ⟨h.rel,h.ext,λs hs=>h.slots s λe=>hs (hd s e),h.keeps,h.nx,h.fresh⟩
omit [fA]in
def zio{s:Nat}{ids:List Nat}(h:zbI st s=some ids):JG st.h ids:=by
 unfold zbI at h;cases hb:Nat.ble 1000000 s
 ·simp only[hb,cond_false]at h;split at h
  ·rename_i hf;cases h;exact tS hf
  ·cases h
 ·simp only[hb,cond_true]at h;split at h
  ·split at h
   ·split at h
    ·rename_i hf;cases h;exact PN hf
    ·cases h
   ·cases h
  ·cases h
def OJ:∀(pre:List Nat) (st st1:St),uH pre st=some st1→NA C w0 outer own ρ st a w→NA C w0 outer own ρ st1 a w∧st1.s=st.s∧st1.nx=st.nx∧∀n,dC n st.h st1.h
 | [],st,st1,h,hr=>by simp[uH]at h;subst h;exact⟨hr,rfl,rfl,λn=>dC.refl n _⟩
 | s :: pre,st,st1,h,hr=>by
  simp only[uH]at h;split at h
  case h_2=>cases h
  rename_i ids hf;obtain⟨m1,m2⟩:=hr.heap.mark ids;have WV:NA C w0 outer own ρ {st with h:=FB st.h ids} a w:=hr.turn m1 m2;obtain⟨k1,k2,k3,k4⟩:=OJ pre _ st1 h WV;exact⟨k1,k2,k3,λn=>(CJ _ (zio hf)).trans (k4 n)⟩
def xB.pre{pre:List Nat}(hp:uH pre st=some st1)(hr:NA C w0 outer own ρ st a w)(h:xB C w0 outer own D st1 ρ st2 a2 w2 ρ2):xB C w0 outer own D st ρ st2 a2 w2 ρ2:=by
 obtain⟨_,k2,k3,k4⟩:=OJ pre st st1 hp hr;exact⟨h.rel,h.ext,λs hs=>by rw[h.slots s hs,k2],(k4 _).trans (by rw[←k3];exact h.keeps),by rw[←k3];exact h.nx,h.fresh⟩
def xB.unlock{j:JI}{b:St}(h:xB C w0 outer own D (ZB j b) ρ st1 a1 w1 ρ1):xB C w0 outer own D b ρ (Go.D.unlock b st1) a1 w1 ρ1:=
 ⟨h.rel.unlock b,h.ext,h.slots,ziI h.keeps,h.nx,h.fresh⟩
def xB.install{j:JI}{b:St}{k:vC j.cs→Option R}{r:R}(hb:NA C w0 outer own ρ b a w)(hf:∀q,b.nx≤q→ρ q=none)(h:xB C w0 outer own (λs=>j.has s=true) (ZB j b) ρ st1 a1 w1 ρ1)
  (LW:QM j=true) (he:aF j.cs st1 k=some r):∃x,k x=some r∧∃ρ2,xB C w0 outer own (λs=>j.has s=true) b ρ (Go.D.install j b x) a1 w1 ρ2:=by
 obtain⟨x,h1,ρ2,h2,h3,h4,h5⟩:=zay hb hf h.rel h.fresh h.nx h.ext (λs hs=>h.slots s (by simp[hs])) h.keeps LW he;refine⟨x,h1,ρ2,h2,h4,λs hs=>eO j b x s (by simpa using hs),h5,?_,h3⟩;simp only[Go.D.install];omega
def ze3(hC:iE C)(hΦ:rE C){id:Nat}{pre:List Nat}{d:Bool}{ops:Array Oper}{Q:Exit→Act→World→Prop}{K:St→Option R}{r:R}(hD:∀o∈ops,∀d,o.dst=some d→D d)
  (hr:NA C w0 outer own ρ st a w) (hf:∀q,st.nx≤q→ρ q=none) (IV:WP C pre d ops st K=some r)
  (MV:∀st' a' w' ρ',xB C w0 outer own D st ρ st' a' w' ρ'→K st'=some r→Q .normal a' w'):(Code.region id ops d).wp C.P Q a w:=by
 cases d with
 | true=>
  simp only[WP,XB,zfM]at IV;split at IV
  ·cases IV
  rename_i st0 hp;obtain⟨p1,p2,p3,p4⟩:=OJ _ _ _ hp hr;exact zmq hC hΦ hD p1 (by rw[←p3]at hf;exact hf) IV λst' a' w' ρ' h1 h2=>MV st' a' w' ρ' (xB.pre hp hr h1) h2
 | false=>
  simp only[WP,jN]at IV;refine wp_region ?_;rw[List.range_eq_range'];refine zbu hC hΦ st.nx hD ops.size 0 st a w ρ (by omega) hr (λq hq=>hf q (by omega)) IV λst' a' w' ρ' h1 h2 h3 h4 h5 h6 h7=>?_;exact MV {st' with nx:=st.nx+128 *ops.size} a' w' ρ' ⟨⟨h1.heap,h1.slots,h1.size,h1.defers,h1.glob⟩,h3,h4,h5,Nat.le_add_right _ _,h2⟩ h7
end
end Go.D
namespace Go.D
variable [fA]
section
variable {C:Cx} {w0:World} {outer own D:Nat→Prop} {R:Type} {st st1 st2:St} {ρ ρ1 ρ2:Nat→Option RI} {a a1 a2:Act} {w w1 w2:World} {j:JI}
omit [fA]in
def zkl(t:TN)(x:El t):∀c∈enc t x,jI c=none:=by
 intro c hc;cases t<;>(simp[enc,OT,zbN,za7,zbF,zby,zbD,zbM,zbi,zbg,zaY,zbk,zbE,VS,zaP,zaZ,DT,zaO,zbd,zbr,zaT,zbC,zbJ,LT,zbf]at hc;rcases hc with rfl | hc<;>(repeat (first | rfl | (rcases hc with rfl | hc))))
omit [fA]in
def zcY(ow:List Nat)(base:Nat):∀(es:List V) (p r:Nat),(∀c∈es,jI c=none)→∀c∈HA ow base p es,jI c=some r→base≤r
 | [],p,r,_,c,hc,_=>by simp[HA]at hc
 | e :: es,p,r,he,c,hc,h=>by
  have ih:=zcY ow base es (p+1) r (λc hc=>he c (by simp[hc]));have h0:=he e (by simp);cases e<;>(simp only[HA,List.mem_cons]at hc;rcases hc with rfl | hc)<;>first | exact ih c hc h | (rw[h0]at h;cases h) | skip
  cases hb:ow.any (Nat.beq p)
  ·simp[hb,jI]at h
  ·simp[hb,jI]at h;omega
def zfz(sl:Nat→V)(cs:List tB)(id:Nat)(h:Nat→Option kA)(q:Nat)(row:kA):Prop:=
 h q=some row∨(id≤q∧∃t l,row.c= .arr t l)∨(∃s t ow es, .box s t ow∈cs∧sl s= .bp q 0∧row=⟨.box es, .own⟩∧∀c∈es,∀r,jI c=some r→id≤r)
omit [fA]in
def zat(sl:Nat→V):∀(cs:List tB) (id:Nat) (x:vC cs) (h:Nat→Option kA) (q:Nat) (row:kA),qK sl cs id x h q=some row→zfz sl cs id h q row:=by
 have one:∀(c:tB) (id:Nat) (x:c.T) (h:Nat→Option kA) (q:Nat) (row:kA),sH sl c id x h q=some row→zfz sl [c] id h q row:=by
  intro c id x h q row hq;cases c with
  | drop s=>exact .inl hq
  | slot s ty=>exact .inl hq
  | own s t=>
   simp only[sH]at hq
   by_cases F1:q=id
   ·subst F1;rw[EA]at hq;cases hq;exact .inr (.inl ⟨Nat.le_refl _,_,_,rfl⟩)
   ·rw[tA _ _ _ _ F1]at hq;exact .inl hq
  | box s t ow=>
   simp only[sH]at hq;generalize hs:sl s=v at hq;cases v with
   | bp r off=>
    cases off with
    | zero=>
     simp only at hq
     by_cases XV:q=r
     ·subst XV;rw[EA]at hq;cases hq;exact .inr (.inr ⟨s,t,ow,_,by simp,hs,rfl,λc hc r hr=>zcY ow id _ 0 r (zkl t x) c hc hr⟩)
     ·rw[tA _ _ _ _ XV,AB]at hq;split at hq
      ·rename_i y hy;cases hq;obtain⟨_,_,he,h1,h2⟩:=gD _ _ _ _ _ _ hy;exact .inr (.inl ⟨by omega,_,_,congrArg kA.c he⟩)
      ·exact .inl hq
    | succ n=>exact .inl hq
   | _=>exact .inl hq
 intro cs;induction cs with
 | nil=>intro id x h q row hq;exact .inl hq
 | cons c cs ih=>
  intro id x h q row hq;cases cs with
  | nil=>exact one c id x h q row hq
  | cons d r=>
   rcases one c id x.1 _ q row hq with h1 | h1 | ⟨s,t,ow,es,h1,h2,h3,h4⟩
   ·rcases ih (id+128) x.2 h q row h1 with h2 | ⟨h2,h3⟩ | ⟨s,t,ow,es,h3,h4,h5,h6⟩
    ·exact .inl h2
    ·exact .inr (.inl ⟨by omega,h3⟩)
    ·exact .inr (.inr ⟨s,t,ow,es,List.mem_cons_of_mem _ h3,h4,h5,λc hc r hr=>by have:=h6 c hc r hr;omega⟩)
   ·exact .inr (.inl h1)
   ·exact .inr (.inr ⟨s,t,ow,es,by simp at h1;simp[h1],h2,h3,h4⟩)
omit [fA]in
def zlV(f:Nat→V)(s:Nat)(t:TN):∀(cs:List tB) (id:Nat) (x:vC cs),YF cs=true→ .own s t∈cs→∃r,XE cs id x f s= .ow r∧id≤r:=by
 intro cs;induction cs with
 | nil=>intro id x _ h;simp at h
 | cons c cs ih=>
  intro id x hn hm
  have key:∀(y:c.T) (g:Nat→V),c= .own s t→∃r,lG c id y g s= .ow r∧id≤r:=by
   intro y g hc;subst hc;exact⟨id,EA _ _ _,Nat.le_refl _⟩
  rcases List.mem_cons.1 hm with he | hm
  ·cases cs with
   | nil=>exact key x f he.symm
   | cons d r=>exact key x.1 _ he.symm
  ·cases cs with
   | nil=>simp at hm
   | cons d r=>
    have S1:YF (d :: r)=true∧∀y g,lG c id y g s=g s:=by
     have hs:PC (d :: r) s=true:=by
      clear ih;generalize d :: r=l at hm;induction l with
      | nil=>simp at hm
      | cons e l ih=>
       rcases List.mem_cons.1 hm with h | h
       ·subst h;simp[PC]
       ·cases e<;>simp[PC,ih h]
     cases c with
     | slot s' ty=>
      simp only[YF,Bool.and_eq_true,Bool.not_eq_true']at hn;refine⟨hn.2,λy g=>tA _ _ _ _ ?_⟩;rintro rfl;rw[hs]at hn;exact absurd hn.1 (by simp)
     | own s' ty=>
      simp only[YF,Bool.and_eq_true,Bool.not_eq_true']at hn;refine⟨hn.2,λy g=>tA _ _ _ _ ?_⟩;rintro rfl;rw[hs]at hn;exact absurd hn.1 (by simp)
     | box s' ty ow=>exact⟨hn,λy g=>rfl⟩
     | drop s'=>exact⟨hn,λy g=>rfl⟩
    obtain⟨q,h1,h2⟩:=ih (id+128) x.2 S1.1 hm;exact⟨q,by simp only[XE];rw[S1.2];exact h1,by omega⟩
omit [fA]in
def zgD{b:St}{x:vC j.cs}(LW:QM j=true)(hn:YF j.cs=true)(hk:dC b.nx b.h (install j b x).h):
  dC b.nx (ZB j b).h (ZB j (install j b x)).h:=by
 intro q row hq hr hm;simp only[ZB]at hr;split at hr
 ·rename_i c hc;cases hi:gI j.cs b q
  case true=>simp only[hi,cond_true,Option.some.injEq]at hr;subst hr;cases hm
  simp only[hi,cond_false,Option.some.injEq]at hr;subst hr
  have P4:∀s t ow,tB.box s t ow∈j.cs→(install j b x).s s=b.s s:=λs t ow hm=>eO j b x s (by
   have:=List.all_eq_true.1 LW _ hm;simpa using this)
  have hdr:∀s,tB.drop s∈j.cs→(install j b x).s s=b.s s:=λs hm=>eO j b x s (by
   have:=List.all_eq_true.1 LW _ hm;simpa using this)
  have YW:∀c∈j.cs,DG b q c=false:=λc hc=>by
   have h0:(j.cs.any (DG b q))=false:=hi;cases h1:DG b q c with
   | false=>rfl
   | true=>rw[List.any_eq_true.2 ⟨c,hc,h1⟩]at h0;cases h0
  have Z6:∀s t ow,tB.box s t ow∈j.cs→b.s s≠ .bp q 0:=λs t ow hm h=>by
   have:=YW _ hm;simp[DG,h]at this
  have D2:∀s,tB.drop s∈j.cs→b.s s≠ .bp q 0:=λs hm h=>by
   have:=YW _ hm;simp[DG,h]at this
  have PV:PF j b q=some ⟨c, .own⟩:=by simp[PF,hc,hi]
  have h1:(install j b x).h q=some ⟨c, .own⟩:=by
   obtain⟨row',h2⟩:=zd1 b.s j.cs b.nx x _ q _ PV
   rcases zat b.s j.cs b.nx x _ q _ h2 with h3 | ⟨h3,_⟩ | ⟨s,t,ow,es,h3,h4,_⟩
   ·rw[PV]at h3;cases h3;exact h2
   ·omega
   ·exact absurd h4 (Z6 s t ow h3)
  have h2:gI j.cs (install j b x) q=false:=by
   cases h3:gI j.cs (install j b x) q with
   | false=>rfl
   | true=>
    exfalso;obtain⟨cm,h4,h5⟩:=List.any_eq_true.1 h3;cases cm with
    | slot s ty=>cases h5
    | own s t=>
     obtain⟨r,h6,h7⟩:=zlV (λi=>bif dK j.kill i then .undef else b.s i) s t j.cs b.nx x hn h4;have h8:(install j b x).s s= .ow r:=h6;simp only[DG,h8,jI]at h5;have:=Nat.eq_of_beq_eq_true h5;omega
    | box s t ow=>
     have h6:=P4 s t ow h4;simp only[DG,h6]at h5;split at h5
     ·rename_i bb Q1;simp only[Bool.or_eq_true]at h5
      rcases h5 with h5 | h5
      ·have:=Nat.eq_of_beq_eq_true h5;subst this;exact Z6 s t ow h4 Q1
      ·split at h5
       ·rename_i cs m F4;obtain⟨cc,h7,h8⟩:=List.any_eq_true.1 h5;split at h8
        ·rename_i r' bZ;have:=Nat.eq_of_beq_eq_true h8;subst this
         rcases zat b.s j.cs b.nx x _ bb _ F4 with h9 | ⟨_,_,_,h9⟩ | ⟨s',t',ow',es,_,_,h9,zW⟩
         ·have tW:∃m',b.h bb=some ⟨.box cs,m'⟩:=by
           unfold PF at h9;split at h9
           ·rename_i c' yY;cases dW:gI j.cs b bb
            ·simp only[dW,cond_false,Option.some.injEq]at h9;cases h9;exact⟨_,yY⟩
            ·simp[dW]at h9
           ·exact⟨_,h9⟩
          obtain⟨m',tW⟩:=tW;have DW:=YW _ h4;simp only[DG,Q1,tW,Bool.or_eq_false_iff]at DW;have WW:=List.any_eq_false.1 DW.2 cc h7;rw[bZ]at WW;exact WW h8
         ·cases h9
         ·cases h9;have:=zW cc h7 _ bZ;omega
        ·cases h8
       ·cases h5
     ·cases h5
    | drop s=>
     have h6:=hdr s h4;simp only[DG,h6]at h5;split at h5
     ·rename_i bb Q1;simp only[Bool.or_eq_true]at h5
      rcases h5 with h5 | h5
      ·have:=Nat.eq_of_beq_eq_true h5;subst this;exact D2 s h4 Q1
      ·split at h5
       ·rename_i cs m F4;obtain⟨cc,h7,h8⟩:=List.any_eq_true.1 h5;split at h8
        ·rename_i r' bZ;have:=Nat.eq_of_beq_eq_true h8;subst this
         rcases zat b.s j.cs b.nx x _ bb _ F4 with h9 | ⟨_,_,_,h9⟩ | ⟨s',t',ow',es,_,_,h9,zW⟩
         ·have tW:∃m',b.h bb=some ⟨.box cs,m'⟩:=by
           unfold PF at h9;split at h9
           ·rename_i c' yY;cases dW:gI j.cs b bb
            ·simp only[dW,cond_false,Option.some.injEq]at h9;cases h9;exact⟨_,yY⟩
            ·simp[dW]at h9
           ·exact⟨_,h9⟩
          obtain⟨m',tW⟩:=tW;have DW:=YW _ h4;simp only[DG,Q1,tW,Bool.or_eq_false_iff]at DW;have WW:=List.any_eq_false.1 DW.2 cc h7;rw[bZ]at WW;exact WW h8
         ·cases h9
         ·cases h9;have:=zW cc h7 _ bZ;omega
        ·cases h8
       ·cases h5
     ·cases h5
  simp only[ZB,h1,h2,cond_false]
 ·have h1:=hk q row hq hr hm;simp only[ZB,h1];obtain⟨c,m⟩:=row;cases m with
  | own=>cases hm
  | ro=>rfl
  | lock=>rfl
def xB.round{b:St}{x:vC j.cs}{k:vC j.cs→Option R}{r:R}(hb:NA C w0 outer own ρ b a w)(hf:∀q,b.nx≤q→ρ q=none)
  (h0:xB C w0 outer own (λs=>j.has s=true) b ρ (Go.D.install j b x) a1 w1 ρ1)
  (h:xB C w0 outer own (λs=>j.has s=true) (ZB j (Go.D.install j b x)) ρ1 st2 a2 w2 ρ2)
  (LW:QM j=true) (hn:YF j.cs=true) (he:aF j.cs st2 k=some r):∃y,k y=some r∧∃ρ3,xB C w0 outer own (λs=>j.has s=true) b ρ (Go.D.install j b y) a2 w2 ρ3:=by
 have hnx:b.nx≤st2.nx:=Nat.le_trans h0.nx h.nx
 obtain⟨y,h1,ρ3,h2,h3,h4,h5⟩:=zay (ρ':=ρ2) hb hf h.rel h.fresh hnx (λq qi hq=>h.ext _ _ (h0.ext _ _ hq)) (λs hs=>by
   have hs':¬(j.has s=true):=by simp[hs]
   have e1:=h.slots s hs';have e2:=h0.slots s hs';exact e1.trans e2)
  ((zgD LW hn h0.keeps).trans (h.keeps.le h0.nx)) LW he
 refine⟨y,h1,ρ3,h2,h4,λs hs=>eO j b y s (by simpa using hs),h5,?_,h3⟩;simp only[Go.D.install];omega
def zfc{an:An}{c:Code}{b:St}{K:Ex→St→Option R}{r:R}{Q:Exit→Act→World→Prop}(hb:NA C w0 outer own ρ b a w)(hf:∀q,b.nx≤q→ρ q=none)
  (LW:QM j=true) (hn:YF j.cs=true)
  (body:∀ (st:St) (a:Act) (w:World) (ρ:Nat→Option RI) (K:Ex→St→Option R) (Q:Exit→Act→World→Prop),NA C w0 outer own ρ st a w→(∀ q,st.nx≤q→ρ q=none)→rD C an c st K=some r→
   (∀e st' a' w' ρ',xB C w0 outer own (λs=>j.has s=true) st ρ st' a' w' ρ'→K e st'=some r→Q (IN e) a' w')→c.wp C.P Q a w)
  (MV:∀e st' a' w' ρ',xB C w0 outer own (λs=>j.has s=true) b ρ st' a' w' ρ'→K e st'=some r→Q (IN e) a' w'):
  ∀(n:Nat) (x:vC j.cs) (a1:Act) (w1:World) (ρ1:Nat→Option RI),xB C w0 outer own (λs=>j.has s=true) b ρ (Go.D.install j b x) a1 w1 ρ1→
   uA n (λ(x : vC j.cs) (k : vC j.cs→Option R) => rD C an c (ZB j (Go.D.install j b x)) λe st' => match e with
        | .normal=>aF j.cs st' k
        | e=>K e (Go.D.unlock (Go.D.install j b x) st')) x=some r→Code.rounds C.P c Q n a1 w1
 | 0,x,a1,w1,ρ1,h0,h=>by simp[uA]at h
 | n+1,x,a1,w1,ρ1,h0,h=>by
  rw[rounds_succ];simp only[uA]at h;refine body _ a1 w1 ρ1 _ _ (h0.rel.lock j) h0.fresh h λe st' a' w' ρ' hg hk=>?_;cases e with
  | normal=>
   obtain⟨y,k1,ρ3,k2⟩:=h0.round hb hf hg LW hn hk;exact zfc hb hf LW hn body MV n y a' w' ρ3 k2 k1
  | exit id=>exact MV (.exit id) _ a' w' ρ' (h0.trans hg.unlock) hk
  | ret=>exact MV .ret _ a' w' ρ' (h0.trans hg.unlock) hk
def zeW(hC:iE C)(hΦ:rE C)(an:An):∀(c:Code) (D:Nat→Prop),kG an D c→∀(st:St) (a:Act) (w:World) (ρ:Nat→Option RI) (K:Ex→St→Option R) (r:R) (Q:Exit→Act→World→Prop),
  NA C w0 outer own ρ st a w→(∀q,st.nx≤q→ρ q=none)→rD C an c st K=some r→
  (∀e st' a' w' ρ',xB C w0 outer own D st ρ st' a' w' ρ'→K e st'=some r→Q (IN e) a' w')→c.wp C.P Q a w:=by
 intro c;induction c with
 | skip=>
  intro D hT st a w ρ K r Q hr hf IV MV;exact wp_skip (MV .normal st a w ρ (xB.refl hr hf) IV)
 | region id ops d=>
  intro D hT st a w ρ K r Q hr hf IV MV;simp only[rD]at IV;split at IV
  ·exact ze3 hC hΦ hT.1 hr hf IV λst' a' w' ρ' h1 h2=>MV .normal st' a' w' ρ' h1 h2
  ·rename_i j hj;split at IV
   ·cases IV
   rename_i st0 hp;obtain⟨p1,p2,p3,p4⟩:=OJ _ _ _ hp hr;cases EW:oF an j (.region id ops d)
   case false=>simp[EW]at IV
   simp only[EW,XB,aA]at IV;simp only[oF,Bool.and_eq_true]at EW;have hw:=cF an j _ EW.1.1;refine ze3 (D:=λs=>j.has s=true) hC hΦ hw.1 (p1.lock j) (by rw[←p3]at hf;exact hf) IV λst' a' w' ρ' h1 h2=>?_;obtain⟨x,k1,ρ2,k2⟩:=xB.install p1 (by rw[←p3]at hf;exact hf) h1 EW.1.2 h2;have hD:∀s,j.has s=true→D s:=by have:=hT.2;rw[hj]at this;exact this
   exact MV .normal _ a' w' ρ2 (xB.pre hp hr (k2.mono hD)) k1
 | seq x y ihx ihy=>
  intro D hT st a w ρ K r Q hr hf IV MV;simp only[rD]at IV;refine wp_seq (ihx D hT.1 st a w ρ _ r _ hr hf IV λe st' a' w' ρ' h1 h2=>?_);cases e with
  | normal=>exact ihy D hT.2 st' a' w' ρ' _ r _ h1.rel h1.fresh h2 λe st2 a2 w2 ρ2 h3 h4=>MV e st2 a2 w2 ρ2 (h1.trans h3) h4
  | exit id=>exact MV (.exit id) st' a' w' ρ' h1 h2
  | ret=>exact MV .ret st' a' w' ρ' h1 h2
 | cond c x y ihx ihy=>
  intro D hT st a w ρ K r Q hr hf IV MV;cases c with
  | tmp t=>
   simp only[rD]at IV;split at IV
   case h_2=>cases IV
   rename_i b hb;have hv:=hr.slots t;rw[hb]at hv
   have hc:a.eval (.tmp t)= .bool b:=by
    show a.tmps.getD t undef=_
    generalize a.tmps.getD t undef=v at hv;cases hv;rfl
   refine wp_cond hc ?_;split at IV
   ·cases b with
    | true=>exact ihx D hT.1 st a w ρ K r Q hr hf IV MV
    | false=>exact ihy D hT.2.1 st a w ρ K r Q hr hf IV MV
   ·rename_i j hj;split at IV
    ·cases IV
    rename_i st0 hp;obtain⟨p1,p2,p3,p4⟩:=OJ _ _ _ hp hr;cases EW:oF an j x&&oF an j y
    case false=>simp[EW]at IV
    simp only[EW,XB,aA]at IV;simp only[oF,Bool.and_eq_true]at EW;have hD:∀s,j.has s=true→D s:=by have:=hT.2.2;rw[hj]at this;exact this
    have iZ:∀q,st0.nx≤q→ρ q=none:=by rw[←p3]at hf;exact hf
    have oB:∀(e:Ex) (st':St) (a':Act) (w':World) (ρ':Nat→Option RI),xB C w0 outer own (λs=>j.has s=true) (ZB j st0) ρ st' a' w' ρ'→
      (match e with
       | .normal=>aF j.cs st' λy=>K .normal (Go.D.install j st0 y)
       | e=>K e (Go.D.unlock st0 st'))=some r→Q (IN e) a' w':=by
     intro e st' a' w' ρ' h1 h2;cases e with
     | normal=>
      obtain⟨x,k1,ρ2,k2⟩:=xB.install p1 iZ h1 EW.1.1.2 h2;exact MV .normal _ a' w' ρ2 (xB.pre hp hr (k2.mono hD)) k1
     | exit id=>exact MV (.exit id) _ a' w' ρ' (xB.pre hp hr (h1.unlock.mono hD)) h2
     | ret=>exact MV .ret _ a' w' ρ' (xB.pre hp hr (h1.unlock.mono hD)) h2
    cases b with
    | true=>exact ihx _ (cF an j _ EW.1.1.1) (ZB j st0) a w ρ _ r Q (p1.lock j) iZ IV oB
    | false=>exact ihy _ (cF an j _ EW.2.1.1) (ZB j st0) a w ρ _ r Q (p1.lock j) iZ IV oB
  | _=>simp[rD]at IV
 | block id x ih=>
  intro D hT st a w ρ K r Q hr hf IV MV;refine wp_block ?_;simp only[rD]at IV;split at IV
  ·refine ih D hT.1 st a w ρ _ r _ hr hf IV λe st' a' w' ρ' h1 h2=>?_;cases e with
   | normal=>exact MV .normal st' a' w' ρ' h1 h2
   | ret=>exact MV .ret st' a' w' ρ' h1 h2
   | exit id'=>
    simp only[IN,Exit.inBlock];simp only at h2;cases hb:Nat.beq id' id
    ·have MX:¬id'=id:=λe=>by subst e;simp at hb
     rw[if_neg MX];rw[hb]at h2;exact MV (.exit id') st' a' w' ρ' h1 h2
    ·have MX:=Nat.eq_of_beq_eq_true hb;rw[if_pos MX];rw[hb]at h2;exact MV .normal st' a' w' ρ' h1 h2
  ·rename_i j hj;split at IV
   ·cases IV
   rename_i st0 hp;obtain⟨p1,p2,p3,p4⟩:=OJ _ _ _ hp hr;cases EW:oF an j x
   case false=>simp[EW]at IV
   simp only[EW,XB,aA]at IV;simp only[oF,Bool.and_eq_true]at EW;have hD:∀s,j.has s=true→D s:=by have:=hT.2;rw[hj]at this;exact this
   have iZ:∀q,st0.nx≤q→ρ q=none:=by rw[←p3]at hf;exact hf
   refine ih _ (cF an j _ EW.1.1) (ZB j st0) a w ρ _ r _ (p1.lock j) iZ IV λe st' a' w' ρ' h1 h2=>?_;cases e with
   | normal=>
    obtain⟨x,k1,ρ2,k2⟩:=xB.install p1 iZ h1 EW.1.2 h2;exact MV .normal _ a' w' ρ2 (xB.pre hp hr (k2.mono hD)) k1
   | ret=>exact MV .ret _ a' w' ρ' (xB.pre hp hr (h1.unlock.mono hD)) h2
   | exit id'=>
    simp only[IN,Exit.inBlock];simp only at h2;cases hb:Nat.beq id' id
    ·have MX:¬id'=id:=λe=>by subst e;simp at hb
     rw[if_neg MX];rw[hb]at h2;exact MV (.exit id') _ a' w' ρ' (xB.pre hp hr (h1.unlock.mono hD)) h2
    ·have MX:=Nat.eq_of_beq_eq_true hb;rw[if_pos MX];rw[hb]at h2;obtain⟨x,k1,ρ2,k2⟩:=xB.install p1 iZ h1 EW.1.2 h2;exact MV .normal _ a' w' ρ2 (xB.pre hp hr (k2.mono hD)) k1
 | loop x ih=>
  intro D hT st a w ρ K r Q hr hf IV MV;simp only[rD]at IV;split at IV
  ·cases IV
  rename_i rid X8;split at IV
  ·cases IV
  rename_i j hj;split at IV
  ·cases IV
  rename_i st0 hp;obtain⟨p1,p2,p3,p4⟩:=OJ _ _ _ hp hr;cases EW:oF an j x
  case false=>simp[EW]at IV
  simp only[EW,XB]at IV;simp only[oF,Bool.and_eq_true]at EW;have hD:∀s,j.has s=true→D s:=by have:=hT.2;simp only[X8,hj]at this;exact this
  have iZ:∀q,st0.nx≤q→ρ q=none:=by rw[←p3]at hf;exact hf
  obtain⟨x0,h1,ρ2,h2,h3,h4,h5⟩:=zay (b:=st0) (st':=ZB j st0) p1 iZ (p1.lock j) iZ (Nat.le_refl _) (λ_ _ h=>h) (λ_ _=>rfl) (dC.refl _ _) EW.1.2 IV
  refine wp_loop_rounds FU (zfc (j:=j) p1 iZ EW.1.2 EW.2 (λst a w ρ K Q hr hf IV MV=>ih _ (cF an j _ EW.1.1) st a w ρ K r Q hr hf IV MV)
    (λe st' a' w' ρ' hg hk=>MV e st' a' w' ρ' (xB.pre hp hr (hg.mono hD)) hk) FU x0 a w ρ2 ⟨h2,h4,λs hs=>eO j st0 x0 s (by simpa using hs),h5,?_,h3⟩ h1)
  simp only[Go.D.install];omega
 | exit id=>
  intro D hT st a w ρ K r Q hr hf IV MV;exact wp_exit (MV (.exit id) st a w ρ (xB.refl hr hf) IV)
 | ret=>
  intro D hT st a w ρ K r Q hr hf IV MV;exact wp_ret (MV .ret st a w ρ (xB.refl hr hf) IV)
 | _=>
  intro D hT st a w ρ K r Q hr hf IV MV;simp[rD]at IV
end
end Go.D

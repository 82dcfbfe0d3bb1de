/-
 Regions that draw their order: one run in the order of the text serves every order.
-/
import Derived.Test.YtmhnaidnoljllaaGreatL5
import Derived.Orders
import Derived.LoopN
set_option linter.all false
namespace Go.D
variable [jA]
section
variable {C:Cx} {w0:World} {outer own D:Nat→Prop} {R:Type} {st st' st1 st2:St} {ρ ρ1 ρ2:Nat→Option RI} {a a1 a2:Act} {w w1 w2:World}
omit [jA]in
def RK{r:Nat}{l:List Nat}:FE r l=true↔r∈l:=by
 unfold FE;rw[List.any_eq_true];constructor
 ·rintro⟨x,h1,h2⟩;rw[Nat.eq_of_beq_eq_true h2];exact h1
 ·intro h;exact⟨r,h,by simp⟩
omit [jA]in
def VL{r:Nat}{l:List Nat}:FE r l=false↔r∉l:=by
 rw[←RK];cases FE r l<;>simp
omit [jA]in
def zh7{b r:Nat}:eI b r=true↔b≤r∧r<b+128:=by
 simp only[eI,Bool.and_eq_true,Nat.ble_eq,Nat.blt_eq]
omit [jA]in
def CL{b r:Nat}:eI b r=false↔¬(b≤r∧r<b+128):=by
 rw[←zh7];cases eI b r<;>simp
omit [jA]in
def ztb{P:Program}{o:Oper}{post:Act→World→Prop}(h:BC P o a w post)(hd:∀a' w',post a' w'→a'.defers=[]):
  BC P o a w λa' w'=>post a' w'∧∃v,a'=a.put o.dst v:=by
 intro next Q hn;have h0:=h post Q λ_ _ h=>h;unfold Oper.wp at *;generalize (execOp a.eval o).run P w=x at *;have put:∀v w',post (a.put o.dst v) w'→next (a.put o.dst v) w':=λv w' hp=>hn _ _ ⟨hp,v,rfl⟩;cases x with
 | ok n w'=>
  have nodef:∀d w',post ({a with defers:=d :: a.defers}.put o.dst undef) w'→False:=λd w' hp=>by
   have:=hd _ _ hp
   revert this
   cases o.dst<;>simp[Act.put]
  cases n<;>simp only[Oper.upon]at h0⊢ <;>first
   | exact put _ _ h0
   | exact Calls.mono' h0 λe w'' he=>by cases e<;>first | exact put _ _ he | exact he
   | exact h0.mono λ_ _ he=>put _ _ he
   | exact(nodef _ _ h0).elim
   | exact h0
 | halt x w'=>cases x<;>simp only[Oper.upon]at h0⊢ <;>exact h0
def KS(st st':St):Prop:=∀r row,st'.h r=some row→(∃row0,st.h r=some row0)∨row.m.isOwn=true
omit [jA]in
def aL{dst:Option Nat}{h':Nat→Option sA}(hk:∀r row,h' r=some row→(∃row0,st.h r=some row0)∨row.m.isOwn=true)(v:V):SC (KS st) (QA C dst {st with h:=h'} v some):=by
 intro st' h;cases dst with
 | none=>simp[QA]at h;subst h;exact hk
 | some d=>
  simp only[QA]at h;cases hb:Nat.blt d C.nt<;>simp[hb]at h
  subst h;exact hk
omit [jA]in
def zr2{dst:Option Nat}(v:V):SC (KS st) (QA C dst st v some):=aL (λ_ row h=> .inl ⟨row,h⟩) v
omit [jA]in
def zcE{h h':Nat→Option sA}(hk:∀r row,h' r=some row→(∃row0,h r=some row0)∨row.m.isOwn=true)(i:Nat)(c:iF):
  ∀r row,AA h' i (some ⟨c, .own⟩) r=some row→(∃row0,h r=some row0)∨row.m.isOwn=true:=λr row hr=>by
 by_cases hi:r=i
 ·subst hi;rw[MA]at hr;cases hr;exact .inr rfl
 ·rw[BA _ _ _ _ hi]at hr;exact hk r row hr
omit [jA]in
def ze8(h:Nat→Option sA)(ids:List Nat):∀r row,rC h ids r=some row→(∃row0,h r=some row0)∨row.m.isOwn=true:=λr row hr=>by
 obtain⟨row',h1,_⟩:=UT h ids r row hr;exact .inl ⟨row',h1⟩
omit [jA]in
def zsu(h:Nat→Option sA)(r:Option Nat):∀q row,xO h r q=some row→(∃row0,h q=some row0)∨row.m.isOwn=true:=λq row hq=>by
 cases r with
 | none=>exact .inl ⟨row,hq⟩
 | some r=>obtain⟨row',h1,_⟩:=oU h r q row hq;exact .inl ⟨row',h1⟩
omit [jA]in
def ztd(h:Nat→Option sA)(r:Nat):∀q row,AA h r none q=some row→(∃row0,h q=some row0)∨row.m.isOwn=true:=λq row hq=>by
 by_cases hi:q=r
 ·subst hi;rw[MA]at hq;cases hq
 ·rw[BA _ _ _ _ hi]at hq;exact .inl ⟨row,hq⟩
omit [jA]in
def zks{dst:Option Nat}{h':Nat→Option sA}(hk:∀r row,h' r=some row→(∃row0,st.h r=some row0)∨row.m.isOwn=true)(i:Nat)(c:iF)(v:V):
  SC (KS st) (jF C dst {st with h:=h'} i c v some):=aL (zcE hk i c) v
omit [jA]in
def zsI{dst:Option Nat}(i:Nat)(c:iF)(v:V):SC (KS st) (jF C dst st i c v some):=aL (zcE (λ_ row h=> .inl ⟨row,h⟩) i c) v
omit [jA]in
def zsv{dst:Option Nat}(i f:Nat)(as:List V):SC (KS st) (mK C i dst st f as some):=by
 unfold mK;split
 ·exact aF
 rename_i ci _;split
 ·split
  ·exact aF
  rename_i as' h' bs yZ;refine wS _ λx _=>lS _ λr _=>iK _ λKV=>aL ?_ _;simp only[Bool.and_eq_true]at KV;intro q row hq;rw[sO]at hq;split at hq
  ·rename_i y hy;cases hq;rw[zfs (Nat.le_of_ble_eq_true KV.1) hy];exact .inr rfl
  ·exact .inl ⟨row,hq⟩
 rename_i as' h' bs yZ;refine wS _ λx _=>lS _ λr _=>iK _ λKV=>aL ?_ _;intro q row hq;have KV:=Nat.le_of_ble_eq_true KV;rw[sO]at hq;split at hq
 ·rename_i y hy;cases hq;rw[zfs KV hy];exact .inr rfl
 ·rcases zpP hq with hq | hq
  ·exact .inl ⟨row,hq⟩
  ·obtain⟨row',h1,_⟩:=vT _ _ _ _ yZ q row hq;exact .inl ⟨row',h1⟩
omit [jA]in
def zrs{i:Nat}(o:Oper):SC (KS st) (gB C i o st some):=by
 unfold gB
 repeat' first
  | exact aF
  | exact zr2 _
  | exact zsI _ _ _
  | exact zsv _ _ _
  | exact aL (ze8 _ _) _
  | exact aL (ztd _ _) _
  | exact zks (ze8 _ _) _ _ _
  | exact zks (zsu _ _) _ _ _
  | exact aL (zcE (λ_ row h=> .inl ⟨row,h⟩) _ _) _
  | exact aL (zcE (ze8 _ _) _ _) _
  | refine zju (λ_=>?_) _ _ _ _
  | refine zkl (λ_=>?_) _ _ _
  | refine zeG (λ_=>?_) _ _ _
  | refine zj7 (λ_=>?_) _ _ _ _ _ _
  | refine iS _ (λ_=>?_)
  | refine GR _ (λ_=>?_)
  | refine iK _ (λ_=>?_)
  | refine zj1 _ (λ_=>?_)
  | refine wS _ (λ_ _=>?_)
  | refine lS _ (λ_ _=>?_)
  | split
omit [jA]in
def zhL{x:Option sA}{row':sA}(h:HU x=some row'):∃row,x=some row∧row.c=row'.c∧row.m.isRo=row'.m.isRo∧row'.m.isOwn=false:=by
 cases x with
 | none=>cases h
 | some row=>
  obtain⟨c,m⟩:=row;cases m<;>(simp only[HU,Option.some.injEq]at h;subst h;exact⟨_,rfl,rfl,rfl,rfl⟩)
def zsW(hr:VA C w0 outer own ρ st a w)(hC:IF C)(hΦ:XF C)(OX:∃N,∀r,N≤r→ρ r=none){b:Nat}(xW:∀q,q<128→ρ (b+q)=none){o:Oper}{ls rd wr:List Nat}
  (hk:GF C b o ls rd wr st some=some st2):BC C.P o a w (wC C w0 outer own b ρ st2):=by
 unfold GF at hk;rw[XR]at hk;obtain⟨st',hs,h2⟩:=Option.bind_eq_some_iff.1 hk;have h2:=Option.some.inj h2;let N:Nat→Prop:=λr=>r∈wr∨r∈rd;let own':Nat→Prop:=λc=>∃r row ri,N r∧st.h r=some row∧row.m.isRo=false∧ρ r=some ri∧ri.nl=false∧ri.b=c;let outer':Nat→Prop:=λc=>outer c∨∃r row ri,¬N r∧st.h r=some row∧row.m.isRo=false∧ρ r=some ri∧ri.nl=false∧ri.b=c
 have o0:∀r row',oG rd wr st.h r=some row'→N r∧∃row,st.h r=some row∧row.c=row'.c∧row.m.isRo=row'.m.isRo:=λr row' h=>by
  simp only[oG]at h;cases hw:FE r wr
  ·simp only[hw,cond_false]at h;cases hd:FE r rd
   ·simp[hd]at h
   ·simp only[hd,cond_true]at h;obtain⟨row,h1,h2,h3,_⟩:=zhL h;exact⟨.inr (RK.1 hd),row,h1,h2,h3⟩
  ·simp only[hw,cond_true]at h;exact⟨.inl (RK.1 hw),row',h,rfl,rfl⟩
 have yX:∀c,rA outer' ρ (oG rd wr st.h) c→rA outer ρ st.h c:=by
  rintro c ((h | ⟨r,row,ri,e1,e2,e3,e4⟩) | ⟨r,row',ri,e1,e2,e3,e4⟩)
  ·exact .inl h
  ·exact .inr ⟨r,row,ri,e2,e3,e4⟩
  ·obtain⟨_,row,f1,f2,f3⟩:=o0 r row' e1;exact .inr ⟨r,row,ri,f1,by rw[f3];exact e2,e3,e4⟩
 have rY:∀c,own' c→c<w.heap.size∧(w0.heap.size≤c∨own c):=by
  rintro c ⟨r,row,ri,e1,e2,e3,e4,e5,rfl⟩;obtain⟨ri',f1,_,f2⟩:=hr.heap.rows r row e2;rw[e4]at f1;cases f1;exact⟨(f2 e5).2,(f2 e5).1.2 e3⟩
 have M5:∀c,outer' c→c<w.heap.size∧¬own' c:=by
  rintro c (h | ⟨r,row,ri,e1,e2,e3,e4,e5,rfl⟩)
  ·obtain⟨g1,g2⟩:=hr.heap.outLt c h;refine⟨Nat.lt_of_lt_of_le g1 hr.heap.wx.size,λho=>?_⟩
   rcases(rY c ho).2 with h3 | h3
   ·omega
   ·exact g2 h3
  ·obtain⟨ri',f1,_,f2⟩:=hr.heap.rows r row e2;rw[e4]at f1;cases f1;refine⟨(f2 e5).2,?_⟩;rintro⟨r',row',ri',g1,g2,g3,g4,g5,g6⟩;have:=hr.heap.inj r' r row' row ri' ri g2 e2 g4 e4 g5 e5 g6;subst this;exact e1 g1
 have U2:∀u d,VR w ρ (rA outer ρ st.h) u d→VR w ρ (rA outer' ρ (oG rd wr st.h)) u d:=λu d hu=>hu.mono (λ_ _ h=>h) (λ_ _ _=>rfl) λc hc=> .inl (yX c hc)
 have PY:VA C w outer' own' ρ {s:=qL ls st.s,h:=oG rd wr st.h,nx:=st.nx} a w:=by
  refine⟨⟨Wx.refl _,λ_ _ _=>rfl,M5,λr row' h=>?_,λq q' row row' qi qi' h1 h2 h3 h4 h5 h6 h7=>?_⟩,λt=>?_,hr.size,hr.defers,⟨C.g.stay w0 w (λc hc=>hr.heap.old c (Nat.lt_of_lt_of_le hc (C.g.lt _ hr.glob.p)) (hr.glob.own c hc)) hr.glob.p,λc hc ho=>?_,Nat.le_trans hr.glob.base hr.heap.wx.size,λc hc ho=>?_⟩⟩
  ·obtain⟨f0,row,f1,f2,f3⟩:=o0 r row' h;obtain⟨ri,g1,g2,g3⟩:=hr.heap.rows r row f1;refine⟨ri,g1,by rw[←f2];exact g2.keep (λ_=>rfl) U2,λhn=>⟨⟨?_,λhm=> .inr ⟨r,row,ri,f0,f1,by rw[f3];exact hm,g1,hn,rfl⟩⟩,(g3 hn).2⟩⟩;rintro(h | ⟨r',row2,ri',e1,e2,e3,e4,e5,e6⟩)
   ·exact(g3 hn).1.1 h
   ·have:=hr.heap.inj r' r row2 row ri' ri e2 f1 e4 g1 e5 hn e6;subst this;exact e1 f0
  ·obtain⟨_,row1,f1,_⟩:=o0 q row h1;obtain⟨_,row2,f2,_⟩:=o0 q' row' h2;exact hr.heap.inj q q' _ _ qi qi' f1 f2 h3 h4 h5 h6 h7
  ·show VR w ρ _ _ (qL ls st.s t)
   simp only[qL];cases FE t ls
   ·exact .undef _
   ·exact U2 _ _ (hr.slots t)
  ·have:=Nat.lt_of_lt_of_le hc (C.g.lt _ hr.glob.p)
   rcases(rY c ho).2 with h | h
   ·omega
   ·exact hr.glob.own c hc h
  ·have:=Nat.lt_of_lt_of_le hc hr.glob.base
   rcases(rY c ho).2 with h | h
   ·omega
   ·exact hr.glob.low c hc h
 have L:=zhZ (π:=λr=>¬(b≤r∧r<b+128)) (i:=b) (λq hq h=>h (by omega)) o st' hs;have main:=ztb (zky PY hC hΦ OX xW hs) λa' w' ⟨ρ',h,_⟩=>h.defers;intro next Q hn;refine main next Q λa1 w1 ⟨⟨ρ1,QV,hE,hx⟩,v,hv⟩=>hn _ _ ⟨ρ1,?_,hE,hx⟩;subst hv;have hh:=QV.heap
 have tW:∀r,ρ r≠none→¬(b≤r∧r<b+128):=λr h1 h2=>h1 (by
  have:=xW (r - b) (by omega);rwa [show b+(r - b)=r by omega]at this)
 have hρ1:∀r row,st.h r=some row→ρ1 r=ρ r:=λr row h=>by
  obtain⟨ri,h1,_⟩:=hr.heap.rows r row h;rw[h1,hx r ri h1]
 -- rows that are only read
 have W9:∀r row,r∉wr→r∈rd→st.h r=some row→∃row',st'.h r=some row'∧row'.c=row.c∧row'.m.isRo=row.m.isRo:=λr row h1 h2 h3=>by
  have h4:oG rd wr st.h r=HU (some row):=by simp only[oG,VL.2 h1,RK.2 h2,cond_false,cond_true,h3]
  obtain⟨row',h5⟩:∃row',HU (some row)=some row':=by
   obtain⟨c,m⟩:=row;cases m<;>exact⟨_,rfl⟩
  obtain⟨row2,h6,h7,h8,h9⟩:=zhL h5;cases h6;obtain⟨ri,g1,_⟩:=hr.heap.rows r _ h3;exact⟨row',L.rows r row' (tW r (by rw[g1];simp)) (by show oG rd wr st.h r=_;rw[h4,h5]) h9,h7.symm,h8.symm⟩
 -- a row of the new state
 have HV:∀r row,st2.h r=some row→(st'.h r=some row)∨(r∉wr∧¬(b≤r∧r<b+128)∧st.h r=some row):=λr row h=>by
  rw[←h2]at h;simp only[rL]at h;cases hw:(FE r wr||eI b r)
  ·rw[hw]at h;simp only[Bool.or_eq_false_iff]at hw;exact .inr ⟨VL.1 hw.1,CL.1 hw.2,h⟩
  ·rw[hw]at h;exact .inl h
 have iZ:∀c,rA outer ρ1 st2.h c→rA outer' ρ1 st'.h c:=by
  rintro c (h | ⟨r,row,ri,e1,e2,e3,e4,e5⟩)
  ·exact .inl (.inl h)
  ·rcases HV r row e1 with h | ⟨h3,h4,h5⟩
   ·exact .inr ⟨r,row,ri,h,e2,e3,e4,e5⟩
   ·by_cases hd:r∈rd
    ·obtain⟨row',f1,f2,f3⟩:=W9 r row h3 hd h5;exact .inr ⟨r,row',ri,f1,by rw[f3];exact e2,e3,e4,e5⟩
    ·rw[hρ1 r row h5]at e3;exact .inl (.inr ⟨r,row,ri,λh=>h.elim h3 hd,h5,e2,e3,e4,e5⟩)
 have N5:∀c,rA outer' ρ1 st'.h c→rA outer ρ st.h c∨w.heap.size≤c:=by
  rintro c ((h | ⟨r,row,ri,e1,e2,e3,e4⟩) | ⟨r,row,ri,e1,e2,e3,e4,e5⟩)
  ·exact .inl (.inl h)
  ·exact .inl (.inr ⟨r,row,ri,e2,e3,e4⟩)
  ·obtain⟨ri',f1,_,f2⟩:=hh.rows r row e1;rw[e3]at f1;cases f1
   rcases(f2 e4).1.2 e2 with h | ⟨r',row',ri',g1,g2,g3,g4⟩
   ·exact .inr (by omega)
   ·rw[e5]at g4;exact .inl (.inr ⟨r',row',ri',g2,g3,g4⟩)
 have keepO:∀u d,VR w ρ (rA outer ρ st.h) u d→VR w1 ρ1 (rA outer ρ1 st2.h) u d:=λu d hu=>
  hu.mono hx (λc hc MV=>hh.old c MV λ⟨r,row,ri,g1,g2,g3,g4⟩=>hc (.inr ⟨r,row,ri,g2,g3,g4⟩)) λc hc=>N5 c (iZ c hc)
 have keepN:∀u d,VR w1 ρ1 (rA outer' ρ1 st'.h) u d→VR w1 ρ1 (rA outer ρ1 st2.h) u d:=λu d hu=>
  hu.mono (λ_ _ h=>h) (λ_ _ _=>rfl) λc hc=> .inl (iZ c hc)
 have O5:∀r row ri,r∉wr→r∉rd→st.h r=some row→ρ r=some ri→ri.nl=false→¬own' ri.b:=by
  rintro r row ri h1 h2 h3 h4 h5 ⟨r',row',ri',g1,g2,g3,g4,g5,g6⟩;have:=hr.heap.inj r' r row' row ri' ri g2 h3 g4 h4 g5 h5 g6;subst this;exact g1.elim h1 h2
 have D8:({a.put o.dst v with}:Act).defers=[]:=QV.defers;refine⟨⟨hr.heap.wx.trans hh.wx,λc hc ho=>?_,hr.heap.outLt,λr row h=>?_,λq q' row row' qi qi' h1 h3 h4 h5 h6 h7 h8=>?_⟩,λt=>?_,QV.size,QV.defers,hr.glob⟩
 ·rw[←hr.heap.old c hc ho];refine hh.old c (Nat.lt_of_lt_of_le hc hr.heap.wx.size) λP9=>?_
  rcases(rY c P9).2 with h3 | h3
  ·omega
  ·exact ho h3
 ·rcases HV r row h with h3 | ⟨h3,h4,h5⟩
  ·obtain⟨ri,f1,f2,f3⟩:=hh.rows r row h3;refine⟨ri,f1,f2.keep (λ_=>rfl) keepN,λhn=>⟨⟨λho=>(f3 hn).1.1 (.inl ho),λhm=>?_⟩,(f3 hn).2⟩⟩
   rcases(f3 hn).1.2 hm with h4 | h4
   ·exact .inl (Nat.le_trans hr.heap.wx.size h4)
   ·exact(rY _ h4).2
  ·obtain⟨ri,f1,f2,f3⟩:=hr.heap.rows r row h5;refine⟨ri,hx r ri f1,?_,λhn=>⟨(f3 hn).1,Nat.lt_of_lt_of_le (f3 hn).2 hh.wx.size⟩⟩
   by_cases hd:r∈rd
   ·obtain⟨row',g1,g2,g3⟩:=W9 r row h3 hd h5;obtain⟨ri',e1,e2,_⟩:=hh.rows r row' g1;rw[hx r ri f1]at e1;cases e1;rw[←g2];exact e2.keep (λ_=>rfl) keepN
   ·exact f2.keep (λhn=>hh.old _ (f3 hn).2 (O5 r row ri h3 hd h5 f1 hn)) keepO
 ·-- no two rows in one block
  have rowsOf:∀r row ri,st2.h r=some row→ρ1 r=some ri→ri.nl=false→(∃row',st'.h r=some row')∨(r∉wr∧r∉rd∧st.h r=some row∧ρ r=some ri):=λr row ri h1 h3 h4=>by
   rcases HV r row h1 with h5 | ⟨h5,h6,h7⟩
   ·exact .inl ⟨_,h5⟩
   ·by_cases hd:r∈rd
    ·obtain⟨row',g1,_⟩:=W9 r row h5 hd h7;exact .inl ⟨_,g1⟩
    ·exact .inr ⟨h5,hd,h7,by rw[←hρ1 r row h7];exact h3⟩
  have mixed:∀r r' row' row2 ri ri',st'.h r=some row2→ρ1 r=some ri→ri.nl=false→r'∉wr→r'∉rd→st.h r'=some row'→ρ r'=some ri'→ri'.nl=false→ri.b=ri'.b→False:=λr r' row' row2 ri ri' e1 e2 e3 e4 e5 e6 e7 e8 e9=>by
   obtain⟨ri2,f1,_,f3⟩:=hh.rows r row2 e1;rw[e2]at f1;cases f1;obtain⟨ri3,g1,_,g3⟩:=hr.heap.rows r' row' e6;rw[e7]at g1;cases g1;have MV:=(g3 e8).2;have KW:=O5 r' row' ri' e4 e5 e6 e7 e8
   by_cases hm:row2.m.isRo=false
   ·rcases(f3 e3).1.2 hm with h | h
    ·rw[e9]at h;omega
    ·rw[e9]at h;exact KW h
   ·-- a row that nobody writes:it was there ahead
    rcases zrs o st' hs r row2 e1 with⟨row0,h0⟩ | h0
    ·obtain⟨g0,row1,g4,_⟩:=o0 r row0 h0;obtain⟨ri4,g5,_⟩:=hr.heap.rows r row1 g4;have:=hx r ri4 g5;rw[e2]at this;cases this;have:=hr.heap.inj r r' row1 row' ri ri' g4 e6 g5 e7 e3 e8 e9;subst this;exact g0.elim e4 e5
    ·refine hm ?_;obtain⟨c,m⟩:=row2;cases m with
     | own=>rfl
     | ro=>cases h0
     | lock=>rfl
  rcases rowsOf q row qi h1 h4 h6 with⟨r1,e1⟩ | ⟨e1,e2,e3,e4⟩<;>rcases rowsOf q' row' qi' h3 h5 h7 with⟨r2,f1⟩ | ⟨f1,f2,f3,f4⟩
  ·exact hh.inj q q' _ _ qi qi' e1 f1 h4 h5 h6 h7 h8
  ·exact(mixed q q' row' r1 qi qi' e1 h4 h6 f1 f2 f3 f4 h7 h8).elim
  ·exact(mixed q' q row r2 qi' qi f1 h5 h7 e1 e2 e3 e4 h6 h8.symm).elim
  ·exact hr.heap.inj q q' row row' qi qi' e3 f3 e4 f4 h6 h7 h8
 ·have X9:st2.s t=MM o.dst st.s st'.s t:=by rw[←h2]
  rw[X9]
  have Y9:∀t,o.dst≠some t→(a.put o.dst v).tmps.getD t undef=a.tmps.getD t undef:=λt ht=>by
   cases hd:o.dst with
   | none=>rfl
   | some d=>
    simp only[Act.put,Array.getD_eq_getD_getElem?];rw[Array.getElem?_setIfInBounds_ne];rintro rfl;exact ht hd
  have other:o.dst≠some t→VR w1 ρ1 (rA outer ρ1 st2.h) ((a.put o.dst v).tmps.getD t undef) (st.s t):=λht=>by
   rw[Y9 t ht];exact keepO _ _ (hr.slots t)
  cases hd:o.dst with
  | none=>simp only[MM];rw[←hd];exact other (by rw[hd];simp)
  | some d=>
   simp only[MM]
   by_cases ht:t=d
   ·subst ht;rw[MA, ←hd];exact keepN _ _ (QV.slots t)
   ·rw[BA _ _ _ _ ht, ←hd];exact other (by rw[hd];simpa using λe=>ht e.symm)
def DG(C:Cx)(ops:Array Oper)(nx:Nat)(e:nD)(st st':St):Prop:=
 ∃ o,ops[e.i]?=some o∧e.dst=o.dst∧
  ((o.guard=none∧GF C (nx+128 *e.i) o e.ls e.rd e.wr st some=some st')∨
   ∃j want dj,o.guard=some (j,want)∧(ops[j]?).bind (·.dst)=some dj∧dj∈e.ls∧
    ((st.s dj= .bool want∧GF C (nx+128 *e.i) o e.ls e.rd e.wr st some=some st')∨
     ((st.s dj= .tup []∨st.s dj= .bool (!want))∧QA C o.dst st (.tup []) some=some st')))
def nD.at(e:nD)(nx r:Nat):Prop:=r∈e.rd∨r∈e.wr∨(nx+128 *e.i≤r∧r<nx+128 *e.i+128)
def nD.to(e:nD)(nx r:Nat):Prop:=r∈e.wr∨(nx+128 *e.i≤r∧r<nx+128 *e.i+128)
omit [jA]in
def zqm{dst:Option Nat}{s s':Nat→V}{t:Nat}(h:dst≠some t):MM dst s s' t=s t:=by
 cases dst with
 | none=>rfl
 | some d=>exact BA _ _ _ _ (λe=>h (by rw[e]))
omit [jA]in
def ziP{d:Nat}{s s':Nat→V}:MM (some d) s s' d=s' d:=MA _ _ _
omit [jA]in
def zfD{b:Nat}{wr:List Nat}{h h':Nat→Option sA}{r:Nat}(hr:r∈wr∨(b≤r∧r<b+128)):rL b wr h h' r=h' r:=by
 have:(FE r wr||eI b r)=true:=by
  rcases hr with hr | hr
  ·simp[RK.2 hr]
  ·simp[zh7.2 hr]
 simp only[rL,this,cond_true]
omit [jA]in
def zjq{b:Nat}{wr:List Nat}{h h':Nat→Option sA}{r:Nat}(hr:¬(r∈wr∨(b≤r∧r<b+128))):rL b wr h h' r=h r:=by
 have:(FE r wr||eI b r)=false:=by
  simp only[Bool.or_eq_false_iff,VL,CL];exact⟨λh=>hr (.inl h),λh=>hr (.inr h)⟩
 simp only[rL,this,cond_false]
omit [jA]in
def zer{b:Nat}{o:Oper}{ls rd wr:List Nat}(h:GF C b o ls rd wr st some=some st'):
  ∃x,gB C b o {s:=qL ls st.s,h:=oG rd wr st.h,nx:=st.nx} some=some x∧st'={s:=MM o.dst st.s x.s,h:=rL b wr st.h x.h,nx:=st.nx}:=by
 unfold GF at h;rw[XR]at h;obtain⟨x,h1,h2⟩:=Option.bind_eq_some_iff.1 h;exact⟨x,h1,(Option.some.inj h2).symm⟩
omit [jA]in
def ze5{b:Nat}{o:Oper}{ls rd wr:List Nat}{x:St}(h:gB C b o {s:=qL ls st.s,h:=oG rd wr st.h,nx:=st.nx} some=some x):
  GF C b o ls rd wr st some=some {s:=MM o.dst st.s x.s,h:=rL b wr st.h x.h,nx:=st.nx}:=by
 unfold GF;rw[XR,h];rfl
omit [jA]in
def DG.frame{ops:Array Oper}{nx:Nat}{e:nD}(h:DG C ops nx e st st'):
  (∀t,e.dst≠some t→st'.s t=st.s t)∧(∀r,¬e.to nx r→st'.h r=st.h r)∧st'.nx=st.nx:=by
 obtain⟨o,h1,h2,h3⟩:=h
 have stp:GF C (nx+128 *e.i) o e.ls e.rd e.wr st some=some st'→(∀t,e.dst≠some t→st'.s t=st.s t)∧(∀r,¬e.to nx r→st'.h r=st.h r)∧st'.nx=st.nx:=λh=>by
  obtain⟨x,k1,rfl⟩:=zer h;exact⟨λt ht=>zqm (by rw[←h2];exact ht),λr hr=>zjq hr,rfl⟩
 have skp:QA C o.dst st (.tup []) some=some st'→(∀t,e.dst≠some t→st'.s t=st.s t)∧(∀r,¬e.to nx r→st'.h r=st.h r)∧st'.nx=st.nx:=λh=>by
  have L:=zca (π:=λ_=>True) (V.tup []) st' h;refine⟨λt ht=>L.slots t (by rw[←h2];exact ht),λr _=>?_,L.nx⟩;cases hd:o.dst with
  | none=>rw[hd]at h;simp[QA]at h;rw[h]
  | some d=>
   rw[hd]at h;simp only[QA]at h;cases hb:Nat.blt d C.nt<;>simp[hb]at h
   rw[←h]
 rcases h3 with⟨_,h⟩ | ⟨j,want,dj,_,_,_,⟨_,h⟩ | ⟨_,h⟩⟩
 ·exact stp h
 ·exact stp h
 ·exact skp h
omit [jA]in
def DG.loc{ops:Array Oper}{nx:Nat}{e:nD}(h:DG C ops nx e st st')(hs:∀t∈e.ls,st2.s t=st.s t)(hh:∀r,e.at nx r→st2.h r=st.h r)(hn:st2.nx=st.nx):
  ∃st2',DG C ops nx e st2 st2'∧(∀t,e.dst=some t→st2'.s t=st'.s t)∧(∀r,e.to nx r→st2'.h r=st'.h r):=by
 obtain⟨o,h1,h2,h3⟩:=h
 have P5:qL e.ls st2.s=qL e.ls st.s:=by
  funext t;simp only[qL];cases hm:FE t e.ls
  ·rfl
  ·simp only[cond_true];exact hs t (RK.1 hm)
 have hch:oG e.rd e.wr st2.h=oG e.rd e.wr st.h:=by
  funext r;simp only[oG];cases hm:FE r e.wr
  ·cases F3:FE r e.rd
   ·rfl
   ·simp only[cond_true,cond_false];rw[hh r (.inl (RK.1 F3))]
  ·simp only[cond_true];exact hh r (.inr (.inl (RK.1 hm)))
 have stp:GF C (nx+128 *e.i) o e.ls e.rd e.wr st some=some st'→∃st2',GF C (nx+128 *e.i) o e.ls e.rd e.wr st2 some=some st2'∧(∀t,e.dst=some t→st2'.s t=st'.s t)∧(∀r,e.to nx r→st2'.h r=st'.h r):=λh=>by
  obtain⟨x,k1,rfl⟩:=zer h;refine⟨_,ze5 (x:=x) (by rw[P5,hch,hn];exact k1),λt ht=>?_,λr hr=>?_⟩
  ·rw[h2]at ht;rw[ht];exact(ziP).trans ziP.symm
  ·exact(zfD hr).trans (zfD hr).symm
 have skp:QA C o.dst st (.tup []) some=some st'→∃st2',QA C o.dst st2 (.tup []) some=some st2'∧(∀t,e.dst=some t→st2'.s t=st'.s t)∧(∀r,e.to nx r→st2'.h r=st'.h r):=λh=>by
  cases hd:o.dst with
  | none=>
   rw[hd]at h;simp[QA]at h;subst h;refine⟨st2,rfl,λt ht=>?_,λr hr=>hh r (.inr hr)⟩;rw[h2,hd]at ht;cases ht
  | some d=>
   rw[hd]at h;simp only[QA]at h;cases hb:Nat.blt d C.nt<;>simp[hb]at h
   subst h;refine⟨{st2 with s:=AA st2.s d (.tup [])},by simp[QA,hb],λt ht=>?_,λr hr=>hh r (.inr hr)⟩;rw[h2,hd]at ht;cases ht;exact(MA _ _ _).trans (MA _ _ _).symm
 rcases h3 with⟨g,h⟩ | ⟨j,want,dj,g1,g2,g3,⟨g4,h⟩ | ⟨g4,h⟩⟩
 ·obtain⟨x,k1,k2,k3⟩:=stp h;exact⟨x,⟨o,h1,h2, .inl ⟨g,k1⟩⟩,k2,k3⟩
 ·obtain⟨x,k1,k2,k3⟩:=stp h;exact⟨x,⟨o,h1,h2, .inr ⟨j,want,dj,g1,g2,g3, .inl ⟨by rw[hs dj g3];exact g4,k1⟩⟩⟩,k2,k3⟩
 ·obtain⟨x,k1,k2,k3⟩:=skp h;exact⟨x,⟨o,h1,h2, .inr ⟨j,want,dj,g1,g2,g3, .inr ⟨by rw[hs dj g3];exact g4,k1⟩⟩⟩,k2,k3⟩
structure zdd(nx:Nat)(e1 e:nD):Prop where
 s1:∀t,e1.dst=some t→t∉e.ls
 s2:∀t,e.dst=some t→t∉e1.ls
 s3:∀t,e1.dst=some t→e.dst≠some t
 h1:∀r,e1.to nx r→¬e.at nx r
 h2:∀r,e.to nx r→¬e1.at nx r
omit [jA]in
def zpi{nx:Nat}{e1 e:nD}(pY:e1.i≠e.i)(h:YI nx e1 e=true):zdd nx e1 e:=by
 simp only[YI,Bool.and_eq_true,Bool.not_eq_true',List.all_eq_true]at h;obtain⟨⟨⟨⟨⟨⟨⟨⟨a1,a2⟩,a3⟩,a4⟩,a5⟩,a6⟩,a7⟩,a8⟩,a9⟩:=h;have dst:∀{d:Option Nat} {l:List Nat},zc1 d l=false→∀t,d=some t→t∉l:=λh t ht=>by subst ht;exact VL.1 h
 refine⟨dst a1,dst a2,λt ht h=>?_,λr hr T4=>?_,λr hr T4=>?_⟩
 ·have:=dst a3 t ht;rw[h]at this;simp at this
 ·rcases hr with hr | hr
  ·have:=a4 r hr
   rcases T4 with h | h | h
   ·exact VL.1 this.1 h
   ·exact VL.1 this.2 h
   ·exact CL.1 (a9 r hr) h
  ·rcases T4 with h | h | h
   ·exact CL.1 (a6 r h) hr
   ·exact CL.1 (a7 r h) hr
   ·omega
 ·rcases hr with hr | hr
  ·rcases T4 with h | h | h
   ·exact VL.1 (a5 r hr) h
   ·exact VL.1 (a4 r h).2 hr
   ·exact CL.1 (a7 r hr) h
  ·rcases T4 with h | h | h
   ·exact CL.1 (a8 r h) hr
   ·exact CL.1 (a9 r h) hr
   ·omega
omit [jA]in
def DG.swap{ops:Array Oper}{nx:Nat}{e1 e:nD}(hp:zdd nx e1 e)(h1:DG C ops nx e1 st st1)(h2:DG C ops nx e st1 st2):
  ∃st1',DG C ops nx e st st1'∧DG C ops nx e1 st1' st2:=by
 obtain⟨f1,f2,f3⟩:=h1.frame;obtain⟨g1,g2,g3⟩:=h2.frame;obtain⟨x,k1,k2,k3⟩:=h2.loc (st2:=st) (λt ht=>(f1 t λe=>hp.s1 t e ht).symm) (λr hr=>(f2 r λh=>hp.h1 r h hr).symm) f3.symm;obtain⟨m1,m2,m3⟩:=k1.frame;obtain⟨y,n1,n2,n3⟩:=h1.loc (st2:=x) (λt ht=>m1 t λe=>hp.s2 t e ht) (λr hr=>m2 r λh=>hp.h2 r h hr) m3;obtain⟨p1,p2,p3⟩:=n1.frame
 have hy:y=st2:=by
  have es:y.s=st2.s:=by
   funext t
   by_cases t1:e1.dst=some t
   ·rw[n2 t t1,g1 t (hp.s3 t t1)]
   ·rw[p1 t t1]
    by_cases t2:e.dst=some t
    ·rw[k2 t t2]
    ·rw[m1 t t2,g1 t t2,f1 t t1]
  have eh:y.h=st2.h:=by
   funext r;have toAt:∀{e:nD},e.to nx r→e.at nx r:=λh=> .inr h
   by_cases t1:e1.to nx r
   ·rw[n3 r t1,g2 r λh=>hp.h2 r h (toAt t1)]
   ·rw[p2 r t1]
    by_cases t2:e.to nx r
    ·rw[k3 r t2]
    ·rw[m2 r t2,g2 r t2,f2 r t1]
  have en:y.nx=st2.nx:=by rw[p3,m3,g3,f3]
  cases y;cases st2;simp_all
 exact⟨x,k1,hy▸n1⟩
inductive IH(C:Cx)(ops:Array Oper)(nx:Nat):List nD→St→St→Prop
 | nil (st:St):IH C ops nx [] st st
 | cons {e:nD} {l:List nD} {st st1 st2:St} (h:DG C ops nx e st st1) (k:IH C ops nx l st1 st2):IH C ops nx (e :: l) st st2
omit [jA]in
def IH.front{ops:Array Oper}{nx:Nat}{e:nD}{l2:List nD}:∀(l1:List nD) (st:St),(∀e1∈l1,zdd nx e1 e)→IH C ops nx (l1++e :: l2) st st2→∃st1,DG C ops nx e st st1∧IH C ops nx (l1++l2) st1 st2
 | [],st,_,h=>by cases h with | cons h k=>exact⟨_,h,k⟩
 | e1 :: l1,st,hp,h=>by
  cases h with
  | cons h k=>
   obtain⟨s,k1,k2⟩:=IH.front l1 _ (λe h=>hp e (List.mem_cons_of_mem _ h)) k;obtain⟨x,n1,n2⟩:=h.swap (hp e1 (by simp)) k1;exact⟨x,n1, .cons n2 k2⟩
omit [jA]in
def zhW:∀(l:List Oper) (acc:List Nat),∃t,gD acc l=acc++t
 | [],acc=>⟨[],by simp[gD]⟩
 | o :: l,acc=>by
  obtain⟨t,h⟩:=zhW l (acc++[YU acc o.after.toList]);exact⟨_,by simp only[gD];rw[h,List.append_assoc]⟩
omit [jA]in
def ziN:∀(l:List Oper) (acc:List Nat) (k:Nat) (o:Oper),l[k]?=some o→
  (gD acc l).getD (acc.length+k) 0=YU ((gD acc l).take (acc.length+k)) o.after.toList
 | [],acc,k,o,h=>by simp at h
 | x :: l,acc,0,o,h=>by
  simp at h;subst h;simp only[gD,Nat.add_zero];obtain⟨t,ht⟩:=zhW l (acc++[YU acc x.after.toList]);rw[ht,List.append_assoc,List.getD_eq_getElem?_getD,List.getElem?_append_right (Nat.le_refl _)];simp
 | x :: l,acc,k+1,o,h=>by
  have:=ziN l (acc++[YU acc x.after.toList]) k o (by simpa using h);simp only[List.length_append,List.length_singleton]at this;simp only[gD];rw[show acc.length+(k+1)=acc.length+1+k by omega];exact this
omit [jA]in
def ziE(ms:List Nat)(d:Nat):∀(es:List Edge) (s:Nat),Nat.testBit (es.foldl (λs e=>bif Region.binds .any e then s|||(2^e.on|||ms.getD e.on 0)else s) s) d=true→
  Nat.testBit s d=true∨∃e∈es,Region.binds .any e=true∧(e.on=d∨Nat.testBit (ms.getD e.on 0) d=true)
 | [],s,h=> .inl h
 | e :: es,s,h=>by
  rcases ziE ms d es _ h with h1 | ⟨x,h1,h2⟩
  ·cases hb:Region.binds .any e
   ·simp only[hb,cond_false]at h1;exact .inl h1
   ·simp only[hb,cond_true,Nat.testBit_or,Bool.or_eq_true,Nat.testBit_two_pow,decide_eq_true_eq]at h1
    rcases h1 with h1 | h1 | h1
    ·exact .inl h1
    ·exact .inr ⟨e,by simp,hb, .inl h1⟩
    ·exact .inr ⟨e,by simp,hb, .inr h1⟩
  ·exact .inr ⟨x,List.mem_cons_of_mem _ h1,h2⟩
omit [jA]in
def ztt{ops:Array Oper}{S:Nat→Prop}(hE:∀i o,ops[i]?=some o→∀e∈o.after,Region.binds .any e=true→e.on<i)
  (hS:∀k o,S k→ops[k]?=some o→∀e∈o.after,Region.binds .any e=true→S e.on):
  ∀(i:Nat) (o:Oper),ops[i]?=some o→(∀e∈o.after,Region.binds .any e=true→S e.on)→∀d,Nat.testBit ((gD [] ops.toList).getD i 0) d=true→S d:=by
 intro i;induction i using Nat.strongRecOn with
 | _ i ih=>
  intro o ho he d hd;have h0:=ziN ops.toList [] i o (by simpa using ho);simp only[List.length_nil,Nat.zero_add]at h0;rw[h0]at hd
  have hi:i<ops.size:=by
   rcases Nat.lt_or_ge i ops.size with h | h
   ·exact h
   ·rw[Array.getElem?_eq_none h]at ho;cases ho
  rcases ziE _ d _ _ hd with h1 | ⟨e,h1,h2,h3⟩
  ·simp at h1
  ·have h1:e∈o.after:=by simpa using h1
   have LZ:=he e h1 h2;have MV:=hE i o ho e h1 h2
   rcases h3 with h3 | h3
   ·rw[←h3];exact LZ
   ·have h4:((gD [] ops.toList).take i).getD e.on 0=(gD [] ops.toList).getD e.on 0:=by
     rw[List.getD_eq_getElem?_getD,List.getD_eq_getElem?_getD,List.getElem?_take,if_pos MV]
    rw[h4]at h3;have ho2:ops[e.on]?=some ops[e.on]:=Array.getElem?_eq_getElem (by omega);exact ih e.on MV _ ho2 (hS e.on _ LZ ho2) d h3
omit [jA]in
def zeK{ops:Array Oper}{listed:Array Bool}{i:Nat}:i∈Region.ready .any ops listed↔
  i<ops.size∧listed.getD i true=false∧∃o,ops[i]?=some o∧∀e∈o.after,Region.binds .any e=true→listed.getD e.on false=true:=by
 unfold Region.ready;rw[List.mem_filter,List.mem_range];constructor
 ·rintro⟨h1,h2⟩;simp only[Bool.and_eq_true,Bool.not_eq_true']at h2;refine⟨h1,h2.1,?_⟩;rw[Array.getElem?_eq_getElem h1]at h2;refine⟨ops[i],Array.getElem?_eq_getElem h1,λe he hb=>?_⟩;have h3:=h2.2;simp only[Option.map_some,Option.getD_some]at h3;rw[Array.all_eq_true']at h3;have:=h3 e he;simpa[hb]using this
 ·rintro⟨h1,h2,o,h3,h4⟩;refine⟨h1,?_⟩;rw[h2,h3];simp only[Bool.not_false,Bool.true_and,Option.map_some,Option.getD_some];rw[Array.all_eq_true'];intro e he;cases hb:Region.binds .any e
  ·rfl
  ·simp[h4 e he hb]
def zs0{w:World}{ρ:Nat→Option RI}{bad:Nat→Prop}{v:Value}(h:VR w ρ bad v (.tup [])):v=undef:=by
 cases h with
 | tup _ vs hs hv=>
  have:vs= #[]:=by simpa using hs
  subst this;rfl
def zjE(hC:IF C)(hΦ:XF C){ops:Array Oper}{nx:Nat}{Q:Exit→Act→World→Prop}{stf:St}(hE:∀i o,ops[i]?=some o→∀e∈o.after,Region.binds .any e=true→e.on<i)
  (D:Nat→Prop) (hD:∀o∈ops,∀d,o.dst=some d→D d) (ρ0:Nat→Option RI)
  (LV:∀a' w' ρ',VA C w0 outer own ρ' stf a' w'→(∀q qi,ρ0 q=some qi→ρ' q=some qi)→(∀q,nx+128 *ops.size≤q→ρ' q=none)→Q .normal a' w'):
  ∀(fuel:Nat) (l:List nD) (listed:Array Bool) (st:St) (a:Act) (w:World) (ρ:Nat→Option RI),
   l.length=fuel→IH C ops nx l st stf→l.Pairwise (λe1 e=>e1.i<e.i∧(Nat.testBit ((gD [] ops.toList).getD e.i 0) e1.i=true∨YI nx e1 e=true))→
   listed.size=ops.size→(∀i,i<ops.size→(listed.getD i true=false↔∃e∈l,e.i=i))→(∀e∈l,e.i<ops.size)→
   (∀k o,listed.getD k false=true→ops[k]?=some o→∀e∈o.after,Region.binds .any e=true→listed.getD e.on false=true)→
   VA C w0 outer own ρ st a w→(∀e∈l,∀q,q<128→ρ (nx+128 *e.i+q)=none)→(∀q,nx+128 *ops.size≤q→ρ q=none)→(∀q qi,ρ0 q=some qi→ρ q=some qi)→
   wpAny C.P .any ops Q fuel listed a w
 | 0,l,listed,st,a,w,ρ,hl,ht,hp,NV,BX,MV,IZ,hr,hf,hN,hx=>by
  obtain rfl:l=[]:=List.eq_nil_of_length_eq_zero hl;cases ht;refine⟨?_,LV a w ρ hr hx hN⟩;refine List.eq_nil_iff_forall_not_mem.2 λi hi=>?_;obtain⟨h1,h2,_⟩:=zeK.1 hi;obtain⟨e,he,_⟩:=(BX i h1).1 h2;simp at he
 | fuel+1,l,listed,st,a,w,ρ,hl,ht,hp,NV,BX,MV,IZ,hr,hf,hN,hx=>by
  have getF:∀k,k<ops.size→listed.getD k true=true→listed.getD k false=true:=λk hk h=>by
   rw[Array.getD_eq_getD_getElem?]at h⊢;rw[Array.getElem?_eq_getElem (by omega)]at h⊢;exact h
  have getT:∀k,listed.getD k false=true→listed.getD k true=true:=λk h=>by
   rw[Array.getD_eq_getD_getElem?]at h⊢;cases h2:listed[k]? with
   | none=>rfl
   | some b=>rw[h2]at h;exact h
  refine⟨λF1=>?_,λi hi=>?_⟩
  ·exfalso;cases l with
   | nil=>simp at hl
   | cons e l=>
    have he:=MV e (by simp)
    have:e.i∈Region.ready .any ops listed:=zeK.2 ⟨he,(BX _ he).2 ⟨e,by simp,rfl⟩,ops[e.i],Array.getElem?_eq_getElem he,λx hx hb=>by
     have h1:=hE _ _ (Array.getElem?_eq_getElem he) x hx hb;refine getF _ (by omega) ?_;cases h2:listed.getD x.on true with
     | true=>rfl
     | false=>
      obtain⟨e',h3,h4⟩:=(BX x.on (by omega)).1 h2
      rcases List.mem_cons.1 h3 with rfl | h3
      ·omega
      ·have:=(List.rel_of_pairwise_cons hp h3).1;omega⟩
    rw[F1]at this;simp at this
  ·obtain⟨h1,h2,o,ho,h4⟩:=zeK.1 hi;obtain⟨e,he,rfl⟩:=(BX i h1).1 h2;obtain⟨l1,l2,rfl⟩:=List.append_of_mem he
   have hap:∀e1∈l1,zdd nx e1 e:=λe1 mY=>by
    have h5:=(List.pairwise_append.1 hp).2.2 e1 mY e (by simp);refine zpi (by omega) (h5.2.resolve_left λhb=>?_);have:=ztt (S:=λk=>listed.getD k false=true) hE (λk o hk Q5=>IZ k o hk Q5) e.i o ho h4 e1.i hb;have h6:=(BX e1.i (MV e1 (by simp[mY]))).2 ⟨e1,by simp[mY],rfl⟩;rw[getT _ this]at h6;cases h6
   obtain⟨s1,k1,k2⟩:=ht.front l1 st hap;obtain⟨o',ho',hdst,oW⟩:=k1;rw[ho]at ho';cases ho'
   -- what is left
   have rest:∀a1 w1 ρ1,VA C w0 outer own ρ1 s1 a1 w1→(∀q,¬(nx+128 *e.i≤q∧q<nx+128 *e.i+128)→ρ1 q=ρ q)→(∀q qi,ρ q=some qi→ρ1 q=some qi)→
     wpAny C.P .any ops Q fuel (listed.setIfInBounds e.i true) a1 w1:=λa1 w1 ρ1 QV E8 Z0=>by
    have pY:∀e'∈l1++l2,e'.i≠e.i:=λe' h=>by
     rcases List.mem_append.1 h with h | h
     ·have:=((List.pairwise_append.1 hp).2.2 e' h e (by simp)).1;omega
     ·have:=(List.rel_of_pairwise_cons (List.pairwise_append.1 hp).2.1 h).1;omega
    have d4:∀k d,k≠e.i→(listed.setIfInBounds e.i true).getD k d=listed.getD k d:=λk d hk=>by
     rw[Array.getD_eq_getD_getElem?,Array.getD_eq_getD_getElem?,Array.getElem?_setIfInBounds_ne (λh=>hk h.symm)]
    have AX:∀d,(listed.setIfInBounds e.i true).getD e.i d=true:=λd=>by
     rw[Array.getD_eq_getD_getElem?,Array.getElem?_setIfInBounds_self];simp[NV,h1]
    refine zjE hC hΦ hE D hD ρ0 LV fuel (l1++l2) _ s1 a1 w1 ρ1 (by simp at hl⊢;omega) k2 ?_ (by simp[NV]) (λi hi=>?_) (λe' eX=>MV e' ?_) ?_ QV (λe' eX q hq=>?_) (λq hq=>?_) (λq qi h=>Z0 q qi (hx q qi h))
    ·refine hp.sublist ?_;exact(List.sublist_cons_self e l2).append_left l1
    ·by_cases B5:i=e.i
     ·subst B5;rw[AX];constructor
      ·intro h;cases h
      ·rintro⟨e',h5,h6⟩;exact absurd h6 (pY e' h5)
     ·rw[d4 i true B5,BX i hi];constructor
      ·rintro⟨e',h5,h6⟩;refine⟨e',?_,h6⟩
       rcases List.mem_append.1 h5 with h5 | h5
       ·exact List.mem_append_left _ h5
       ·rcases List.mem_cons.1 h5 with rfl | h5
        ·exact absurd h6.symm B5
        ·exact List.mem_append_right _ h5
      ·rintro⟨e',h5,h6⟩;refine⟨e',?_,h6⟩
       rcases List.mem_append.1 h5 with h5 | h5
       ·exact List.mem_append_left _ h5
       ·exact List.mem_append_right _ (List.mem_cons_of_mem _ h5)
    ·rcases List.mem_append.1 eX with h5 | h5
     ·exact List.mem_append_left _ h5
     ·exact List.mem_append_right _ (List.mem_cons_of_mem _ h5)
    ·intro k o2 hk Q5 x nY hb
     by_cases hxe:x.on=e.i
     ·rw[hxe];exact AX false
     ·rw[d4 _ _ hxe]
      by_cases hke:k=e.i
      ·subst hke;rw[ho]at Q5;cases Q5;exact h4 x nY hb
      ·rw[d4 _ _ hke]at hk;exact IZ k o2 hk Q5 x nY hb
    ·rw[E8 _ (by have:=pY e' eX;omega)];refine hf e' ?_ q hq
     rcases List.mem_append.1 eX with h5 | h5
     ·exact List.mem_append_left _ h5
     ·exact List.mem_append_right _ (List.mem_cons_of_mem _ h5)
    ·rw[E8 q (by omega)];exact hN q hq
   have run:GF C (nx+128 *e.i) o e.ls e.rd e.wr st some=some s1→o.wp C.P a w (wpAny C.P .any ops Q fuel (listed.setIfInBounds e.i true)) Q:=λhs=>by
    refine zsW hr hC hΦ ⟨_,hN⟩ (λq hq=>hf e (by simp) q hq) hs _ Q λa1 w1 hA=>?_;obtain⟨ρ1,QV,E8,Z0⟩:=hA;exact rest a1 w1 ρ1 QV (λq hq=>E8 q hq) Z0
   unfold wpOp;rw[ho]
   rcases oW with⟨hg,hs⟩ | ⟨j,want,dj,hg,zZ,_,⟨hv,hs⟩ | ⟨hv,hs⟩⟩
   ·simp only;rw[if_pos (by simp[Region.wanted,hg])];exact .inl (run hs)
   ·have N1:=hr.slots dj;rw[hv]at N1
    have hb:a.tmps.getD dj undef= .bool want:=by
     generalize a.tmps.getD dj undef=v at N1;cases N1;rfl
    have MY:dj<a.tmps.size:=by
     rcases Nat.lt_or_ge dj a.tmps.size with h | h
     ·exact h
     ·rw[Array.getD_eq_getD_getElem?,Array.getElem?_eq_none h]at hb;cases hb
    have hy:yielded ops a.tmps j=some want:=by
     unfold yielded;rw[zZ];simp only[Option.bind_some];rw[Array.getD_eq_getD_getElem?,Array.getElem?_eq_getElem MY]at hb;rw[Array.getElem?_eq_getElem MY];simp only[Option.getD_some]at hb;rw[hb]
    simp only;rw[if_pos (by simp[Region.wanted,hg,hy])];exact .inl (run hs)
   ·have KW:Region.wanted o (yielded ops a.tmps)=false:=by
     have N1:=hr.slots dj
     rcases hv with hv | hv
     ·rw[hv]at N1;have hu:=zs0 N1
      have hy:yielded ops a.tmps j=none:=by
       unfold yielded;rw[zZ];simp only[Option.bind_some];split
       ·rename_i b hb;rw[Array.getD_eq_getD_getElem?,hb]at hu;cases hu
       ·rfl
      simp[Region.wanted,hg,hy]
     ·rw[hv]at N1
      have hb:a.tmps.getD dj undef= .bool (!want):=by
       generalize a.tmps.getD dj undef=v at N1;cases N1;rfl
      have hy:yielded ops a.tmps j=some (!want):=by
       unfold yielded;rw[zZ];simp only[Option.bind_some];rw[Array.getD_eq_getD_getElem?]at hb;cases h2:a.tmps[dj]? with
       | none=>rw[h2]at hb;cases hb
       | some v=>rw[h2]at hb;simp only[Option.getD_some]at hb;rw[hb]
      simp only[Region.wanted,hg,hy];cases want<;>rfl
    simp only;rw[if_neg (by simp[KW])];obtain⟨p1,_,_⟩:=hr.put (v:=undef) (d:= .tup []) (.tup [] #[] rfl λj hj=>by simp at hj) hs;exact rest _ w ρ p1 (λ_ _=>rfl) (λ_ _ h=>h)
omit [jA]in
def DG.keeps{ops:Array Oper}{nx:Nat}{e:nD}(h:DG C ops nx e st st'):ZC nx st.h st'.h:=by
 obtain⟨o,h1,h2,h3⟩:=h
 have stp:GF C (nx+128 *e.i) o e.ls e.rd e.wr st some=some st'→ZC nx st.h st'.h:=λh=>by
  obtain⟨x,k1,rfl⟩:=zer h;have L:=ziJ (n:=nx) (i:=nx+128 *e.i) (by omega) o x k1;intro r row hr HV hm;have hr:r<nx:=hr;show rL _ _ _ _ r=_
  by_cases hw:r∈e.wr
  ·rw[zfD (.inl hw)];exact L.rows r row hr (by show oG e.rd e.wr st.h r=_;simp only[oG,RK.2 hw,cond_true];exact HV) hm
  ·rw[zjq (λh=>h.elim hw λh=>by omega)];exact HV
 have skp:QA C o.dst st (.tup []) some=some st'→ZC nx st.h st'.h:=λh=>(zca (π:=λr=>r<nx) (V.tup []) st' h).rows
 rcases h3 with⟨_,h⟩ | ⟨j,want,dj,_,_,_,⟨_,h⟩ | ⟨_,h⟩⟩
 ·exact stp h
 ·exact stp h
 ·exact skp h
omit [jA]in
def IH.frame{ops:Array Oper}{nx:Nat}(hD:∀o∈ops,∀d,o.dst=some d→D d){l:List nD}(h:IH C ops nx l st st'):
  (∀s,¬D s→st'.s s=st.s s)∧ZC nx st.h st'.h∧st'.nx=st.nx:=by
 induction h with
 | nil=>exact⟨λ_ _=>rfl,ZC.refl _ _,rfl⟩
 | cons h k ih=>
  obtain⟨f1,f2,f3⟩:=h.frame;obtain⟨o,h1,h2,_⟩:=id h;refine⟨λs hs=>?_,h.keeps.trans ih.2.1,ih.2.2.trans f3⟩;rw[ih.1 s hs,f1 s λhd=>hs (hD o (Array.mem_of_getElem? h1) s (h2▸hd))]
omit [jA]in
def zqB{mask nx:Nat}{rs:List nD}{e:nD}(h:QI mask nx rs e=true):∀e1∈rs,Nat.testBit mask e1.i=true∨YI nx e1 e=true:=λe1 he=>by
 have:=List.all_eq_true.1 h e1 he;simpa using this
omit [jA]in
def zjN{ops:Array Oper}{nx:Nat}{K:St→Option R}{r:R}:∀(m k:Nat) (rs:List nD) (st:St),k+m=ops.size→
  ZI C ops (gD [] ops.toList) nx (tF k (ops.toList.drop k)) rs st K=some r→
  ∃l stf,IH C ops nx l st stf∧K stf=some r∧l.map (·.i)=List.range' k m∧(∀i o,k≤i→ops[i]?=some o→∀e∈o.after,Region.binds .any e=true→e.on<i)∧
   (∀e∈l,∀e1∈rs,Nat.testBit ((gD [] ops.toList).getD e.i 0) e1.i=true∨YI nx e1 e=true)∧
   l.Pairwise λe1 e=>e1.i<e.i∧(Nat.testBit ((gD [] ops.toList).getD e.i 0) e1.i=true∨YI nx e1 e=true)
 | 0,k,rs,st,hk,GV=>by
  have:ops.toList.drop k=[]:=List.drop_eq_nil_of_le (by simp;omega);rw[this]at GV;refine⟨[],st, .nil _,GV,rfl,λi o hi ho=>?_,λe he=>by simp at he, .nil⟩;rw[Array.getElem?_eq_none (by omega)]at ho;cases ho
 | m+1,k,rs,st,hk,GV=>by
  have MV:k<ops.size:=by omega
  have ho:ops[k]?=some ops[k]:=Array.getElem?_eq_getElem MV
  have R5:tF k (ops.toList.drop k)=(k,ops[k]) :: tF (k+1) (ops.toList.drop (k+1)):=by
   rw[List.drop_eq_getElem_cons (by simpa using MV)];rfl
  rw[R5]at GV;simp only[ZI]at GV;cases Z9:zkb k ops[k]
  case false=>simp[Z9]at GV
  simp only[Z9,MC]at GV
  have S5:∀e∈(ops[k]).after,Region.binds .any e=true→e.on<k:=λe he hb=>by
   have:=List.all_eq_true.1 Z9 e (by simpa using he);simp only[hb,Bool.not_true,Bool.false_or,Nat.blt_eq]at this;exact this
  -- one operation more
  have more:∀(e:nD) (st1:St),e.i=k→QI ((gD [] ops.toList).getD k 0) nx rs e=true→DG C ops nx e st st1→
    ZI C ops (gD [] ops.toList) nx (tF (k+1) (ops.toList.drop (k+1))) (e :: rs) st1 K=some r→
    ∃l stf,IH C ops nx l st stf∧K stf=some r∧l.map (·.i)=List.range' k (m+1)∧(∀i o,k≤i→ops[i]?=some o→∀e∈o.after,Region.binds .any e=true→e.on<i)∧
     (∀e∈l,∀e1∈rs,Nat.testBit ((gD [] ops.toList).getD e.i 0) e1.i=true∨YI nx e1 e=true)∧
     l.Pairwise λe1 e=>e1.i<e.i∧(Nat.testBit ((gD [] ops.toList).getD e.i 0) e1.i=true∨YI nx e1 e=true):=λe st1 hei fX T5 OV=>by
   obtain⟨l,stf,k1,k2,k3,k4,k5,k6⟩:=zjN m (k+1) (e :: rs) st1 (by omega) OV
   have hli:∀e'∈l,k+1≤e'.i:=λe' eX=>by
    have:e'.i∈l.map (·.i):=List.mem_map.2 ⟨e',eX,rfl⟩;rw[k3,List.mem_range']at this;obtain⟨_,_,h⟩:=this;omega
   refine⟨e :: l,stf, .cons T5 k1,k2,by rw[List.map_cons,k3,hei,List.range'_succ],λi o hi hio=>?_,λe' eX e1 mY=>?_,List.pairwise_cons.2 ⟨λe' eX=>⟨?_,?_⟩,k6⟩⟩
   ·rcases Nat.lt_or_eq_of_le hi with h | h
    ·exact k4 i o h hio
    ·subst h;rw[ho]at hio;cases hio;exact S5
   ·rcases List.mem_cons.1 eX with rfl | eX
    ·rw[hei];exact zqB fX e1 mY
    ·exact k5 e' eX e1 (List.mem_cons_of_mem _ mY)
   ·have:=hli e' eX;omega
   ·exact k5 e' eX e (by simp)
  have skip:∀(j:Nat) (want:Bool) (dj:Nat),(ops[k]).guard=some (j,want)→(ops[j]?).bind (·.dst)=some dj→(st.s dj= .tup []∨st.s dj= .bool (!want))→
    (bif QI ((gD [] ops.toList).getD k 0) nx rs ⟨k,(ops[k]).dst,[dj],[],[]⟩ then QA C (ops[k]).dst st (.tup []) fun st'=>
     ZI C ops (gD [] ops.toList) nx (tF (k+1) (ops.toList.drop (k+1))) (⟨k,(ops[k]).dst,[dj],[],[]⟩ :: rs) st' K else none)=some r→
    ∃l stf,IH C ops nx l st stf∧K stf=some r∧l.map (·.i)=List.range' k (m+1)∧(∀i o,k≤i→ops[i]?=some o→∀e∈o.after,Region.binds .any e=true→e.on<i)∧
     (∀e∈l,∀e1∈rs,Nat.testBit ((gD [] ops.toList).getD e.i 0) e1.i=true∨YI nx e1 e=true)∧
     l.Pairwise λe1 e=>e1.i<e.i∧(Nat.testBit ((gD [] ops.toList).getD e.i 0) e1.i=true∨YI nx e1 e=true):=λj want dj hg zZ hv h=>by
   cases fX:QI ((gD [] ops.toList).getD k 0) nx rs ⟨k,(ops[k]).dst,[dj],[],[]⟩
   case false=>rw[fX]at h;cases h
   simp only[fX,cond_true]at h;rw[mS]at h;obtain⟨st1,h1,h2⟩:=Option.bind_eq_some_iff.1 h;exact more _ st1 rfl fX ⟨_,ho,rfl, .inr ⟨j,want,dj,hg,zZ,by simp, .inr ⟨hv,h1⟩⟩⟩ h2
  split at GV
  ·rename_i hg;cases fX:QI ((gD [] ops.toList).getD k 0) nx rs ⟨k,(ops[k]).dst,kO ops[k],(rI ops[k] st).1,(rI ops[k] st).2⟩
   case false=>rw[fX]at GV;cases GV
   simp only[fX,MC]at GV;unfold GF at GV;rw[XR]at GV;obtain⟨x,h1,h2⟩:=Option.bind_eq_some_iff.1 GV;exact more _ _ rfl fX ⟨_,ho,rfl, .inl ⟨hg,ze5 h1⟩⟩ h2
  ·rename_i j want hg;split at GV
   ·cases GV
   rename_i dj zZ;split at GV
   ·rename_i hs;exact skip j want dj hg zZ (.inl hs) GV
   ·rename_i t hs
    have AX:({st with s:=AA st.s dj (.bool t)}:St)=st:=by
     have:AA st.s dj (.bool t)=st.s:=by
      funext q
      by_cases hq:q=dj
      ·subst hq;rw[MA,hs]
      ·rw[BA _ _ _ _ hq]
     rw[this]
    by_cases C8:t=want
    ·subst C8
     have GV:(bif QI ((gD [] ops.toList).getD k 0) nx rs ⟨k,(ops[k]).dst,dj :: kO ops[k],(rI ops[k] {st with s:=AA st.s dj (.bool t)}).1,(rI ops[k] {st with s:=AA st.s dj (.bool t)}).2⟩then
       GF C (nx+128 *k) ops[k] (dj :: kO ops[k]) (rI ops[k] {st with s:=AA st.s dj (.bool t)}).1 (rI ops[k] {st with s:=AA st.s dj (.bool t)}).2 {st with s:=AA st.s dj (.bool t)} λst'=>
        ZI C ops (gD [] ops.toList) nx (tF (k+1) (ops.toList.drop (k+1))) (⟨k,(ops[k]).dst,dj :: kO ops[k],(rI ops[k] {st with s:=AA st.s dj (.bool t)}).1,(rI ops[k] {st with s:=AA st.s dj (.bool t)}).2⟩ :: rs) st' K else none)=some r:=by
      cases t<;>exact GV
     rw[AX]at GV;cases fX:QI ((gD [] ops.toList).getD k 0) nx rs ⟨k,(ops[k]).dst,dj :: kO ops[k],(rI ops[k] st).1,(rI ops[k] st).2⟩
     case false=>rw[fX]at GV;cases GV
     simp only[fX,cond_true]at GV;unfold GF at GV;rw[XR]at GV;obtain⟨x,h1,h2⟩:=Option.bind_eq_some_iff.1 GV;exact more _ _ rfl fX ⟨_,ho,rfl, .inr ⟨j,t,dj,hg,zZ,by simp, .inl ⟨hs,ze5 h1⟩⟩⟩ h2
    ·have MW:t= !want:=by cases t<;>cases want<;>simp_all
     have GV:(bif QI ((gD [] ops.toList).getD k 0) nx rs ⟨k,(ops[k]).dst,[dj],[],[]⟩then QA C (ops[k]).dst {st with s:=AA st.s dj (.bool t)} (.tup []) λst'=>
       ZI C ops (gD [] ops.toList) nx (tF (k+1) (ops.toList.drop (k+1))) (⟨k,(ops[k]).dst,[dj],[],[]⟩ :: rs) st' K else none)=some r:=by
      subst MW;cases want<;>exact GV
     rw[AX]at GV;exact skip j want dj hg zZ (.inr (by rw[hs,MW])) GV
   ·cases GV
def ztI(hC:IF C)(hΦ:XF C){id:Nat}{ops:Array Oper}{Q:Exit→Act→World→Prop}{K:St→Option R}{r:R}(hD:∀o∈ops,∀d,o.dst=some d→D d)
  (hr:VA C w0 outer own ρ st a w) (hf:∀q,st.nx≤q→ρ q=none)
  (GV:ZI C ops (gD [] ops.toList) st.nx (tF 0 ops.toList) [] st (λst'=>K {st' with nx:=st.nx+128 *ops.size})=some r)
  (LV:∀st' a' w' ρ',fC C w0 outer own D st ρ st' a' w' ρ'→K st'=some r→Q .normal a' w'):(Code.region id ops true).wp C.P Q a w:=by
 obtain⟨l,stf,k1,k2,k3,k4,k5,k6⟩:=zjN ops.size 0 [] st (by omega) GV;obtain⟨f1,f2,f3⟩:=k1.frame hD
 have U5:∀ i,i<ops.size↔∃ e ∈ l,e.i=i:=fun i=>by
  have : i ∈ l.map (·.i) ↔ i < ops.size := by rw [k3, List.mem_range']; constructor
                                              ·rintro⟨_,h,rfl⟩;omega
                                              ·intro h;exact⟨i,h,by omega⟩
  rw[←this,List.mem_map]
 have V5:∀i,i<ops.size→(Array.replicate ops.size false).getD i true=false:=λi hi=>by
  rw[Array.getD_eq_getD_getElem?,Array.getElem?_eq_getElem (by simpa using hi)];simp
 have W5:∀i,(Array.replicate ops.size false).getD i false=false:=λi=>by
  rw[Array.getD_eq_getD_getElem?];cases h:(Array.replicate ops.size false)[i]? with
  | none=>rfl
  | some b=>rw[Array.getElem?_replicate]at h;split at h<;>simp_all
 obtain⟨m1,m2⟩:=hr.heap.world (w':={w with drawn:=w.drawn+1}) ⟨rfl,rfl,rfl,Nat.le_refl _⟩ rfl;have QV:VA C w0 outer own ρ st a {w with drawn:=w.drawn+1}:=⟨m1,λi=>m2 _ _ (hr.slots i),hr.size,hr.defers,hr.glob⟩;refine wp_region_any hC.mixed ?_
 refine zjE hC hΦ (λi o ho=>k4 i o (Nat.zero_le _) ho) D hD ρ (λa' w' ρ' h1 h2 h3=>?_) ops.size l _ st a _ ρ ?_ k1 k6 (by simp) (λi hi=>⟨λ_=>(U5 i).1 hi,λ_=>V5 i hi⟩) (λe he=>(U5 e.i).2 ⟨e,he,rfl⟩)
  (λk o hk=>by rw[W5]at hk;cases hk) QV (λe he q hq=>hf _ (by omega)) (λq hq=>hf q (by omega)) (λ_ _ h=>h)
 ·refine LV {stf with nx:=st.nx+128 *ops.size} a' w' ρ' ⟨⟨h1.heap,h1.slots,h1.size,h1.defers,h1.glob⟩,h2,f1,f2,Nat.le_add_right _ _,h3⟩ k2
 ·have:=congrArg List.length k3;simpa using this
end
end Go.D
namespace Go.D
variable [jA]
def WS:Ex→Exit
 | .normal=> .normal
 | .exit id=> .exit id
 | .ret=> .ret
section
variable {C:Cx} {w0:World} {outer own D:Nat→Prop} {R:Type} {st st1 st2:St} {ρ ρ1 ρ2:Nat→Option RI} {a a1 a2:Act} {w w1 w2:World}
def fC.refl(hr:VA C w0 outer own ρ st a w)(hf:∀q,st.nx≤q→ρ q=none):fC C w0 outer own D st ρ st a w ρ:=
 ⟨hr,λ_ _ h=>h,λ_ _=>rfl,ZC.refl _ _,Nat.le_refl _,hf⟩
def fC.trans(h:fC C w0 outer own D st ρ st1 a1 w1 ρ1)(k:fC C w0 outer own D st1 ρ1 st2 a2 w2 ρ2):fC C w0 outer own D st ρ st2 a2 w2 ρ2:=
 ⟨k.rel,λq qi hq=>k.ext _ _ (h.ext _ _ hq),λs hs=>(k.slots s hs).trans (h.slots s hs),h.keeps.trans (k.keeps.le h.nx),Nat.le_trans h.nx k.nx,k.fresh⟩
def fC.mono{D':Nat→Prop}(h:fC C w0 outer own D st ρ st1 a1 w1 ρ1)(hd:∀s,D s→D' s):fC C w0 outer own D' st ρ st1 a1 w1 ρ1:=
 ⟨h.rel,h.ext,λs hs=>h.slots s λe=>hs (hd s e),h.keeps,h.nx,h.fresh⟩
omit [jA]in
def zoH{s:Nat}{ids:List Nat}(h:zfY st s=some ids):WI st.h ids:=by
 unfold zfY at h;cases hb:Nat.ble 1000000 s
 ·simp only[hb,cond_false]at h;split at h
  ·rename_i hf;cases h;exact zbd hf
  ·cases h
 ·simp only[hb,cond_true]at h;split at h
  ·split at h
   ·split at h
    ·rename_i hf;cases h;exact mT hf
    ·cases h
   ·cases h
  ·cases h
def aO:∀(pre:List Nat) (st st1:St),nK pre st=some st1→VA C w0 outer own ρ st a w→VA C w0 outer own ρ st1 a w∧st1.s=st.s∧st1.nx=st.nx∧∀n,ZC n st.h st1.h
 | [],st,st1,h,hr=>by simp[nK]at h;subst h;exact⟨hr,rfl,rfl,λn=>ZC.refl n _⟩
 | s :: pre,st,st1,h,hr=>by
  simp only[nK]at h;split at h
  case h_2=>cases h
  rename_i ids hf;obtain⟨m1,m2⟩:=hr.heap.mark ids;have QV:VA C w0 outer own ρ {st with h:=rC st.h ids} a w:=hr.turn m1 m2;obtain⟨k1,k2,k3,k4⟩:=aO pre _ st1 h QV;exact⟨k1,k2,k3,λn=>(yN _ (zoH hf)).trans (k4 n)⟩
def fC.pre{pre:List Nat}(hp:nK pre st=some st1)(hr:VA C w0 outer own ρ st a w)(h:fC C w0 outer own D st1 ρ st2 a2 w2 ρ2):fC C w0 outer own D st ρ st2 a2 w2 ρ2:=by
 obtain⟨_,k2,k3,k4⟩:=aO pre st st1 hp hr;exact⟨h.rel,h.ext,λs hs=>by rw[h.slots s hs,k2],(k4 _).trans (by rw[←k3];exact h.keeps),by rw[←k3];exact h.nx,h.fresh⟩
def fC.unlock{j:JI}{b:St}(h:fC C w0 outer own D (WC j b) ρ st1 a1 w1 ρ1):fC C w0 outer own D b ρ (Go.D.unlock b st1) a1 w1 ρ1:=
 ⟨h.rel.unlock b,h.ext,h.slots,zo9 h.keeps,h.nx,h.fresh⟩
def fC.install{j:JI}{b:St}{k:BD j.cs→Option R}{r:R}(hb:VA C w0 outer own ρ b a w)(hf:∀q,b.nx≤q→ρ q=none)(h:fC C w0 outer own (λs=>j.has s=true) (WC j b) ρ st1 a1 w1 ρ1)
  (WW:dS j=true) (he:MG j.cs st1 k=some r):∃x,k x=some r∧∃ρ2,fC C w0 outer own (λs=>j.has s=true) b ρ (Go.D.install j b x) a1 w1 ρ2:=by
 obtain⟨x,h1,ρ2,h2,h3,h4,h5⟩:=zex hb hf h.rel h.fresh h.nx h.ext (λs hs=>h.slots s (by simp[hs])) h.keeps WW he;refine⟨x,h1,ρ2,h2,h4,λs hs=>HT j b x s (by simpa using hs),h5,?_,h3⟩;simp only[Go.D.install];omega
def zkd(hC:IF C)(hΦ:XF C){id:Nat}{pre:List Nat}{d:Bool}{ops:Array Oper}{Q:Exit→Act→World→Prop}{K:St→Option R}{r:R}(hD:∀o∈ops,∀d,o.dst=some d→D d)
  (hr:VA C w0 outer own ρ st a w) (hf:∀q,st.nx≤q→ρ q=none) (GV:nV C pre d ops st K=some r)
  (LV:∀st' a' w' ρ',fC C w0 outer own D st ρ st' a' w' ρ'→K st'=some r→Q .normal a' w'):(Code.region id ops d).wp C.P Q a w:=by
 cases d with
 | true=>
  simp only[nV,MC,zlm]at GV;split at GV
  ·cases GV
  rename_i st0 hp;obtain⟨p1,p2,p3,p4⟩:=aO _ _ _ hp hr;exact ztI hC hΦ hD p1 (by rw[←p3]at hf;exact hf) GV λst' a' w' ρ' h1 h2=>LV st' a' w' ρ' (fC.pre hp hr h1) h2
 | false=>
  simp only[nV,tS]at GV;refine wp_region ?_;rw[List.range_eq_range'];refine zfC hC hΦ st.nx hD ops.size 0 st a w ρ (by omega) hr (λq hq=>hf q (by omega)) GV λst' a' w' ρ' h1 h2 h3 h4 h5 h6 h7=>?_;exact LV {st' with nx:=st.nx+128 *ops.size} a' w' ρ' ⟨⟨h1.heap,h1.slots,h1.size,h1.defers,h1.glob⟩,h3,h4,h5,Nat.le_add_right _ _,h2⟩ h7
end
end Go.D
namespace Go.D
variable [jA]
section
variable {C:Cx} {w0:World} {outer own D:Nat→Prop} {R:Type} {st st1 st2:St} {ρ ρ1 ρ2:Nat→Option RI} {a a1 a2:Act} {w w1 w2:World} {j:JI}
omit [jA]in
def zq9(t:TN)(x:El t):∀c∈enc t x,mL c=none:=by
 intro c hc;cases t<;>(simp[enc,zce,zf5,ze9,zfU,zfH,zfR,zf4,zft,zfq,ze1,zfu,zfT,zbB,zeR,ze2,zb3,zeQ,zfm,zfA,zeV,zfQ,zfZ,zcb,zfo]at hc;rcases hc with rfl | hc<;>(repeat (first | rfl | (rcases hc with rfl | hc))))
omit [jA]in
def zhX(ow:List Nat)(base:Nat):∀(es:List V) (p r:Nat),(∀c∈es,mL c=none)→∀c∈NA ow base p es,mL c=some r→base≤r
 | [],p,r,_,c,hc,_=>by simp[NA]at hc
 | e :: es,p,r,he,c,hc,h=>by
  have ih:=zhX ow base es (p+1) r (λc hc=>he c (by simp[hc]));have h0:=he e (by simp);cases e<;>(simp only[NA,List.mem_cons]at hc;rcases hc with rfl | hc)<;>first | exact ih c hc h | (rw[h0]at h;cases h) | skip
  cases hb:ow.any (Nat.beq p)
  ·simp[hb,mL]at h
  ·simp[hb,mL]at h;omega
def zk1(sl:Nat→V)(cs:List VB)(id:Nat)(h:Nat→Option sA)(q:Nat)(row:sA):Prop:=
 h q=some row∨(id≤q∧∃t l,row.c= .arr t l)∨(∃s t ow es, .box s t ow∈cs∧sl s= .bp q 0∧row=⟨.box es, .own⟩∧∀c∈es,∀r,mL c=some r→id≤r)
omit [jA]in
def zep(sl:Nat→V):∀(cs:List VB) (id:Nat) (x:BD cs) (h:Nat→Option sA) (q:Nat) (row:sA),FO sl cs id x h q=some row→zk1 sl cs id h q row:=by
 have one:∀(c:VB) (id:Nat) (x:c.T) (h:Nat→Option sA) (q:Nat) (row:sA),lK sl c id x h q=some row→zk1 sl [c] id h q row:=by
  intro c id x h q row hq;cases c with
  | drop s=>exact .inl hq
  | slot s ty=>exact .inl hq
  | own s t=>
   simp only[lK]at hq
   by_cases J3:q=id
   ·subst J3;rw[MA]at hq;cases hq;exact .inr (.inl ⟨Nat.le_refl _,_,_,rfl⟩)
   ·rw[BA _ _ _ _ J3]at hq;exact .inl hq
  | box s t ow=>
   simp only[lK]at hq;generalize hs:sl s=v at hq;cases v with
   | bp r off=>
    cases off with
    | zero=>
     simp only at hq
     by_cases XV:q=r
     ·subst XV;rw[MA]at hq;cases hq;exact .inr (.inr ⟨s,t,ow,_,by simp,hs,rfl,λc hc r hr=>zhX ow id _ 0 r (zq9 t x) c hc hr⟩)
     ·rw[BA _ _ _ _ XV,mC]at hq;split at hq
      ·rename_i y hy;cases hq;obtain⟨_,_,he,h1,h2⟩:=yE _ _ _ _ _ _ hy;exact .inr (.inl ⟨by omega,_,_,congrArg sA.c he⟩)
      ·exact .inl hq
    | succ n=>exact .inl hq
   | _=>exact .inl hq
 intro cs;induction cs with
 | nil=>intro id x h q row hq;exact .inl hq
 | cons c cs ih=>
  intro id x h q row hq;cases cs with
  | nil=>exact one c id x h q row hq
  | cons d r=>
   rcases one c id x.1 _ q row hq with h1 | h1 | ⟨s,t,ow,es,h1,h2,h3,h4⟩
   ·rcases ih (id+128) x.2 h q row h1 with h2 | ⟨h2,h3⟩ | ⟨s,t,ow,es,h3,h4,h5,h6⟩
    ·exact .inl h2
    ·exact .inr (.inl ⟨by omega,h3⟩)
    ·exact .inr (.inr ⟨s,t,ow,es,List.mem_cons_of_mem _ h3,h4,h5,λc hc r hr=>by have:=h6 c hc r hr;omega⟩)
   ·exact .inr (.inl h1)
   ·exact .inr (.inr ⟨s,t,ow,es,by simp at h1;simp[h1],h2,h3,h4⟩)
omit [jA]in
def zs2(f:Nat→V)(s:Nat)(t:TN):∀(cs:List VB) (id:Nat) (x:BD cs),UH cs=true→ .own s t∈cs→∃r,IG cs id x f s= .ow r∧id≤r:=by
 intro cs;induction cs with
 | nil=>intro id x _ h;simp at h
 | cons c cs ih=>
  intro id x hn hm
  have key:∀(y:c.T) (g:Nat→V),c= .own s t→∃r,mI c id y g s= .ow r∧id≤r:=by
   intro y g hc;subst hc;exact⟨id,MA _ _ _,Nat.le_refl _⟩
  rcases List.mem_cons.1 hm with he | hm
  ·cases cs with
   | nil=>exact key x f he.symm
   | cons d r=>exact key x.1 _ he.symm
  ·cases cs with
   | nil=>simp at hm
   | cons d r=>
    have N2:UH (d :: r)=true∧∀y g,mI c id y g s=g s:=by
     have hs:UD (d :: r) s=true:=by
      clear ih;generalize d :: r=l at hm;induction l with
      | nil=>simp at hm
      | cons e l ih=>
       rcases List.mem_cons.1 hm with h | h
       ·subst h;simp[UD]
       ·cases e<;>simp[UD,ih h]
     cases c with
     | slot s' ty=>
      simp only[UH,Bool.and_eq_true,Bool.not_eq_true']at hn;refine⟨hn.2,λy g=>BA _ _ _ _ ?_⟩;rintro rfl;rw[hs]at hn;exact absurd hn.1 (by simp)
     | own s' ty=>
      simp only[UH,Bool.and_eq_true,Bool.not_eq_true']at hn;refine⟨hn.2,λy g=>BA _ _ _ _ ?_⟩;rintro rfl;rw[hs]at hn;exact absurd hn.1 (by simp)
     | box s' ty ow=>exact⟨hn,λy g=>rfl⟩
     | drop s'=>exact⟨hn,λy g=>rfl⟩
    obtain⟨q,h1,h2⟩:=ih (id+128) x.2 N2.1 hm;exact⟨q,by simp only[IG];rw[N2.2];exact h1,by omega⟩
omit [jA]in
def zmJ{b:St}{x:BD j.cs}(WW:dS j=true)(hn:UH j.cs=true)(hk:ZC b.nx b.h (install j b x).h):
  ZC b.nx (WC j b).h (WC j (install j b x)).h:=by
 intro q row hq hr hm;simp only[WC]at hr;split at hr
 ·rename_i c hc;cases hi:iL j.cs b q
  case true=>simp only[hi,cond_true,Option.some.injEq]at hr;subst hr;cases hm
  simp only[hi,cond_false,Option.some.injEq]at hr;subst hr
  have X5:∀s t ow,VB.box s t ow∈j.cs→(install j b x).s s=b.s s:=λs t ow hm=>HT j b x s (by
   have:=List.all_eq_true.1 WW _ hm;simpa using this)
  have hdr:∀s,VB.drop s∈j.cs→(install j b x).s s=b.s s:=λs hm=>HT j b x s (by
   have:=List.all_eq_true.1 WW _ hm;simpa using this)
  have KW:∀c∈j.cs,OI b q c=false:=λc hc=>by
   have h0:(j.cs.any (OI b q))=false:=hi;cases h1:OI b q c with
   | false=>rfl
   | true=>rw[List.any_eq_true.2 ⟨c,hc,h1⟩]at h0;cases h0
  have n8:∀s t ow,VB.box s t ow∈j.cs→b.s s≠ .bp q 0:=λs t ow hm h=>by
   have:=KW _ hm;simp[OI,h]at this
  have m4:∀s,VB.drop s∈j.cs→b.s s≠ .bp q 0:=λs hm h=>by
   have:=KW _ hm;simp[OI,h]at this
  have OV:GH j b q=some ⟨c, .own⟩:=by simp[GH,hc,hi]
  have h1:(install j b x).h q=some ⟨c, .own⟩:=by
   obtain⟨row',h2⟩:=zi6 b.s j.cs b.nx x _ q _ OV
   rcases zep b.s j.cs b.nx x _ q _ h2 with h3 | ⟨h3,_⟩ | ⟨s,t,ow,es,h3,h4,_⟩
   ·rw[OV]at h3;cases h3;exact h2
   ·omega
   ·exact absurd h4 (n8 s t ow h3)
  have h2:iL j.cs (install j b x) q=false:=by
   cases h3:iL j.cs (install j b x) q with
   | false=>rfl
   | true=>
    exfalso;obtain⟨cm,h4,h5⟩:=List.any_eq_true.1 h3;cases cm with
    | slot s ty=>cases h5
    | own s t=>
     obtain⟨r,h6,h7⟩:=zs2 (λi=>bif tO j.kill i then .undef else b.s i) s t j.cs b.nx x hn h4;have h8:(install j b x).s s= .ow r:=h6;simp only[OI,h8,mL]at h5;have:=Nat.eq_of_beq_eq_true h5;omega
    | box s t ow=>
     have h6:=X5 s t ow h4;simp only[OI,h6]at h5;split at h5
     ·rename_i bb Q3;simp only[Bool.or_eq_true]at h5
      rcases h5 with h5 | h5
      ·have:=Nat.eq_of_beq_eq_true h5;subst this;exact n8 s t ow h4 Q3
      ·split at h5
       ·rename_i cs m P5;obtain⟨cc,h7,h8⟩:=List.any_eq_true.1 h5;split at h8
        ·rename_i r' VZ;have:=Nat.eq_of_beq_eq_true h8;subst this
         rcases zep b.s j.cs b.nx x _ bb _ P5 with h9 | ⟨_,_,_,h9⟩ | ⟨s',t',ow',es,_,_,h9,mW⟩
         ·have GW:∃m',b.h bb=some ⟨.box cs,m'⟩:=by
           unfold GH at h9;split at h9
           ·rename_i c' HY;cases cW:iL j.cs b bb
            ·simp only[cW,cond_false,Option.some.injEq]at h9;cases h9;exact⟨_,HY⟩
            ·simp[cW]at h9
           ·exact⟨_,h9⟩
          obtain⟨m',GW⟩:=GW;have IW:=KW _ h4;simp only[OI,Q3,GW,Bool.or_eq_false_iff]at IW;have SW:=List.any_eq_false.1 IW.2 cc h7;rw[VZ]at SW;exact SW h8
         ·cases h9
         ·cases h9;have:=mW cc h7 _ VZ;omega
        ·cases h8
       ·cases h5
     ·cases h5
    | drop s=>
     have h6:=hdr s h4;simp only[OI,h6]at h5;split at h5
     ·rename_i bb Q3;simp only[Bool.or_eq_true]at h5
      rcases h5 with h5 | h5
      ·have:=Nat.eq_of_beq_eq_true h5;subst this;exact m4 s h4 Q3
      ·split at h5
       ·rename_i cs m P5;obtain⟨cc,h7,h8⟩:=List.any_eq_true.1 h5;split at h8
        ·rename_i r' VZ;have:=Nat.eq_of_beq_eq_true h8;subst this
         rcases zep b.s j.cs b.nx x _ bb _ P5 with h9 | ⟨_,_,_,h9⟩ | ⟨s',t',ow',es,_,_,h9,mW⟩
         ·have GW:∃m',b.h bb=some ⟨.box cs,m'⟩:=by
           unfold GH at h9;split at h9
           ·rename_i c' HY;cases cW:iL j.cs b bb
            ·simp only[cW,cond_false,Option.some.injEq]at h9;cases h9;exact⟨_,HY⟩
            ·simp[cW]at h9
           ·exact⟨_,h9⟩
          obtain⟨m',GW⟩:=GW;have IW:=KW _ h4;simp only[OI,Q3,GW,Bool.or_eq_false_iff]at IW;have SW:=List.any_eq_false.1 IW.2 cc h7;rw[VZ]at SW;exact SW h8
         ·cases h9
         ·cases h9;have:=mW cc h7 _ VZ;omega
        ·cases h8
       ·cases h5
     ·cases h5
  simp only[WC,h1,h2,cond_false]
 ·have h1:=hk q row hq hr hm;simp only[WC,h1];obtain⟨c,m⟩:=row;cases m with
  | own=>cases hm
  | ro=>rfl
  | lock=>rfl
def fC.round{b:St}{x:BD j.cs}{k:BD j.cs→Option R}{r:R}(hb:VA C w0 outer own ρ b a w)(hf:∀q,b.nx≤q→ρ q=none)
  (h0:fC C w0 outer own (λs=>j.has s=true) b ρ (Go.D.install j b x) a1 w1 ρ1)
  (h:fC C w0 outer own (λs=>j.has s=true) (WC j (Go.D.install j b x)) ρ1 st2 a2 w2 ρ2)
  (WW:dS j=true) (hn:UH j.cs=true) (he:MG j.cs st2 k=some r):∃y,k y=some r∧∃ρ3,fC C w0 outer own (λs=>j.has s=true) b ρ (Go.D.install j b y) a2 w2 ρ3:=by
 have hnx:b.nx≤st2.nx:=Nat.le_trans h0.nx h.nx
 obtain⟨y,h1,ρ3,h2,h3,h4,h5⟩:=zex (ρ':=ρ2) hb hf h.rel h.fresh hnx (λq qi hq=>h.ext _ _ (h0.ext _ _ hq)) (λs hs=>by
   have Y5:¬(j.has s=true):=by simp[hs]
   have e1:=h.slots s Y5;have e2:=h0.slots s Y5;exact e1.trans e2)
  ((zmJ WW hn h0.keeps).trans (h.keeps.le h0.nx)) WW he
 refine⟨y,h1,ρ3,h2,h4,λs hs=>HT j b y s (by simpa using hs),h5,?_,h3⟩;simp only[Go.D.install];omega
def zkt{an:An}{c:Code}{b:St}{K:Ex→St→Option R}{r:R}{Q:Exit→Act→World→Prop}(hb:VA C w0 outer own ρ b a w)(hf:∀q,b.nx≤q→ρ q=none)
  (WW:dS j=true) (hn:UH j.cs=true)
  (body:∀ (st:St) (a:Act) (w:World) (ρ:Nat→Option RI) (K:Ex→St→Option R) (Q:Exit→Act→World→Prop),VA C w0 outer own ρ st a w→(∀ q,st.nx≤q→ρ q=none)→HE C an c st K=some r→
   (∀e st' a' w' ρ',fC C w0 outer own (λs=>j.has s=true) st ρ st' a' w' ρ'→K e st'=some r→Q (WS e) a' w')→c.wp C.P Q a w)
  (LV:∀e st' a' w' ρ',fC C w0 outer own (λs=>j.has s=true) b ρ st' a' w' ρ'→K e st'=some r→Q (WS e) a' w'):
  ∀(n:Nat) (x:BD j.cs) (a1:Act) (w1:World) (ρ1:Nat→Option RI),fC C w0 outer own (λs=>j.has s=true) b ρ (Go.D.install j b x) a1 w1 ρ1→
   wA n (λ(x : BD j.cs) (k : BD j.cs→Option R) => HE C an c (WC j (Go.D.install j b x)) λe st' => match e with
        | .normal=>MG j.cs st' k
        | e=>K e (Go.D.unlock (Go.D.install j b x) st')) x=some r→Code.rounds C.P c Q n a1 w1
 | 0,x,a1,w1,ρ1,h0,h=>by simp[wA]at h
 | n+1,x,a1,w1,ρ1,h0,h=>by
  rw[rounds_succ];simp only[wA]at h;refine body _ a1 w1 ρ1 _ _ (h0.rel.lock j) h0.fresh h λe st' a' w' ρ' hg hk=>?_;cases e with
  | normal=>
   obtain⟨y,k1,ρ3,k2⟩:=h0.round hb hf hg WW hn hk;exact zkt hb hf WW hn body LV n y a' w' ρ3 k2 k1
  | exit id=>exact LV (.exit id) _ a' w' ρ' (h0.trans hg.unlock) hk
  | ret=>exact LV .ret _ a' w' ρ' (h0.trans hg.unlock) hk
def zj6(hC:IF C)(hΦ:XF C)(an:An):∀(c:Code) (D:Nat→Prop),kI an D c→∀(st:St) (a:Act) (w:World) (ρ:Nat→Option RI) (K:Ex→St→Option R) (r:R) (Q:Exit→Act→World→Prop),
  VA C w0 outer own ρ st a w→(∀q,st.nx≤q→ρ q=none)→HE C an c st K=some r→
  (∀e st' a' w' ρ',fC C w0 outer own D st ρ st' a' w' ρ'→K e st'=some r→Q (WS e) a' w')→c.wp C.P Q a w:=by
 intro c;induction c with
 | skip=>
  intro D hT st a w ρ K r Q hr hf GV LV;exact wp_skip (LV .normal st a w ρ (fC.refl hr hf) GV)
 | region id ops d=>
  intro D hT st a w ρ K r Q hr hf GV LV;simp only[HE]at GV;split at GV
  ·exact zkd hC hΦ hT.1 hr hf GV λst' a' w' ρ' h1 h2=>LV .normal st' a' w' ρ' h1 h2
  ·rename_i j hj;split at GV
   ·cases GV
   rename_i st0 hp;obtain⟨p1,p2,p3,p4⟩:=aO _ _ _ hp hr;cases RW:WG an j (.region id ops d)
   case false=>simp[RW]at GV
   simp only[RW,MC,aA]at GV;simp only[WG,Bool.and_eq_true]at RW;have hw:=PG an j _ RW.1.1;refine zkd (D:=λs=>j.has s=true) hC hΦ hw.1 (p1.lock j) (by rw[←p3]at hf;exact hf) GV λst' a' w' ρ' h1 h2=>?_;obtain⟨x,k1,ρ2,k2⟩:=fC.install p1 (by rw[←p3]at hf;exact hf) h1 RW.1.2 h2;have hD:∀s,j.has s=true→D s:=by have:=hT.2;rw[hj]at this;exact this
   exact LV .normal _ a' w' ρ2 (fC.pre hp hr (k2.mono hD)) k1
 | seq x y ihx ihy=>
  intro D hT st a w ρ K r Q hr hf GV LV;simp only[HE]at GV;refine wp_seq (ihx D hT.1 st a w ρ _ r _ hr hf GV λe st' a' w' ρ' h1 h2=>?_);cases e with
  | normal=>exact ihy D hT.2 st' a' w' ρ' _ r _ h1.rel h1.fresh h2 λe st2 a2 w2 ρ2 h3 h4=>LV e st2 a2 w2 ρ2 (h1.trans h3) h4
  | exit id=>exact LV (.exit id) st' a' w' ρ' h1 h2
  | ret=>exact LV .ret st' a' w' ρ' h1 h2
 | cond c x y ihx ihy=>
  intro D hT st a w ρ K r Q hr hf GV LV;cases c with
  | tmp t=>
   simp only[HE]at GV;split at GV
   case h_2=>cases GV
   rename_i b hb;have hv:=hr.slots t;rw[hb]at hv
   have hc:a.eval (.tmp t)= .bool b:=by
    show a.tmps.getD t undef=_
    generalize a.tmps.getD t undef=v at hv;cases hv;rfl
   refine wp_cond hc ?_;split at GV
   ·cases b with
    | true=>exact ihx D hT.1 st a w ρ K r Q hr hf GV LV
    | false=>exact ihy D hT.2.1 st a w ρ K r Q hr hf GV LV
   ·rename_i j hj;split at GV
    ·cases GV
    rename_i st0 hp;obtain⟨p1,p2,p3,p4⟩:=aO _ _ _ hp hr;cases RW:WG an j x&&WG an j y
    case false=>simp[RW]at GV
    simp only[RW,MC,aA]at GV;simp only[WG,Bool.and_eq_true]at RW;have hD:∀s,j.has s=true→D s:=by have:=hT.2.2;rw[hj]at this;exact this
    have z0:∀q,st0.nx≤q→ρ q=none:=by rw[←p3]at hf;exact hf
    have RB:∀(e:Ex) (st':St) (a':Act) (w':World) (ρ':Nat→Option RI),fC C w0 outer own (λs=>j.has s=true) (WC j st0) ρ st' a' w' ρ'→
      (match e with
       | .normal=>MG j.cs st' λy=>K .normal (Go.D.install j st0 y)
       | e=>K e (Go.D.unlock st0 st'))=some r→Q (WS e) a' w':=by
     intro e st' a' w' ρ' h1 h2;cases e with
     | normal=>
      obtain⟨x,k1,ρ2,k2⟩:=fC.install p1 z0 h1 RW.1.1.2 h2;exact LV .normal _ a' w' ρ2 (fC.pre hp hr (k2.mono hD)) k1
     | exit id=>exact LV (.exit id) _ a' w' ρ' (fC.pre hp hr (h1.unlock.mono hD)) h2
     | ret=>exact LV .ret _ a' w' ρ' (fC.pre hp hr (h1.unlock.mono hD)) h2
    cases b with
    | true=>exact ihx _ (PG an j _ RW.1.1.1) (WC j st0) a w ρ _ r Q (p1.lock j) z0 GV RB
    | false=>exact ihy _ (PG an j _ RW.2.1.1) (WC j st0) a w ρ _ r Q (p1.lock j) z0 GV RB
  | _=>simp[HE]at GV
 | block id x ih=>
  intro D hT st a w ρ K r Q hr hf GV LV;refine wp_block ?_;simp only[HE]at GV;split at GV
  ·refine ih D hT.1 st a w ρ _ r _ hr hf GV λe st' a' w' ρ' h1 h2=>?_;cases e with
   | normal=>exact LV .normal st' a' w' ρ' h1 h2
   | ret=>exact LV .ret st' a' w' ρ' h1 h2
   | exit id'=>
    simp only[WS,Exit.inBlock];simp only at h2;cases hb:Nat.beq id' id
    ·have pY:¬id'=id:=λe=>by subst e;simp at hb
     rw[if_neg pY];rw[hb]at h2;exact LV (.exit id') st' a' w' ρ' h1 h2
    ·have pY:=Nat.eq_of_beq_eq_true hb;rw[if_pos pY];rw[hb]at h2;exact LV .normal st' a' w' ρ' h1 h2
  ·rename_i j hj;split at GV
   ·cases GV
   rename_i st0 hp;obtain⟨p1,p2,p3,p4⟩:=aO _ _ _ hp hr;cases RW:WG an j x
   case false=>simp[RW]at GV
   simp only[RW,MC,aA]at GV;simp only[WG,Bool.and_eq_true]at RW;have hD:∀s,j.has s=true→D s:=by have:=hT.2;rw[hj]at this;exact this
   have z0:∀q,st0.nx≤q→ρ q=none:=by rw[←p3]at hf;exact hf
   refine ih _ (PG an j _ RW.1.1) (WC j st0) a w ρ _ r _ (p1.lock j) z0 GV λe st' a' w' ρ' h1 h2=>?_;cases e with
   | normal=>
    obtain⟨x,k1,ρ2,k2⟩:=fC.install p1 z0 h1 RW.1.2 h2;exact LV .normal _ a' w' ρ2 (fC.pre hp hr (k2.mono hD)) k1
   | ret=>exact LV .ret _ a' w' ρ' (fC.pre hp hr (h1.unlock.mono hD)) h2
   | exit id'=>
    simp only[WS,Exit.inBlock];simp only at h2;cases hb:Nat.beq id' id
    ·have pY:¬id'=id:=λe=>by subst e;simp at hb
     rw[if_neg pY];rw[hb]at h2;exact LV (.exit id') _ a' w' ρ' (fC.pre hp hr (h1.unlock.mono hD)) h2
    ·have pY:=Nat.eq_of_beq_eq_true hb;rw[if_pos pY];rw[hb]at h2;obtain⟨x,k1,ρ2,k2⟩:=fC.install p1 z0 h1 RW.1.2 h2;exact LV .normal _ a' w' ρ2 (fC.pre hp hr (k2.mono hD)) k1
 | loop x ih=>
  intro D hT st a w ρ K r Q hr hf GV LV;simp only[HE]at GV;split at GV
  ·cases GV
  rename_i rid hrid;split at GV
  ·cases GV
  rename_i j hj;split at GV
  ·cases GV
  rename_i st0 hp;obtain⟨p1,p2,p3,p4⟩:=aO _ _ _ hp hr;cases RW:WG an j x
  case false=>simp[RW]at GV
  simp only[RW,MC]at GV;simp only[WG,Bool.and_eq_true]at RW;have hD:∀s,j.has s=true→D s:=by have:=hT.2;simp only[hrid,hj]at this;exact this
  have z0:∀q,st0.nx≤q→ρ q=none:=by rw[←p3]at hf;exact hf
  obtain⟨x0,h1,ρ2,h2,h3,h4,h5⟩:=zex (b:=st0) (st':=WC j st0) p1 z0 (p1.lock j) z0 (Nat.le_refl _) (λ_ _ h=>h) (λ_ _=>rfl) (ZC.refl _ _) RW.1.2 GV
  refine wp_loop_rounds FU (zkt (j:=j) p1 z0 RW.1.2 RW.2 (λst a w ρ K Q hr hf GV LV=>ih _ (PG an j _ RW.1.1) st a w ρ K r Q hr hf GV LV)
    (λe st' a' w' ρ' hg hk=>LV e st' a' w' ρ' (fC.pre hp hr (hg.mono hD)) hk) FU x0 a w ρ2 ⟨h2,h4,λs hs=>HT j st0 x0 s (by simpa using hs),h5,?_,h3⟩ h1)
  simp only[Go.D.install];omega
 | exit id=>
  intro D hT st a w ρ K r Q hr hf GV LV;exact wp_exit (LV (.exit id) st a w ρ (fC.refl hr hf) GV)
 | ret=>
  intro D hT st a w ρ K r Q hr hf GV LV;exact wp_ret (LV .ret st a w ρ (fC.refl hr hf) GV)
 | _=>
  intro D hT st a w ρ K r Q hr hf GV LV;simp[HE]at GV
end
end Go.D

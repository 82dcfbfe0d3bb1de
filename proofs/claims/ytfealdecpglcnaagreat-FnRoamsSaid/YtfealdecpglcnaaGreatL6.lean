/-
 Regions that draw their order: one run in the order of the text serves every order.
-/
import Derived.Test.YtfealdecpglcnaaGreatL5
import Derived.Orders
import Derived.LoopN
set_option linter.all false
namespace Go.D
variable [iA]
section
variable {C:Cx} {w0:World} {outer own D:Nat→Prop} {R:Type} {st st' st1 st2:St} {ρ ρ1 ρ2:Nat→Option RI} {a a1 a2:Act} {w w1 w2:World}
omit [iA]in
def zL{r:Nat}{l:List Nat}:SE r l=true↔r∈l:=by
 unfold SE;rw[List.any_eq_true];constructor
 ·rintro⟨x,h1,h2⟩;rw[Nat.eq_of_beq_eq_true h2];exact h1
 ·intro h;exact⟨r,h,by simp⟩
omit [iA]in
def wM{r:Nat}{l:List Nat}:SE r l=false↔r∉l:=by
 rw[←zL];cases SE r l<;>simp
omit [iA]in
def zi0{b r:Nat}:yI b r=true↔b≤r∧r<b+128:=by
 simp only[yI,Bool.and_eq_true,Nat.ble_eq,Nat.blt_eq]
omit [iA]in
def iM{b r:Nat}:yI b r=false↔¬(b≤r∧r<b+128):=by
 rw[←zi0];cases yI b r<;>simp
omit [iA]in
def zu2{P:Program}{o:Oper}{post:Act→World→Prop}(h:EC P o a w post)(hd:∀a' w',post a' w'→a'.defers=[]):
  EC P o a w λa' w'=>post a' w'∧∃v,a'=a.put o.dst v:=by
 intro next Q hn;have h0:=h post Q λ_ _ h=>h;unfold Oper.wp at *;generalize (execOp a.eval o).run P w=x at *;have put:∀v w',post (a.put o.dst v) w'→next (a.put o.dst v) w':=λv w' hp=>hn _ _ ⟨hp,v,rfl⟩;cases x with
 | ok n w'=>
  have nodef:∀d w',post ({a with defers:=d :: a.defers}.put o.dst undef) w'→False:=λd w' hp=>by
   have:=hd _ _ hp
   revert this
   cases o.dst<;>simp[Act.put]
  cases n<;>simp only[Oper.upon]at h0⊢ <;>first
   | exact put _ _ h0
   | exact Calls.mono' h0 λe w'' he=>by cases e<;>first|exact put _ _ he|exact he
   | exact h0.mono λ_ _ he=>put _ _ he
   | exact(nodef _ _ h0).elim
   | exact h0
 | halt x w'=>cases x<;>simp only[Oper.upon]at h0⊢ <;>exact h0
def tT(st st':St):Prop:=∀r row,st'.h r=some row→(∃row0,st.h r=some row0)∨row.m.isOwn=true
omit [iA]in
def IL{dst:Option Nat}{h':Nat→Option rA}(hk:∀r row,h' r=some row→(∃row0,st.h r=some row0)∨row.m.isOwn=true)(v:V):YC (tT st) (UA C dst {st with h:=h'} v some):=by
 intro st' h;cases dst with
 | none=>simp[UA]at h;subst h;exact hk
 | some d=>
  simp only[UA]at h;cases hb:Nat.blt d C.nt<;>simp[hb]at h
  subst h;exact hk
omit [iA]in
def ztO{dst:Option Nat}(v:V):YC (tT st) (UA C dst st v some):=IL (λ_ row h=> .inl ⟨row,h⟩) v
omit [iA]in
def zdl{h h':Nat→Option rA}(hk:∀r row,h' r=some row→(∃row0,h r=some row0)∨row.m.isOwn=true)(i:Nat)(c:vF):
  ∀r row,zA h' i (some ⟨c, .own⟩) r=some row→(∃row0,h r=some row0)∨row.m.isOwn=true:=λr row hr=>by
 by_cases hi:r=i
 ·subst hi;rw[MA]at hr;cases hr;exact .inr rfl
 ·rw[AA _ _ _ _ hi]at hr;exact hk r row hr
omit [iA]in
def zf2(h:Nat→Option rA)(ids:List Nat):∀r row,sC h ids r=some row→(∃row0,h r=some row0)∨row.m.isOwn=true:=λr row hr=>by
 obtain⟨row',h1,_⟩:=GU h ids r row hr;exact .inl ⟨row',h1⟩
omit [iA]in
def zul(h:Nat→Option rA)(r:Option Nat):∀q row,WO h r q=some row→(∃row0,h q=some row0)∨row.m.isOwn=true:=λq row hq=>by
 cases r with
 | none=>exact .inl ⟨row,hq⟩
 | some r=>obtain⟨row',h1,_⟩:=bV h r q row hq;exact .inl ⟨row',h1⟩
omit [iA]in
def zu4(h:Nat→Option rA)(r:Nat):∀q row,zA h r none q=some row→(∃row0,h q=some row0)∨row.m.isOwn=true:=λq row hq=>by
 by_cases hi:q=r
 ·subst hi;rw[MA]at hq;cases hq
 ·rw[AA _ _ _ _ hi]at hq;exact .inl ⟨row,hq⟩
omit [iA]in
def zlE{dst:Option Nat}{h':Nat→Option rA}(hk:∀r row,h' r=some row→(∃row0,st.h r=some row0)∨row.m.isOwn=true)(i:Nat)(c:vF)(v:V):
  YC (tT st) (wF C dst {st with h:=h'} i c v some):=IL (zdl hk i c) v
omit [iA]in
def zuA{dst:Option Nat}(i:Nat)(c:vF)(v:V):YC (tT st) (wF C dst st i c v some):=IL (zdl (λ_ row h=> .inl ⟨row,h⟩) i c) v
omit [iA]in
def zum{dst:Option Nat}(i f:Nat)(as:List V):YC (tT st) (EK C i dst st f as some):=by
 unfold EK;split
 ·exact oF
 rename_i ci _;split
 ·split
  ·exact oF
  rename_i as' h' bs EZ;refine eT _ λx _=>QS _ λr _=>BK _ λDV=>IL ?_ _;simp only[Bool.and_eq_true]at DV;intro q row hq;rw[SO]at hq;split at hq
  ·rename_i y hy;cases hq;rw[zgl (Nat.le_of_ble_eq_true DV.1) hy];exact .inr rfl
  ·exact .inl ⟨row,hq⟩
 rename_i as' h' bs EZ;refine eT _ λx _=>QS _ λr _=>BK _ λDV=>IL ?_ _;intro q row hq;have DV:=Nat.le_of_ble_eq_true DV;rw[SO]at hq;split at hq
 ·rename_i y hy;cases hq;rw[zgl DV hy];exact .inr rfl
 ·rcases zrk hq with hq | hq
  ·exact .inl ⟨row,hq⟩
  ·obtain⟨row',h1,_⟩:=WP _ _ _ _ EZ q row hq;exact .inl ⟨row',h1⟩
omit [iA]in
def ztb{i:Nat}(o:Oper):YC (tT st) (oB C i o st some):=by
 unfold oB
 repeat' first
  | exact oF
  | exact ztO _
  | exact zuA _ _ _
  | exact zum _ _ _
  | exact IL (zf2 _ _) _
  | exact IL (zu4 _ _) _
  | exact zlE (zf2 _ _) _ _ _
  | exact zlE (zul _ _) _ _ _
  | exact IL (zdl (λ_ row h=> .inl ⟨row,h⟩) _ _) _
  | exact IL (zdl (zf2 _ _) _ _) _
  | refine zkC (λ_=>?_) _ _ _ _
  | refine zlz (λ_=>?_) _ _ _
  | refine zfz (λ_=>?_) _ _ _
  | refine zlm (λ_=>?_) _ _ _ _ _ _
  | refine NS _ (λ_=>?_)
  | refine iS _ (λ_=>?_)
  | refine BK _ (λ_=>?_)
  | refine zlg _ (λ_=>?_)
  | refine eT _ (λ_ _=>?_)
  | refine QS _ (λ_ _=>?_)
  | split
omit [iA]in
def ziE{x:Option rA}{row':rA}(h:tV x=some row'):∃row,x=some row∧row.c=row'.c∧row.m.isRo=row'.m.isRo∧row'.m.isOwn=false:=by
 cases x with
 | none=>cases h
 | some row=>
  obtain⟨c,m⟩:=row;cases m<;>(simp only[tV,Option.some.injEq]at h;subst h;exact⟨_,rfl,rfl,rfl,rfl⟩)
def zuP(hr:bB C w0 outer own ρ st a w)(hC:TF C)(hΦ:jG C)(RX:∃N,∀r,N≤r→ρ r=none){b:Nat}(wW:∀q,q<128→ρ (b+q)=none){o:Oper}{ls rd wr:List Nat}
  (hk:QF C b o ls rd wr st some=some st2):EC C.P o a w (yC C w0 outer own b ρ st2):=by
 unfold QF at hk;rw[BS]at hk;obtain⟨st',hs,h2⟩:=Option.bind_eq_some_iff.1 hk;have h2:=Option.some.inj h2;let N:Nat→Prop:=λr=>r∈wr∨r∈rd;let own':Nat→Prop:=λc=>∃r row ri,N r∧st.h r=some row∧row.m.isRo=false∧ρ r=some ri∧ri.nl=false∧ri.b=c;let outer':Nat→Prop:=λc=>outer c∨∃r row ri,¬N r∧st.h r=some row∧row.m.isRo=false∧ρ r=some ri∧ri.nl=false∧ri.b=c
 have G0:∀r row',EG rd wr st.h r=some row'→N r∧∃row,st.h r=some row∧row.c=row'.c∧row.m.isRo=row'.m.isRo:=λr row' h=>by
  simp only[EG]at h;cases hw:SE r wr
  ·simp only[hw,cond_false]at h;cases hd:SE r rd
   ·simp[hd]at h
   ·simp only[hd,cond_true]at h;obtain⟨row,h1,h2,h3,_⟩:=ziE h;exact⟨.inr (zL.1 hd),row,h1,h2,h3⟩
  ·simp only[hw,cond_true]at h;exact⟨.inl (zL.1 hw),row',h,rfl,rfl⟩
 have CX:∀c,qA outer' ρ (EG rd wr st.h) c→qA outer ρ st.h c:=by
  rintro c ((h|⟨r,row,ri,e1,e2,e3,e4⟩)|⟨r,row',ri,e1,e2,e3,e4⟩)
  ·exact .inl h
  ·exact .inr ⟨r,row,ri,e2,e3,e4⟩
  ·obtain⟨_,row,f1,f2,f3⟩:=G0 r row' e1;exact .inr ⟨r,row,ri,f1,by rw[f3];exact e2,e3,e4⟩
 have uY:∀c,own' c→c<w.heap.size∧(w0.heap.size≤c∨own c):=by
  rintro c ⟨r,row,ri,e1,e2,e3,e4,e5,rfl⟩;obtain⟨ri',f1,_,f2⟩:=hr.heap.rows r row e2;rw[e4]at f1;cases f1;exact⟨(f2 e5).2,(f2 e5).1.2 e3⟩
 have H6:∀c,outer' c→c<w.heap.size∧¬own' c:=by
  rintro c (h|⟨r,row,ri,e1,e2,e3,e4,e5,rfl⟩)
  ·obtain⟨g1,g2⟩:=hr.heap.outLt c h;refine⟨Nat.lt_of_lt_of_le g1 hr.heap.wx.size,λho=>?_⟩
   rcases(uY c ho).2 with h3|h3
   ·omega
   ·exact g2 h3
  ·obtain⟨ri',f1,_,f2⟩:=hr.heap.rows r row e2;rw[e4]at f1;cases f1;refine⟨(f2 e5).2,?_⟩;rintro⟨r',row',ri',g1,g2,g3,g4,g5,g6⟩;have:=hr.heap.inj r' r row' row ri' ri g2 e2 g4 e4 g5 e5 g6;subst this;exact e1 g1
 have K3:∀u d,VR w ρ (qA outer ρ st.h) u d→VR w ρ (qA outer' ρ (EG rd wr st.h)) u d:=λu d hu=>hu.mono (λ_ _ h=>h) (λ_ _ _=>rfl) λc hc=> .inl (CX c hc)
 have TY:bB C w outer' own' ρ {s:=XL ls st.s,h:=EG rd wr st.h,nx:=st.nx} a w:=by
  refine⟨⟨Wx.refl _,λ_ _ _=>rfl,H6,λr row' h=>?_,λq q' row row' qi qi' h1 h2 h3 h4 h5 h6 h7=>?_⟩,λt=>?_,hr.size,hr.defers,⟨C.g.stay w0 w (λc hc=>hr.heap.old c (Nat.lt_of_lt_of_le hc (C.g.lt _ hr.glob.p)) (hr.glob.own c hc)) hr.glob.p,λc hc ho=>?_,Nat.le_trans hr.glob.base hr.heap.wx.size,λc hc ho=>?_⟩⟩
  ·obtain⟨f0,row,f1,f2,f3⟩:=G0 r row' h;obtain⟨ri,g1,g2,g3⟩:=hr.heap.rows r row f1;refine⟨ri,g1,by rw[←f2];exact g2.keep (λ_=>rfl) K3,λhn=>⟨⟨?_,λhm=> .inr ⟨r,row,ri,f0,f1,by rw[f3];exact hm,g1,hn,rfl⟩⟩,(g3 hn).2⟩⟩;rintro(h | ⟨r',row2,ri',e1,e2,e3,e4,e5,e6⟩)
   ·exact(g3 hn).1.1 h
   ·have:=hr.heap.inj r' r row2 row ri' ri e2 f1 e4 g1 e5 hn e6;subst this;exact e1 f0
  ·obtain⟨_,row1,f1,_⟩:=G0 q row h1;obtain⟨_,row2,f2,_⟩:=G0 q' row' h2;exact hr.heap.inj q q' _ _ qi qi' f1 f2 h3 h4 h5 h6 h7
  ·show VR w ρ _ _ (XL ls st.s t)
   simp only[XL];cases SE t ls
   ·exact .undef _
   ·exact K3 _ _ (hr.slots t)
  ·have:=Nat.lt_of_lt_of_le hc (C.g.lt _ hr.glob.p)
   rcases(uY c ho).2 with h|h
   ·omega
   ·exact hr.glob.own c hc h
  ·have:=Nat.lt_of_lt_of_le hc hr.glob.base
   rcases(uY c ho).2 with h|h
   ·omega
   ·exact hr.glob.low c hc h
 have L:=ziR (π:=λr=>¬(b≤r∧r<b+128)) (i:=b) (λq hq h=>h (by omega)) o st' hs;have main:=zu2 (zlK TY hC hΦ RX wW hs) λa' w' ⟨ρ',h,_⟩=>h.defers;intro next Q hn;refine main next Q λa1 w1 ⟨⟨ρ1,LV,hE,hx⟩,v,hv⟩=>hn _ _ ⟨ρ1,?_,hE,hx⟩;subst hv;have hh:=LV.heap
 have oW:∀r,ρ r≠none→¬(b≤r∧r<b+128):=λr h1 h2=>h1 (by
  have:=wW (r - b) (by omega);rwa [show b+(r - b)=r by omega]at this)
 have hρ1:∀r row,st.h r=some row→ρ1 r=ρ r:=λr row h=>by
  obtain⟨ri,h1,_⟩:=hr.heap.rows r row h;rw[h1,hx r ri h1]
 -- rows that are only read
 have hrd:∀r row,r∉wr→r∈rd→st.h r=some row→∃row',st'.h r=some row'∧row'.c=row.c∧row'.m.isRo=row.m.isRo:=λr row h1 h2 h3=>by
  have h4:EG rd wr st.h r=tV (some row):=by simp only[EG,wM.2 h1,zL.2 h2,cond_false,cond_true,h3]
  obtain⟨row',h5⟩:∃row',tV (some row)=some row':=by
   obtain⟨c,m⟩:=row;cases m<;>exact⟨_,rfl⟩
  obtain⟨row2,h6,h7,h8,h9⟩:=ziE h5;cases h6;obtain⟨ri,g1,_⟩:=hr.heap.rows r _ h3;exact⟨row',L.rows r row' (oW r (by rw[g1];simp)) (by show EG rd wr st.h r=_;rw[h4,h5]) h9,h7.symm,h8.symm⟩
 -- a row of the new state
 have AV:∀r row,st2.h r=some row→(st'.h r=some row)∨(r∉wr∧¬(b≤r∧r<b+128)∧st.h r=some row):=λr row h=>by
  rw[←h2]at h;simp only[YL]at h;cases hw:(SE r wr||yI b r)
  ·rw[hw]at h;simp only[Bool.or_eq_false_iff]at hw;exact .inr ⟨wM.1 hw.1,iM.1 hw.2,h⟩
  ·rw[hw]at h;exact .inl h
 have lZ:∀c,qA outer ρ1 st2.h c→qA outer' ρ1 st'.h c:=by
  rintro c (h|⟨r,row,ri,e1,e2,e3,e4,e5⟩)
  ·exact .inl (.inl h)
  ·rcases AV r row e1 with h | ⟨h3,h4,h5⟩
   ·exact .inr ⟨r,row,ri,h,e2,e3,e4,e5⟩
   ·by_cases hd:r∈rd
    ·obtain⟨row',f1,f2,f3⟩:=hrd r row h3 hd h5;exact .inr ⟨r,row',ri,f1,by rw[f3];exact e2,e3,e4,e5⟩
    ·rw[hρ1 r row h5]at e3;exact .inl (.inr ⟨r,row,ri,λh=>h.elim h3 hd,h5,e2,e3,e4,e5⟩)
 have I6:∀c,qA outer' ρ1 st'.h c→qA outer ρ st.h c∨w.heap.size≤c:=by
  rintro c ((h|⟨r,row,ri,e1,e2,e3,e4⟩)|⟨r,row,ri,e1,e2,e3,e4,e5⟩)
  ·exact .inl (.inl h)
  ·exact .inl (.inr ⟨r,row,ri,e2,e3,e4⟩)
  ·obtain⟨ri',f1,_,f2⟩:=hh.rows r row e1;rw[e3]at f1;cases f1
   rcases(f2 e4).1.2 e2 with h|⟨r',row',ri',g1,g2,g3,g4⟩
   ·exact .inr (by omega)
   ·rw[e5]at g4;exact .inl (.inr ⟨r',row',ri',g2,g3,g4⟩)
 have keepO:∀u d,VR w ρ (qA outer ρ st.h) u d→VR w1 ρ1 (qA outer ρ1 st2.h) u d:=λu d hu=>
  hu.mono hx (λc hc FV=>hh.old c FV λ⟨r,row,ri,g1,g2,g3,g4⟩=>hc (.inr ⟨r,row,ri,g2,g3,g4⟩)) λc hc=>I6 c (lZ c hc)
 have keepN:∀u d,VR w1 ρ1 (qA outer' ρ1 st'.h) u d→VR w1 ρ1 (qA outer ρ1 st2.h) u d:=λu d hu=>
  hu.mono (λ_ _ h=>h) (λ_ _ _=>rfl) λc hc=> .inl (lZ c hc)
 have J6:∀r row ri,r∉wr→r∉rd→st.h r=some row→ρ r=some ri→ri.nl=false→¬own' ri.b:=by
  rintro r row ri h1 h2 h3 h4 h5 ⟨r',row',ri',g1,g2,g3,g4,g5,g6⟩;have:=hr.heap.inj r' r row' row ri' ri g2 h3 g4 h4 g5 h5 g6;subst this;exact g1.elim h1 h2
 have s9:({a.put o.dst v with}:Act).defers=[]:=LV.defers;refine⟨⟨hr.heap.wx.trans hh.wx,λc hc ho=>?_,hr.heap.outLt,λr row h=>?_,λq q' row row' qi qi' h1 h3 h4 h5 h6 h7 h8=>?_⟩,λt=>?_,LV.size,LV.defers,hr.glob⟩
 ·rw[←hr.heap.old c hc ho];refine hh.old c (Nat.lt_of_lt_of_le hc hr.heap.wx.size) λhoc=>?_
  rcases(uY c hoc).2 with h3|h3
  ·omega
  ·exact ho h3
 ·rcases AV r row h with h3 | ⟨h3,h4,h5⟩
  ·obtain⟨ri,f1,f2,f3⟩:=hh.rows r row h3;refine⟨ri,f1,f2.keep (λ_=>rfl) keepN,λhn=>⟨⟨λho=>(f3 hn).1.1 (.inl ho),λhm=>?_⟩,(f3 hn).2⟩⟩
   rcases(f3 hn).1.2 hm with h4|h4
   ·exact .inl (Nat.le_trans hr.heap.wx.size h4)
   ·exact(uY _ h4).2
  ·obtain⟨ri,f1,f2,f3⟩:=hr.heap.rows r row h5;refine⟨ri,hx r ri f1,?_,λhn=>⟨(f3 hn).1,Nat.lt_of_lt_of_le (f3 hn).2 hh.wx.size⟩⟩
   by_cases hd:r∈rd
   ·obtain⟨row',g1,g2,g3⟩:=hrd r row h3 hd h5;obtain⟨ri',e1,e2,_⟩:=hh.rows r row' g1;rw[hx r ri f1]at e1;cases e1;rw[←g2];exact e2.keep (λ_=>rfl) keepN
   ·exact f2.keep (λhn=>hh.old _ (f3 hn).2 (J6 r row ri h3 hd h5 f1 hn)) keepO
 ·-- no two rows in one block
  have rowsOf:∀r row ri,st2.h r=some row→ρ1 r=some ri→ri.nl=false→(∃row',st'.h r=some row')∨(r∉wr∧r∉rd∧st.h r=some row∧ρ r=some ri):=λr row ri h1 h3 h4=>by
   rcases AV r row h1 with h5|⟨h5,h6,h7⟩
   ·exact .inl ⟨_,h5⟩
   ·by_cases hd:r∈rd
    ·obtain⟨row',g1,_⟩:=hrd r row h5 hd h7;exact .inl ⟨_,g1⟩
    ·exact .inr ⟨h5,hd,h7,by rw[←hρ1 r row h7];exact h3⟩
  have mixed:∀r r' row' row2 ri ri',st'.h r=some row2→ρ1 r=some ri→ri.nl=false→r'∉wr→r'∉rd→st.h r'=some row'→ρ r'=some ri'→ri'.nl=false→ri.b=ri'.b→False:=λr r' row' row2 ri ri' e1 e2 e3 e4 e5 e6 e7 e8 e9=>by
   obtain⟨ri2,f1,_,f3⟩:=hh.rows r row2 e1;rw[e2]at f1;cases f1;obtain⟨ri3,g1,_,g3⟩:=hr.heap.rows r' row' e6;rw[e7]at g1;cases g1;have FV:=(g3 e8).2;have HW:=J6 r' row' ri' e4 e5 e6 e7 e8
   by_cases hm:row2.m.isRo=false
   ·rcases(f3 e3).1.2 hm with h | h
    ·rw[e9]at h;omega
    ·rw[e9]at h;exact HW h
   ·-- a row that nobody writes:it was there ahead
    rcases ztb o st' hs r row2 e1 with⟨row0,h0⟩|h0
    ·obtain⟨g0,row1,g4,_⟩:=G0 r row0 h0;obtain⟨ri4,g5,_⟩:=hr.heap.rows r row1 g4;have:=hx r ri4 g5;rw[e2]at this;cases this;have:=hr.heap.inj r r' row1 row' ri ri' g4 e6 g5 e7 e3 e8 e9;subst this;exact g0.elim e4 e5
    ·refine hm ?_;obtain⟨c,m⟩:=row2;cases m with
     | own=>rfl
     | ro=>cases h0
     | lock=>rfl
  rcases rowsOf q row qi h1 h4 h6 with⟨r1,e1⟩|⟨e1,e2,e3,e4⟩<;>rcases rowsOf q' row' qi' h3 h5 h7 with⟨r2,f1⟩|⟨f1,f2,f3,f4⟩
  ·exact hh.inj q q' _ _ qi qi' e1 f1 h4 h5 h6 h7 h8
  ·exact(mixed q q' row' r1 qi qi' e1 h4 h6 f1 f2 f3 f4 h7 h8).elim
  ·exact(mixed q' q row r2 qi' qi f1 h5 h7 e1 e2 e3 e4 h6 h8.symm).elim
  ·exact hr.heap.inj q q' row row' qi qi' e3 f3 e4 f4 h6 h7 h8
 ·have hst2:st2.s t=tN o.dst st.s st'.s t:=by rw[←h2]
  rw[hst2]
  have hput:∀t,o.dst≠some t→(a.put o.dst v).tmps.getD t undef=a.tmps.getD t undef:=λt ht=>by
   cases hd:o.dst with
   | none=>rfl
   | some d=>
    simp only[Act.put,Array.getD_eq_getD_getElem?];rw[Array.getElem?_setIfInBounds_ne];rintro rfl;exact ht hd
  have other:o.dst≠some t→VR w1 ρ1 (qA outer ρ1 st2.h) ((a.put o.dst v).tmps.getD t undef) (st.s t):=λht=>by
   rw[hput t ht];exact keepO _ _ (hr.slots t)
  cases hd:o.dst with
  | none=>simp only[tN];rw[←hd];exact other (by rw[hd];simp)
  | some d=>
   simp only[tN]
   by_cases ht:t=d
   ·subst ht;rw[MA, ←hd];exact keepN _ _ (LV.slots t)
   ·rw[AA _ _ _ _ ht, ←hd];exact other (by rw[hd];simpa using λe=>ht e.symm)
def UG(C:Cx)(ops:Array Oper)(nx:Nat)(e:oD)(st st':St):Prop:=
 ∃ o,ops[e.i]?=some o∧e.dst=o.dst∧
  ((o.guard=none∧QF C (nx+128 *e.i) o e.ls e.rd e.wr st some=some st')∨
   ∃j want dj,o.guard=some (j,want)∧(ops[j]?).bind (·.dst)=some dj∧dj∈e.ls∧
    ((st.s dj= .bool want∧QF C (nx+128 *e.i) o e.ls e.rd e.wr st some=some st')∨
     ((st.s dj= .tup []∨st.s dj= .bool (!want))∧UA C o.dst st (.tup []) some=some st')))
def oD.at(e:oD)(nx r:Nat):Prop:=r∈e.rd∨r∈e.wr∨(nx+128 *e.i≤r∧r<nx+128 *e.i+128)
def oD.to(e:oD)(nx r:Nat):Prop:=r∈e.wr∨(nx+128 *e.i≤r∧r<nx+128 *e.i+128)
omit [iA]in
def zrR{dst:Option Nat}{s s':Nat→V}{t:Nat}(h:dst≠some t):tN dst s s' t=s t:=by
 cases dst with
 | none=>rfl
 | some d=>exact AA _ _ _ _ (λe=>h (by rw[e]))
omit [iA]in
def zjP{d:Nat}{s s':Nat→V}:tN (some d) s s' d=s' d:=MA _ _ _
omit [iA]in
def zgA{b:Nat}{wr:List Nat}{h h':Nat→Option rA}{r:Nat}(hr:r∈wr∨(b≤r∧r<b+128)):YL b wr h h' r=h' r:=by
 have:(SE r wr||yI b r)=true:=by
  rcases hr with hr|hr
  ·simp[zL.2 hr]
  ·simp[zi0.2 hr]
 simp only[YL,this,cond_true]
omit [iA]in
def zkx{b:Nat}{wr:List Nat}{h h':Nat→Option rA}{r:Nat}(hr:¬(r∈wr∨(b≤r∧r<b+128))):YL b wr h h' r=h r:=by
 have:(SE r wr||yI b r)=false:=by
  simp only[Bool.or_eq_false_iff,wM,iM];exact⟨λh=>hr (.inl h),λh=>hr (.inr h)⟩
 simp only[YL,this,cond_false]
omit [iA]in
def zfk{b:Nat}{o:Oper}{ls rd wr:List Nat}(h:QF C b o ls rd wr st some=some st'):
  ∃x,oB C b o {s:=XL ls st.s,h:=EG rd wr st.h,nx:=st.nx} some=some x∧st'={s:=tN o.dst st.s x.s,h:=YL b wr st.h x.h,nx:=st.nx}:=by
 unfold QF at h;rw[BS]at h;obtain⟨x,h1,h2⟩:=Option.bind_eq_some_iff.1 h;exact⟨x,h1,(Option.some.inj h2).symm⟩
omit [iA]in
def zf0{b:Nat}{o:Oper}{ls rd wr:List Nat}{x:St}(h:oB C b o {s:=XL ls st.s,h:=EG rd wr st.h,nx:=st.nx} some=some x):
  QF C b o ls rd wr st some=some {s:=tN o.dst st.s x.s,h:=YL b wr st.h x.h,nx:=st.nx}:=by
 unfold QF;rw[BS,h];rfl
omit [iA]in
def UG.frame{ops:Array Oper}{nx:Nat}{e:oD}(h:UG C ops nx e st st'):
  (∀t,e.dst≠some t→st'.s t=st.s t)∧(∀r,¬e.to nx r→st'.h r=st.h r)∧st'.nx=st.nx:=by
 obtain⟨o,h1,h2,h3⟩:=h
 have stp:QF C (nx+128 *e.i) o e.ls e.rd e.wr st some=some st'→(∀t,e.dst≠some t→st'.s t=st.s t)∧(∀r,¬e.to nx r→st'.h r=st.h r)∧st'.nx=st.nx:=λh=>by
  obtain⟨x,k1,rfl⟩:=zfk h;exact⟨λt ht=>zrR (by rw[←h2];exact ht),λr hr=>zkx hr,rfl⟩
 have skp:UA C o.dst st (.tup []) some=some st'→(∀t,e.dst≠some t→st'.s t=st.s t)∧(∀r,¬e.to nx r→st'.h r=st.h r)∧st'.nx=st.nx:=λh=>by
  have L:=zcR (π:=λ_=>True) (V.tup []) st' h;refine⟨λt ht=>L.slots t (by rw[←h2];exact ht),λr _=>?_,L.nx⟩;cases hd:o.dst with
  | none=>rw[hd]at h;simp[UA]at h;rw[h]
  | some d=>
   rw[hd]at h;simp only[UA]at h;cases hb:Nat.blt d C.nt<;>simp[hb]at h
   rw[←h]
 rcases h3 with⟨_,h⟩|⟨j,want,dj,_,_,_,⟨_,h⟩|⟨_,h⟩⟩
 ·exact stp h
 ·exact stp h
 ·exact skp h
omit [iA]in
def UG.loc{ops:Array Oper}{nx:Nat}{e:oD}(h:UG C ops nx e st st')(hs:∀t∈e.ls,st2.s t=st.s t)(hh:∀r,e.at nx r→st2.h r=st.h r)(hn:st2.nx=st.nx):
  ∃st2',UG C ops nx e st2 st2'∧(∀t,e.dst=some t→st2'.s t=st'.s t)∧(∀r,e.to nx r→st2'.h r=st'.h r):=by
 obtain⟨o,h1,h2,h3⟩:=h
 have K6:XL e.ls st2.s=XL e.ls st.s:=by
  funext t;simp only[XL];cases hm:SE t e.ls
  ·rfl
  ·simp only[cond_true];exact hs t (zL.1 hm)
 have O5:EG e.rd e.wr st2.h=EG e.rd e.wr st.h:=by
  funext r;simp only[EG];cases hm:SE r e.wr
  ·cases n4:SE r e.rd
   ·rfl
   ·simp only[cond_true,cond_false];rw[hh r (.inl (zL.1 n4))]
  ·simp only[cond_true];exact hh r (.inr (.inl (zL.1 hm)))
 have stp:QF C (nx+128 *e.i) o e.ls e.rd e.wr st some=some st'→∃st2',QF C (nx+128 *e.i) o e.ls e.rd e.wr st2 some=some st2'∧(∀t,e.dst=some t→st2'.s t=st'.s t)∧(∀r,e.to nx r→st2'.h r=st'.h r):=λh=>by
  obtain⟨x,k1,rfl⟩:=zfk h;refine⟨_,zf0 (x:=x) (by rw[K6,O5,hn];exact k1),λt ht=>?_,λr hr=>?_⟩
  ·rw[h2]at ht;rw[ht];exact(zjP).trans zjP.symm
  ·exact(zgA hr).trans (zgA hr).symm
 have skp:UA C o.dst st (.tup []) some=some st'→∃st2',UA C o.dst st2 (.tup []) some=some st2'∧(∀t,e.dst=some t→st2'.s t=st'.s t)∧(∀r,e.to nx r→st2'.h r=st'.h r):=λh=>by
  cases hd:o.dst with
  | none=>
   rw[hd]at h;simp[UA]at h;subst h;refine⟨st2,rfl,λt ht=>?_,λr hr=>hh r (.inr hr)⟩;rw[h2,hd]at ht;cases ht
  | some d=>
   rw[hd]at h;simp only[UA]at h;cases hb:Nat.blt d C.nt<;>simp[hb]at h
   subst h;refine⟨{st2 with s:=zA st2.s d (.tup [])},by simp[UA,hb],λt ht=>?_,λr hr=>hh r (.inr hr)⟩;rw[h2,hd]at ht;cases ht;exact(MA _ _ _).trans (MA _ _ _).symm
 rcases h3 with⟨g,h⟩|⟨j,want,dj,g1,g2,g3,⟨g4,h⟩|⟨g4,h⟩⟩
 ·obtain⟨x,k1,k2,k3⟩:=stp h;exact⟨x,⟨o,h1,h2, .inl ⟨g,k1⟩⟩,k2,k3⟩
 ·obtain⟨x,k1,k2,k3⟩:=stp h;exact⟨x,⟨o,h1,h2, .inr ⟨j,want,dj,g1,g2,g3, .inl ⟨by rw[hs dj g3];exact g4,k1⟩⟩⟩,k2,k3⟩
 ·obtain⟨x,k1,k2,k3⟩:=skp h;exact⟨x,⟨o,h1,h2, .inr ⟨j,want,dj,g1,g2,g3, .inr ⟨by rw[hs dj g3];exact g4,k1⟩⟩⟩,k2,k3⟩
structure zdV(nx:Nat)(e1 e:oD):Prop where
 s1:∀t,e1.dst=some t→t∉e.ls
 s2:∀t,e.dst=some t→t∉e1.ls
 s3:∀t,e1.dst=some t→e.dst≠some t
 h1:∀r,e1.to nx r→¬e.at nx r
 h2:∀r,e.to nx r→¬e1.at nx r
omit [iA]in
def zqK{nx:Nat}{e1 e:oD}(sY:e1.i≠e.i)(h:AJ nx e1 e=true):zdV nx e1 e:=by
 simp only[AJ,Bool.and_eq_true,Bool.not_eq_true',List.all_eq_true]at h;obtain⟨⟨⟨⟨⟨⟨⟨⟨a1,a2⟩,a3⟩,a4⟩,a5⟩,a6⟩,a7⟩,a8⟩,a9⟩:=h;have dst:∀{d:Option Nat} {l:List Nat},zdH d l=false→∀t,d=some t→t∉l:=λh t ht=>by subst ht;exact wM.1 h
 refine⟨dst a1,dst a2,λt ht h=>?_,λr hr GZ=>?_,λr hr GZ=>?_⟩
 ·have:=dst a3 t ht;rw[h]at this;simp at this
 ·rcases hr with hr | hr
  ·have:=a4 r hr
   rcases GZ with h|h|h
   ·exact wM.1 this.1 h
   ·exact wM.1 this.2 h
   ·exact iM.1 (a9 r hr) h
  ·rcases GZ with h | h | h
   ·exact iM.1 (a6 r h) hr
   ·exact iM.1 (a7 r h) hr
   ·omega
 ·rcases hr with hr | hr
  ·rcases GZ with h | h | h
   ·exact wM.1 (a5 r hr) h
   ·exact wM.1 (a4 r h).2 hr
   ·exact iM.1 (a7 r hr) h
  ·rcases GZ with h | h | h
   ·exact iM.1 (a8 r h) hr
   ·exact iM.1 (a9 r h) hr
   ·omega
omit [iA]in
def UG.swap{ops:Array Oper}{nx:Nat}{e1 e:oD}(hp:zdV nx e1 e)(h1:UG C ops nx e1 st st1)(h2:UG C ops nx e st1 st2):
  ∃st1',UG C ops nx e st st1'∧UG C ops nx e1 st1' st2:=by
 obtain⟨f1,f2,f3⟩:=h1.frame;obtain⟨g1,g2,g3⟩:=h2.frame;obtain⟨x,k1,k2,k3⟩:=h2.loc (st2:=st) (λt ht=>(f1 t λe=>hp.s1 t e ht).symm) (λr hr=>(f2 r λh=>hp.h1 r h hr).symm) f3.symm;obtain⟨m1,m2,m3⟩:=k1.frame;obtain⟨y,n1,n2,n3⟩:=h1.loc (st2:=x) (λt ht=>m1 t λe=>hp.s2 t e ht) (λr hr=>m2 r λh=>hp.h2 r h hr) m3;obtain⟨p1,p2,p3⟩:=n1.frame
 have hy:y=st2:=by
  have es:y.s=st2.s:=by
   funext t
   by_cases t1:e1.dst=some t
   ·rw[n2 t t1,g1 t (hp.s3 t t1)]
   ·rw[p1 t t1]
    by_cases t2:e.dst=some t
    ·rw[k2 t t2]
    ·rw[m1 t t2,g1 t t2,f1 t t1]
  have eh:y.h=st2.h:=by
   funext r;have toAt:∀{e:oD},e.to nx r→e.at nx r:=λh=> .inr h
   by_cases t1:e1.to nx r
   ·rw[n3 r t1,g2 r λh=>hp.h2 r h (toAt t1)]
   ·rw[p2 r t1]
    by_cases t2:e.to nx r
    ·rw[k3 r t2]
    ·rw[m2 r t2,g2 r t2,f2 r t1]
  have en:y.nx=st2.nx:=by rw[p3,m3,g3,f3]
  cases y;cases st2;simp_all
 exact⟨x,k1,hy▸n1⟩
inductive XH(C:Cx)(ops:Array Oper)(nx:Nat):List oD→St→St→Prop
 | nil (st:St):XH C ops nx [] st st
 | cons {e:oD} {l:List oD} {st st1 st2:St} (h:UG C ops nx e st st1) (k:XH C ops nx l st1 st2):XH C ops nx (e :: l) st st2
omit [iA]in
def XH.front{ops:Array Oper}{nx:Nat}{e:oD}{l2:List oD}:∀(l1:List oD) (st:St),(∀e1∈l1,zdV nx e1 e)→XH C ops nx (l1++e :: l2) st st2→∃st1,UG C ops nx e st st1∧XH C ops nx (l1++l2) st1 st2
 | [],st,_,h=>by cases h with|cons h k=>exact⟨_,h,k⟩
 | e1 :: l1,st,hp,h=>by
  cases h with
  | cons h k=>
   obtain⟨s,k1,k2⟩:=XH.front l1 _ (λe h=>hp e (List.mem_cons_of_mem _ h)) k;obtain⟨x,n1,n2⟩:=h.swap (hp e1 (by simp)) k1;exact⟨x,n1, .cons n2 k2⟩
omit [iA]in
def ziN:∀(l:List Oper) (acc:List Nat),∃t,gD acc l=acc++t
 | [],acc=>⟨[],by simp[gD]⟩
 | o :: l,acc=>by
  obtain⟨t,h⟩:=ziN l (acc++[zaj acc o.after.toList]);exact⟨_,by simp only[gD];rw[h,List.append_assoc]⟩
omit [iA]in
def zjN:∀(l:List Oper) (acc:List Nat) (k:Nat) (o:Oper),l[k]?=some o→
  (gD acc l).getD (acc.length+k) 0=zaj ((gD acc l).take (acc.length+k)) o.after.toList
 | [],acc,k,o,h=>by simp at h
 | x :: l,acc,0,o,h=>by
  simp at h;subst h;simp only[gD,Nat.add_zero];obtain⟨t,ht⟩:=ziN l (acc++[zaj acc x.after.toList]);rw[ht,List.append_assoc,List.getD_eq_getElem?_getD,List.getElem?_append_right (Nat.le_refl _)];simp
 | x :: l,acc,k+1,o,h=>by
  have:=zjN l (acc++[zaj acc x.after.toList]) k o (by simpa using h);simp only[List.length_append,List.length_singleton]at this;simp only[gD];rw[show acc.length+(k+1)=acc.length+1+k by omega];exact this
omit [iA]in
def zjB(ms:List Nat)(d:Nat):∀(es:List Edge) (s:Nat),Nat.testBit (es.foldl (λs e=>bif Region.binds .any e then s|||(2^e.on|||ms.getD e.on 0)else s) s) d=true→
  Nat.testBit s d=true∨∃e∈es,Region.binds .any e=true∧(e.on=d∨Nat.testBit (ms.getD e.on 0) d=true)
 | [],s,h=> .inl h
 | e :: es,s,h=>by
  rcases zjB ms d es _ h with h1|⟨x,h1,h2⟩
  ·cases hb:Region.binds .any e
   ·simp only[hb,cond_false]at h1;exact .inl h1
   ·simp only[hb,cond_true,Nat.testBit_or,Bool.or_eq_true,Nat.testBit_two_pow,decide_eq_true_eq]at h1
    rcases h1 with h1|h1|h1
    ·exact .inl h1
    ·exact .inr ⟨e,by simp,hb, .inl h1⟩
    ·exact .inr ⟨e,by simp,hb, .inr h1⟩
  ·exact .inr ⟨x,List.mem_cons_of_mem _ h1,h2⟩
omit [iA]in
def zvm{ops:Array Oper}{S:Nat→Prop}(hE:∀i o,ops[i]?=some o→∀e∈o.after,Region.binds .any e=true→e.on<i)
  (hS:∀k o,S k→ops[k]?=some o→∀e∈o.after,Region.binds .any e=true→S e.on):
  ∀(i:Nat) (o:Oper),ops[i]?=some o→(∀e∈o.after,Region.binds .any e=true→S e.on)→∀d,Nat.testBit ((gD [] ops.toList).getD i 0) d=true→S d:=by
 intro i;induction i using Nat.strongRecOn with
 | _ i ih=>
  intro o ho he d hd;have h0:=zjN ops.toList [] i o (by simpa using ho);simp only[List.length_nil,Nat.zero_add]at h0;rw[h0]at hd
  have hi:i<ops.size:=by
   rcases Nat.lt_or_ge i ops.size with h|h
   ·exact h
   ·rw[Array.getElem?_eq_none h]at ho;cases ho
  rcases zjB _ d _ _ hd with h1|⟨e,h1,h2,h3⟩
  ·simp at h1
  ·have h1:e∈o.after:=by simpa using h1
   have OX:=he e h1 h2;have FV:=hE i o ho e h1 h2
   rcases h3 with h3|h3
   ·rw[←h3];exact OX
   ·have h4:((gD [] ops.toList).take i).getD e.on 0=(gD [] ops.toList).getD e.on 0:=by
     rw[List.getD_eq_getElem?_getD,List.getD_eq_getElem?_getD,List.getElem?_take,if_pos FV]
    rw[h4]at h3;have L3:ops[e.on]?=some ops[e.on]:=Array.getElem?_eq_getElem (by omega);exact ih e.on FV _ L3 (hS e.on _ OX L3) d h3
omit [iA]in
def zfD{ops:Array Oper}{listed:Array Bool}{i:Nat}:i∈Region.ready .any ops listed↔
  i<ops.size∧listed.getD i true=false∧∃o,ops[i]?=some o∧∀e∈o.after,Region.binds .any e=true→listed.getD e.on false=true:=by
 unfold Region.ready;rw[List.mem_filter,List.mem_range];constructor
 ·rintro⟨h1,h2⟩;simp only[Bool.and_eq_true,Bool.not_eq_true']at h2;refine⟨h1,h2.1,?_⟩;rw[Array.getElem?_eq_getElem h1]at h2;refine⟨ops[i],Array.getElem?_eq_getElem h1,λe he hb=>?_⟩;have h3:=h2.2;simp only[Option.map_some,Option.getD_some]at h3;rw[Array.all_eq_true']at h3;have:=h3 e he;simpa[hb]using this
 ·rintro⟨h1,h2,o,h3,h4⟩;refine⟨h1,?_⟩;rw[h2,h3];simp only[Bool.not_false,Bool.true_and,Option.map_some,Option.getD_some];rw[Array.all_eq_true'];intro e he;cases hb:Region.binds .any e
  ·rfl
  ·simp[h4 e he hb]
def zuS{w:World}{ρ:Nat→Option RI}{bad:Nat→Prop}{v:Value}(h:VR w ρ bad v (.tup [])):v=undef:=by
 cases h with
 | tup _ vs hs hv=>
  have:vs= #[]:=by simpa using hs
  subst this;rfl
def zkN(hC:TF C)(hΦ:jG C){ops:Array Oper}{nx:Nat}{Q:Exit→Act→World→Prop}{stf:St}(hE:∀i o,ops[i]?=some o→∀e∈o.after,Region.binds .any e=true→e.on<i)
  (D:Nat→Prop) (hD:∀o∈ops,∀d,o.dst=some d→D d) (ρ0:Nat→Option RI)
  (EV:∀a' w' ρ',bB C w0 outer own ρ' stf a' w'→(∀q qi,ρ0 q=some qi→ρ' q=some qi)→(∀q,nx+128 *ops.size≤q→ρ' q=none)→Q .normal a' w'):
  ∀(fuel:Nat) (l:List oD) (listed:Array Bool) (st:St) (a:Act) (w:World) (ρ:Nat→Option RI),
   l.length=fuel→XH C ops nx l st stf→l.Pairwise (λe1 e=>e1.i<e.i∧(Nat.testBit ((gD [] ops.toList).getD e.i 0) e1.i=true∨AJ nx e1 e=true))→
   listed.size=ops.size→(∀i,i<ops.size→(listed.getD i true=false↔∃e∈l,e.i=i))→(∀e∈l,e.i<ops.size)→
   (∀k o,listed.getD k false=true→ops[k]?=some o→∀e∈o.after,Region.binds .any e=true→listed.getD e.on false=true)→
   bB C w0 outer own ρ st a w→(∀e∈l,∀q,q<128→ρ (nx+128 *e.i+q)=none)→(∀q,nx+128 *ops.size≤q→ρ q=none)→(∀q qi,ρ0 q=some qi→ρ q=some qi)→
   wpAny C.P .any ops Q fuel listed a w
 | 0,l,listed,st,a,w,ρ,hl,ht,hp,KV,EX,FV,eY,hr,hf,hN,hx=>by
  obtain rfl:l=[]:=List.eq_nil_of_length_eq_zero hl;cases ht;refine⟨?_,EV a w ρ hr hx hN⟩;refine List.eq_nil_iff_forall_not_mem.2 λi hi=>?_;obtain⟨h1,h2,_⟩:=zfD.1 hi;obtain⟨e,he,_⟩:=(EX i h1).1 h2;simp at he
 | fuel+1,l,listed,st,a,w,ρ,hl,ht,hp,KV,EX,FV,eY,hr,hf,hN,hx=>by
  have getF:∀k,k<ops.size→listed.getD k true=true→listed.getD k false=true:=λk hk h=>by
   rw[Array.getD_eq_getD_getElem?]at h⊢;rw[Array.getElem?_eq_getElem (by omega)]at h⊢;exact h
  have getT:∀k,listed.getD k false=true→listed.getD k true=true:=λk h=>by
   rw[Array.getD_eq_getD_getElem?]at h⊢;cases h2:listed[k]? with
   | none=>rfl
   | some b=>rw[h2]at h;exact h
  refine⟨λX1=>?_,λi hi=>?_⟩
  ·exfalso;cases l with
   | nil=>simp at hl
   | cons e l=>
    have he:=FV e (by simp)
    have:e.i∈Region.ready .any ops listed:=zfD.2 ⟨he,(EX _ he).2 ⟨e,by simp,rfl⟩,ops[e.i],Array.getElem?_eq_getElem he,λx hx hb=>by
     have h1:=hE _ _ (Array.getElem?_eq_getElem he) x hx hb;refine getF _ (by omega) ?_;cases h2:listed.getD x.on true with
     | true=>rfl
     | false=>
      obtain⟨e',h3,h4⟩:=(EX x.on (by omega)).1 h2
      rcases List.mem_cons.1 h3 with rfl|h3
      ·omega
      ·have:=(List.rel_of_pairwise_cons hp h3).1;omega⟩
    rw[X1]at this;simp at this
  ·obtain⟨h1,h2,o,ho,h4⟩:=zfD.1 hi;obtain⟨e,he,rfl⟩:=(EX i h1).1 h2;obtain⟨l1,l2,rfl⟩:=List.append_of_mem he
   have hap:∀e1∈l1,zdV nx e1 e:=λe1 pY=>by
    have h5:=(List.pairwise_append.1 hp).2.2 e1 pY e (by simp);refine zqK (by omega) (h5.2.resolve_left λhb=>?_);have:=zvm (S:=λk=>listed.getD k false=true) hE (λk o hk L6=>eY k o hk L6) e.i o ho h4 e1.i hb;have h6:=(EX e1.i (FV e1 (by simp[pY]))).2 ⟨e1,by simp[pY],rfl⟩;rw[getT _ this]at h6;cases h6
   obtain⟨s1,k1,k2⟩:=ht.front l1 st hap;obtain⟨o',E2,hdst,nW⟩:=k1;rw[ho]at E2;cases E2
   -- what is left
   have rest:∀a1 w1 ρ1,bB C w0 outer own ρ1 s1 a1 w1→(∀q,¬(nx+128 *e.i≤q∧q<nx+128 *e.i+128)→ρ1 q=ρ q)→(∀q qi,ρ q=some qi→ρ1 q=some qi)→
     wpAny C.P .any ops Q fuel (listed.setIfInBounds e.i true) a1 w1:=λa1 w1 ρ1 LV t9 PZ=>by
    have sY:∀e'∈l1++l2,e'.i≠e.i:=λe' h=>by
     rcases List.mem_append.1 h with h|h
     ·have:=((List.pairwise_append.1 hp).2.2 e' h e (by simp)).1;omega
     ·have:=(List.rel_of_pairwise_cons (List.pairwise_append.1 hp).2.1 h).1;omega
    have T4:∀k d,k≠e.i→(listed.setIfInBounds e.i true).getD k d=listed.getD k d:=λk d hk=>by
     rw[Array.getD_eq_getD_getElem?,Array.getD_eq_getD_getElem?,Array.getElem?_setIfInBounds_ne (λh=>hk h.symm)]
    have DX:∀d,(listed.setIfInBounds e.i true).getD e.i d=true:=λd=>by
     rw[Array.getD_eq_getD_getElem?,Array.getElem?_setIfInBounds_self];simp[KV,h1]
    refine zkN hC hΦ hE D hD ρ0 EV fuel (l1++l2) _ s1 a1 w1 ρ1 (by simp at hl⊢;omega) k2 ?_ (by simp[KV]) (λi hi=>?_) (λe' gX=>FV e' ?_) ?_ LV (λe' gX q hq=>?_) (λq hq=>?_) (λq qi h=>PZ q qi (hx q qi h))
    ·refine hp.sublist ?_;exact(List.sublist_cons_self e l2).append_left l1
    ·by_cases F4:i=e.i
     ·subst F4;rw[DX];constructor
      ·intro h;cases h
      ·rintro⟨e',h5,h6⟩;exact absurd h6 (sY e' h5)
     ·rw[T4 i true F4,EX i hi];constructor
      ·rintro⟨e',h5,h6⟩;refine⟨e',?_,h6⟩
       rcases List.mem_append.1 h5 with h5|h5
       ·exact List.mem_append_left _ h5
       ·rcases List.mem_cons.1 h5 with rfl | h5
        ·exact absurd h6.symm F4
        ·exact List.mem_append_right _ h5
      ·rintro⟨e',h5,h6⟩;refine⟨e',?_,h6⟩
       rcases List.mem_append.1 h5 with h5|h5
       ·exact List.mem_append_left _ h5
       ·exact List.mem_append_right _ (List.mem_cons_of_mem _ h5)
    ·rcases List.mem_append.1 gX with h5 | h5
     ·exact List.mem_append_left _ h5
     ·exact List.mem_append_right _ (List.mem_cons_of_mem _ h5)
    ·intro k o2 hk L6 x nZ hb
     by_cases M6:x.on=e.i
     ·rw[M6];exact DX false
     ·rw[T4 _ _ M6]
      by_cases hke:k=e.i
      ·subst hke;rw[ho]at L6;cases L6;exact h4 x nZ hb
      ·rw[T4 _ _ hke]at hk;exact eY k o2 hk L6 x nZ hb
    ·rw[t9 _ (by have:=sY e' gX;omega)];refine hf e' ?_ q hq
     rcases List.mem_append.1 gX with h5|h5
     ·exact List.mem_append_left _ h5
     ·exact List.mem_append_right _ (List.mem_cons_of_mem _ h5)
    ·rw[t9 q (by omega)];exact hN q hq
   have run:QF C (nx+128 *e.i) o e.ls e.rd e.wr st some=some s1→o.wp C.P a w (wpAny C.P .any ops Q fuel (listed.setIfInBounds e.i true)) Q:=λhs=>by
    refine zuP hr hC hΦ ⟨_,hN⟩ (λq hq=>hf e (by simp) q hq) hs _ Q λa1 w1 hA=>?_;obtain⟨ρ1,LV,t9,PZ⟩:=hA;exact rest a1 w1 ρ1 LV (λq hq=>t9 q hq) PZ
   unfold wpOp;rw[ho]
   rcases nW with⟨hg,hs⟩|⟨j,want,dj,hg,FZ,_,⟨hv,hs⟩|⟨hv,hs⟩⟩
   ·simp only;rw[if_pos (by simp[Region.wanted,hg])];exact .inl (run hs)
   ·have I2:=hr.slots dj;rw[hv]at I2
    have hb:a.tmps.getD dj undef= .bool want:=by
     generalize a.tmps.getD dj undef=v at I2;cases I2;rfl
    have QY:dj<a.tmps.size:=by
     rcases Nat.lt_or_ge dj a.tmps.size with h|h
     ·exact h
     ·rw[Array.getD_eq_getD_getElem?,Array.getElem?_eq_none h]at hb;cases hb
    have hy:yielded ops a.tmps j=some want:=by
     unfold yielded;rw[FZ];simp only[Option.bind_some];rw[Array.getD_eq_getD_getElem?,Array.getElem?_eq_getElem QY]at hb;rw[Array.getElem?_eq_getElem QY];simp only[Option.getD_some]at hb;rw[hb]
    simp only;rw[if_pos (by simp[Region.wanted,hg,hy])];exact .inl (run hs)
   ·have HW:Region.wanted o (yielded ops a.tmps)=false:=by
     have I2:=hr.slots dj
     rcases hv with hv|hv
     ·rw[hv]at I2;have hu:=zuS I2
      have hy:yielded ops a.tmps j=none:=by
       unfold yielded;rw[FZ];simp only[Option.bind_some];split
       ·rename_i b hb;rw[Array.getD_eq_getD_getElem?,hb]at hu;cases hu
       ·rfl
      simp[Region.wanted,hg,hy]
     ·rw[hv]at I2
      have hb:a.tmps.getD dj undef= .bool (!want):=by
       generalize a.tmps.getD dj undef=v at I2;cases I2;rfl
      have hy:yielded ops a.tmps j=some (!want):=by
       unfold yielded;rw[FZ];simp only[Option.bind_some];rw[Array.getD_eq_getD_getElem?]at hb;cases h2:a.tmps[dj]? with
       | none=>rw[h2]at hb;cases hb
       | some v=>rw[h2]at hb;simp only[Option.getD_some]at hb;rw[hb]
      simp only[Region.wanted,hg,hy];cases want<;>rfl
    simp only;rw[if_neg (by simp[HW])];obtain⟨p1,_,_⟩:=hr.put (v:=undef) (d:= .tup []) (.tup [] #[] rfl λj hj=>by simp at hj) hs;exact rest _ w ρ p1 (λ_ _=>rfl) (λ_ _ h=>h)
omit [iA]in
def UG.keeps{ops:Array Oper}{nx:Nat}{e:oD}(h:UG C ops nx e st st'):bD nx st.h st'.h:=by
 obtain⟨o,h1,h2,h3⟩:=h
 have stp:QF C (nx+128 *e.i) o e.ls e.rd e.wr st some=some st'→bD nx st.h st'.h:=λh=>by
  obtain⟨x,k1,rfl⟩:=zfk h;have L:=zjI (n:=nx) (i:=nx+128 *e.i) (by omega) o x k1;intro r row hr AV hm;have hr:r<nx:=hr;show YL _ _ _ _ r=_
  by_cases hw:r∈e.wr
  ·rw[zgA (.inl hw)];exact L.rows r row hr (by show EG e.rd e.wr st.h r=_;simp only[EG,zL.2 hw,cond_true];exact AV) hm
  ·rw[zkx (λh=>h.elim hw λh=>by omega)];exact AV
 have skp:UA C o.dst st (.tup []) some=some st'→bD nx st.h st'.h:=λh=>(zcR (π:=λr=>r<nx) (V.tup []) st' h).rows
 rcases h3 with⟨_,h⟩|⟨j,want,dj,_,_,_,⟨_,h⟩|⟨_,h⟩⟩
 ·exact stp h
 ·exact stp h
 ·exact skp h
omit [iA]in
def XH.frame{ops:Array Oper}{nx:Nat}(hD:∀o∈ops,∀d,o.dst=some d→D d){l:List oD}(h:XH C ops nx l st st'):
  (∀s,¬D s→st'.s s=st.s s)∧bD nx st.h st'.h∧st'.nx=st.nx:=by
 induction h with
 | nil=>exact⟨λ_ _=>rfl,bD.refl _ _,rfl⟩
 | cons h k ih=>
  obtain⟨f1,f2,f3⟩:=h.frame;obtain⟨o,h1,h2,_⟩:=id h;refine⟨λs hs=>?_,h.keeps.trans ih.2.1,ih.2.2.trans f3⟩;rw[ih.1 s hs,f1 s λhd=>hs (hD o (Array.mem_of_getElem? h1) s (h2▸hd))]
omit [iA]in
def zsb{mask nx:Nat}{rs:List oD}{e:oD}(h:rJ mask nx rs e=true):∀e1∈rs,Nat.testBit mask e1.i=true∨AJ nx e1 e=true:=λe1 he=>by
 have:=List.all_eq_true.1 h e1 he;simpa using this
omit [iA]in
def zk0{ops:Array Oper}{nx:Nat}{K:St→Option R}{r:R}:∀(m k:Nat) (rs:List oD) (st:St),k+m=ops.size→
  BJ C ops (gD [] ops.toList) nx (FF k (ops.toList.drop k)) rs st K=some r→
  ∃l stf,XH C ops nx l st stf∧K stf=some r∧l.map (·.i)=List.range' k m∧(∀i o,k≤i→ops[i]?=some o→∀e∈o.after,Region.binds .any e=true→e.on<i)∧
   (∀e∈l,∀e1∈rs,Nat.testBit ((gD [] ops.toList).getD e.i 0) e1.i=true∨AJ nx e1 e=true)∧
   l.Pairwise λe1 e=>e1.i<e.i∧(Nat.testBit ((gD [] ops.toList).getD e.i 0) e1.i=true∨AJ nx e1 e=true)
 | 0,k,rs,st,hk,zV=>by
  have:ops.toList.drop k=[]:=List.drop_eq_nil_of_le (by simp;omega);rw[this]at zV;refine⟨[],st, .nil _,zV,rfl,λi o hi ho=>?_,λe he=>by simp at he, .nil⟩;rw[Array.getElem?_eq_none (by omega)]at ho;cases ho
 | m+1,k,rs,st,hk,zV=>by
  have FV:k<ops.size:=by omega
  have ho:ops[k]?=some ops[k]:=Array.getElem?_eq_getElem FV
  have N6:FF k (ops.toList.drop k)=(k,ops[k]) :: FF (k+1) (ops.toList.drop (k+1)):=by
   rw[List.drop_eq_getElem_cons (by simpa using FV)];rfl
  rw[N6]at zV;simp only[BJ]at zV;cases hed:zlp k ops[k]
  case false=>simp[hed]at zV
  simp only[hed,VC]at zV
  have O6:∀e∈(ops[k]).after,Region.binds .any e=true→e.on<k:=λe he hb=>by
   have:=List.all_eq_true.1 hed e (by simpa using he);simp only[hb,Bool.not_true,Bool.false_or,Nat.blt_eq]at this;exact this
  -- one operation more
  have more:∀(e:oD) (st1:St),e.i=k→rJ ((gD [] ops.toList).getD k 0) nx rs e=true→UG C ops nx e st st1→
    BJ C ops (gD [] ops.toList) nx (FF (k+1) (ops.toList.drop (k+1))) (e :: rs) st1 K=some r→
    ∃l stf,XH C ops nx l st stf∧K stf=some r∧l.map (·.i)=List.range' k (m+1)∧(∀i o,k≤i→ops[i]?=some o→∀e∈o.after,Region.binds .any e=true→e.on<i)∧
     (∀e∈l,∀e1∈rs,Nat.testBit ((gD [] ops.toList).getD e.i 0) e1.i=true∨AJ nx e1 e=true)∧
     l.Pairwise λe1 e=>e1.i<e.i∧(Nat.testBit ((gD [] ops.toList).getD e.i 0) e1.i=true∨AJ nx e1 e=true):=λe st1 hei uW P6 HV=>by
   obtain⟨l,stf,k1,k2,k3,k4,k5,k6⟩:=zk0 m (k+1) (e :: rs) st1 (by omega) HV
   have hli:∀e'∈l,k+1≤e'.i:=λe' gX=>by
    have:e'.i∈l.map (·.i):=List.mem_map.2 ⟨e',gX,rfl⟩;rw[k3,List.mem_range']at this;obtain⟨_,_,h⟩:=this;omega
   refine⟨e :: l,stf, .cons P6 k1,k2,by rw[List.map_cons,k3,hei,List.range'_succ],λi o hi hio=>?_,λe' gX e1 pY=>?_,List.pairwise_cons.2 ⟨λe' gX=>⟨?_,?_⟩,k6⟩⟩
   ·rcases Nat.lt_or_eq_of_le hi with h | h
    ·exact k4 i o h hio
    ·subst h;rw[ho]at hio;cases hio;exact O6
   ·rcases List.mem_cons.1 gX with rfl | gX
    ·rw[hei];exact zsb uW e1 pY
    ·exact k5 e' gX e1 (List.mem_cons_of_mem _ pY)
   ·have:=hli e' gX;omega
   ·exact k5 e' gX e (by simp)
  have skip:∀(j:Nat) (want:Bool) (dj:Nat),(ops[k]).guard=some (j,want)→(ops[j]?).bind (·.dst)=some dj→(st.s dj= .tup []∨st.s dj= .bool (!want))→
    (bif rJ ((gD [] ops.toList).getD k 0) nx rs ⟨k,(ops[k]).dst,[dj],[],[]⟩ then UA C (ops[k]).dst st (.tup []) fun st'=>
     BJ C ops (gD [] ops.toList) nx (FF (k+1) (ops.toList.drop (k+1))) (⟨k,(ops[k]).dst,[dj],[],[]⟩ :: rs) st' K else none)=some r→
    ∃l stf,XH C ops nx l st stf∧K stf=some r∧l.map (·.i)=List.range' k (m+1)∧(∀i o,k≤i→ops[i]?=some o→∀e∈o.after,Region.binds .any e=true→e.on<i)∧
     (∀e∈l,∀e1∈rs,Nat.testBit ((gD [] ops.toList).getD e.i 0) e1.i=true∨AJ nx e1 e=true)∧
     l.Pairwise λe1 e=>e1.i<e.i∧(Nat.testBit ((gD [] ops.toList).getD e.i 0) e1.i=true∨AJ nx e1 e=true):=λj want dj hg FZ hv h=>by
   cases uW:rJ ((gD [] ops.toList).getD k 0) nx rs ⟨k,(ops[k]).dst,[dj],[],[]⟩
   case false=>rw[uW]at h;cases h
   simp only[uW,cond_true]at h;rw[RS]at h;obtain⟨st1,h1,h2⟩:=Option.bind_eq_some_iff.1 h;exact more _ st1 rfl uW ⟨_,ho,rfl, .inr ⟨j,want,dj,hg,FZ,by simp, .inr ⟨hv,h1⟩⟩⟩ h2
  split at zV
  ·rename_i hg;cases uW:rJ ((gD [] ops.toList).getD k 0) nx rs ⟨k,(ops[k]).dst,GO ops[k],(OI ops[k] st).1,(OI ops[k] st).2⟩
   case false=>rw[uW]at zV;cases zV
   simp only[uW,VC]at zV;unfold QF at zV;rw[BS]at zV;obtain⟨x,h1,h2⟩:=Option.bind_eq_some_iff.1 zV;exact more _ _ rfl uW ⟨_,ho,rfl, .inl ⟨hg,zf0 h1⟩⟩ h2
  ·rename_i j want hg;split at zV
   ·cases zV
   rename_i dj FZ;split at zV
   ·rename_i hs;exact skip j want dj hg FZ (.inl hs) zV
   ·rename_i t hs
    have DX:({st with s:=zA st.s dj (.bool t)}:St)=st:=by
     have:zA st.s dj (.bool t)=st.s:=by
      funext q
      by_cases hq:q=dj
      ·subst hq;rw[MA,hs]
      ·rw[AA _ _ _ _ hq]
     rw[this]
    by_cases o9:t=want
    ·subst o9
     have zV:(bif rJ ((gD [] ops.toList).getD k 0) nx rs ⟨k,(ops[k]).dst,dj :: GO ops[k],(OI ops[k] {st with s:=zA st.s dj (.bool t)}).1,(OI ops[k] {st with s:=zA st.s dj (.bool t)}).2⟩then
       QF C (nx+128 *k) ops[k] (dj :: GO ops[k]) (OI ops[k] {st with s:=zA st.s dj (.bool t)}).1 (OI ops[k] {st with s:=zA st.s dj (.bool t)}).2 {st with s:=zA st.s dj (.bool t)} λst'=>
        BJ C ops (gD [] ops.toList) nx (FF (k+1) (ops.toList.drop (k+1))) (⟨k,(ops[k]).dst,dj :: GO ops[k],(OI ops[k] {st with s:=zA st.s dj (.bool t)}).1,(OI ops[k] {st with s:=zA st.s dj (.bool t)}).2⟩ :: rs) st' K else none)=some r:=by
      cases t<;>exact zV
     rw[DX]at zV;cases uW:rJ ((gD [] ops.toList).getD k 0) nx rs ⟨k,(ops[k]).dst,dj :: GO ops[k],(OI ops[k] st).1,(OI ops[k] st).2⟩
     case false=>rw[uW]at zV;cases zV
     simp only[uW,cond_true]at zV;unfold QF at zV;rw[BS]at zV;obtain⟨x,h1,h2⟩:=Option.bind_eq_some_iff.1 zV;exact more _ _ rfl uW ⟨_,ho,rfl, .inr ⟨j,t,dj,hg,FZ,by simp, .inl ⟨hs,zf0 h1⟩⟩⟩ h2
    ·have KW:t= !want:=by cases t<;>cases want<;>simp_all
     have zV:(bif rJ ((gD [] ops.toList).getD k 0) nx rs ⟨k,(ops[k]).dst,[dj],[],[]⟩then UA C (ops[k]).dst {st with s:=zA st.s dj (.bool t)} (.tup []) λst'=>
       BJ C ops (gD [] ops.toList) nx (FF (k+1) (ops.toList.drop (k+1))) (⟨k,(ops[k]).dst,[dj],[],[]⟩ :: rs) st' K else none)=some r:=by
      subst KW;cases want<;>exact zV
     rw[DX]at zV;exact skip j want dj hg FZ (.inr (by rw[hs,KW])) zV
   ·cases zV
def zvB(hC:TF C)(hΦ:jG C){id:Nat}{ops:Array Oper}{Q:Exit→Act→World→Prop}{K:St→Option R}{r:R}(hD:∀o∈ops,∀d,o.dst=some d→D d)
  (hr:bB C w0 outer own ρ st a w) (hf:∀q,st.nx≤q→ρ q=none)
  (zV:BJ C ops (gD [] ops.toList) st.nx (FF 0 ops.toList) [] st (λst'=>K {st' with nx:=st.nx+128 *ops.size})=some r)
  (EV:∀st' a' w' ρ',nC C w0 outer own D st ρ st' a' w' ρ'→K st'=some r→Q .normal a' w'):(Code.region id ops true).wp C.P Q a w:=by
 obtain⟨l,stf,k1,k2,k3,k4,k5,k6⟩:=zk0 ops.size 0 [] st (by omega) zV;obtain⟨f1,f2,f3⟩:=k1.frame hD
 have Q6:∀ i,i<ops.size↔∃ e ∈ l,e.i=i:=fun i=>by
  have : i ∈ l.map (·.i) ↔ i < ops.size := by rw [k3, List.mem_range']; constructor
                                              ·rintro⟨_,h,rfl⟩;omega
                                              ·intro h;exact⟨i,h,by omega⟩
  rw[←this,List.mem_map]
 have R6:∀i,i<ops.size→(Array.replicate ops.size false).getD i true=false:=λi hi=>by
  rw[Array.getD_eq_getD_getElem?,Array.getElem?_eq_getElem (by simpa using hi)];simp
 have S6:∀i,(Array.replicate ops.size false).getD i false=false:=λi=>by
  rw[Array.getD_eq_getD_getElem?];cases h:(Array.replicate ops.size false)[i]? with
  | none=>rfl
  | some b=>rw[Array.getElem?_replicate]at h;split at h<;>simp_all
 obtain⟨m1,m2⟩:=hr.heap.world (w':={w with drawn:=w.drawn+1}) ⟨rfl,rfl,rfl,Nat.le_refl _⟩ rfl;have LV:bB C w0 outer own ρ st a {w with drawn:=w.drawn+1}:=⟨m1,λi=>m2 _ _ (hr.slots i),hr.size,hr.defers,hr.glob⟩;refine wp_region_any hC.mixed ?_
 refine zkN hC hΦ (λi o ho=>k4 i o (Nat.zero_le _) ho) D hD ρ (λa' w' ρ' h1 h2 h3=>?_) ops.size l _ st a _ ρ ?_ k1 k6 (by simp) (λi hi=>⟨λ_=>(Q6 i).1 hi,λ_=>R6 i hi⟩) (λe he=>(Q6 e.i).2 ⟨e,he,rfl⟩)
  (λk o hk=>by rw[S6]at hk;cases hk) LV (λe he q hq=>hf _ (by omega)) (λq hq=>hf q (by omega)) (λ_ _ h=>h)
 ·refine EV {stf with nx:=st.nx+128 *ops.size} a' w' ρ' ⟨⟨h1.heap,h1.slots,h1.size,h1.defers,h1.glob⟩,h2,f1,f2,Nat.le_add_right _ _,h3⟩ k2
 ·have:=congrArg List.length k3;simpa using this
end
end Go.D
namespace Go.D
variable [iA]
def JT:Ex→Exit
 | .normal=> .normal
 | .exit id=> .exit id
 | .ret=> .ret
section
variable {C:Cx} {w0:World} {outer own D:Nat→Prop} {R:Type} {st st1 st2:St} {ρ ρ1 ρ2:Nat→Option RI} {a a1 a2:Act} {w w1 w2:World}
def nC.refl(hr:bB C w0 outer own ρ st a w)(hf:∀q,st.nx≤q→ρ q=none):nC C w0 outer own D st ρ st a w ρ:=⟨hr,λ_ _ h=>h,λ_ _=>rfl,bD.refl _ _,Nat.le_refl _,hf⟩
def nC.trans(h:nC C w0 outer own D st ρ st1 a1 w1 ρ1)(k:nC C w0 outer own D st1 ρ1 st2 a2 w2 ρ2):nC C w0 outer own D st ρ st2 a2 w2 ρ2:=⟨k.rel,λq qi hq=>k.ext _ _ (h.ext _ _ hq),λs hs=>(k.slots s hs).trans (h.slots s hs),h.keeps.trans (k.keeps.le h.nx),Nat.le_trans h.nx k.nx,k.fresh⟩
def nC.mono{D':Nat→Prop}(h:nC C w0 outer own D st ρ st1 a1 w1 ρ1)(hd:∀s,D s→D' s):nC C w0 outer own D' st ρ st1 a1 w1 ρ1:=⟨h.rel,h.ext,λs hs=>h.slots s λe=>hs (hd s e),h.keeps,h.nx,h.fresh⟩
omit [iA]in
def zp4{s:Nat}{ids:List Nat}(h:zgX st s=some ids):yJ st.h ids:=by
 unfold zgX at h;cases hb:Nat.ble 1000000 s
 ·simp only[hb,cond_false]at h;split at h
  ·rename_i hf;cases h;exact zbW hf
  ·cases h
 ·simp only[hb,cond_true]at h;split at h
  ·split at h
   ·split at h
    ·rename_i hf;cases h;exact YT hf
    ·cases h
   ·cases h
  ·cases h
def yO:∀(pre:List Nat) (st st1:St),FK pre st=some st1→bB C w0 outer own ρ st a w→bB C w0 outer own ρ st1 a w∧st1.s=st.s∧st1.nx=st.nx∧∀n,bD n st.h st1.h
 | [],st,st1,h,hr=>by simp[FK]at h;subst h;exact⟨hr,rfl,rfl,λn=>bD.refl n _⟩
 | s :: pre,st,st1,h,hr=>by
  simp only[FK]at h;split at h
  case h_2=>cases h
  rename_i ids hf;obtain⟨m1,m2⟩:=hr.heap.mark ids;have LV:bB C w0 outer own ρ {st with h:=sC st.h ids} a w:=hr.turn m1 m2;obtain⟨k1,k2,k3,k4⟩:=yO pre _ st1 h LV;exact⟨k1,k2,k3,λn=>(ZN _ (zp4 hf)).trans (k4 n)⟩
def nC.pre{pre:List Nat}(hp:FK pre st=some st1)(hr:bB C w0 outer own ρ st a w)(h:nC C w0 outer own D st1 ρ st2 a2 w2 ρ2):nC C w0 outer own D st ρ st2 a2 w2 ρ2:=by
 obtain⟨_,k2,k3,k4⟩:=yO pre st st1 hp hr;exact⟨h.rel,h.ext,λs hs=>by rw[h.slots s hs,k2],(k4 _).trans (by rw[←k3];exact h.keeps),by rw[←k3];exact h.nx,h.fresh⟩
def nC.unlock{j:JI}{b:St}(h:nC C w0 outer own D (ZC j b) ρ st1 a1 w1 ρ1):nC C w0 outer own D b ρ (Go.D.unlock b st1) a1 w1 ρ1:=⟨h.rel.unlock b,h.ext,h.slots,zqA h.keeps,h.nx,h.fresh⟩
def nC.install{j:JI}{b:St}{k:ID j.cs→Option R}{r:R}(hb:bB C w0 outer own ρ b a w)(hf:∀q,b.nx≤q→ρ q=none)(h:nC C w0 outer own (λs=>j.has s=true) (ZC j b) ρ st1 a1 w1 ρ1)
  (bX:JS j=true) (he:aH j.cs st1 k=some r):∃x,k x=some r∧∃ρ2,nC C w0 outer own (λs=>j.has s=true) b ρ (Go.D.install j b x) a1 w1 ρ2:=by
 obtain⟨x,h1,ρ2,h2,h3,h4,h5⟩:=zfq hb hf h.rel h.fresh h.nx h.ext (λs hs=>h.slots s (by simp[hs])) h.keeps bX he;refine⟨x,h1,ρ2,h2,h4,λs hs=>pU j b x s (by simpa using hs),h5,?_,h3⟩;simp only[Go.D.install];omega
def zlr(hC:TF C)(hΦ:jG C){id:Nat}{pre:List Nat}{d:Bool}{ops:Array Oper}{Q:Exit→Act→World→Prop}{K:St→Option R}{r:R}(hD:∀o∈ops,∀d,o.dst=some d→D d)
  (hr:bB C w0 outer own ρ st a w) (hf:∀q,st.nx≤q→ρ q=none) (zV:zaC C pre d ops st K=some r)
  (EV:∀st' a' w' ρ',nC C w0 outer own D st ρ st' a' w' ρ'→K st'=some r→Q .normal a' w'):(Code.region id ops d).wp C.P Q a w:=by
 cases d with
 | true=>
  simp only[zaC,VC,zmB]at zV;split at zV
  ·cases zV
  rename_i st0 hp;obtain⟨p1,p2,p3,p4⟩:=yO _ _ _ hp hr;exact zvB hC hΦ hD p1 (by rw[←p3]at hf;exact hf) zV λst' a' w' ρ' h1 h2=>EV st' a' w' ρ' (nC.pre hp hr h1) h2
 | false=>
  simp only[zaC,ZS]at zV;refine wp_region ?_;rw[List.range_eq_range'];refine zgy hC hΦ st.nx hD ops.size 0 st a w ρ (by omega) hr (λq hq=>hf q (by omega)) zV λst' a' w' ρ' h1 h2 h3 h4 h5 h6 h7=>?_;exact EV {st' with nx:=st.nx+128 *ops.size} a' w' ρ' ⟨⟨h1.heap,h1.slots,h1.size,h1.defers,h1.glob⟩,h3,h4,h5,Nat.le_add_right _ _,h2⟩ h7
end
end Go.D
namespace Go.D
variable [iA]
section
variable {C:Cx} {w0:World} {outer own D:Nat→Prop} {R:Type} {st st1 st2:St} {ρ ρ1 ρ2:Nat→Option RI} {a a1 a2:Act} {w w1 w2:World} {j:JI}
omit [iA]in
def zsO(t:TN)(x:El t):∀c∈enc t x,RL c=none:=by
 intro c hc;cases t<;>(simp[enc,zcV,zg5,zf3,zgT,zgG,zgQ,zg3,zgm,zgk,zfU,zgn,zgS,zcj,zfM,zfV,zcL,zfL,zgh,zgw,zfQ,zgP,zgY,zcS,zgi]at hc;rcases hc with rfl|hc<;>(repeat (first|rfl|(rcases hc with rfl|hc))))
omit [iA]in
def ziO(ow:List Nat)(base:Nat):∀(es:List V) (p r:Nat),(∀c∈es,RL c=none)→∀c∈OA ow base p es,RL c=some r→base≤r
 | [],p,r,_,c,hc,_=>by simp[OA]at hc
 | e :: es,p,r,he,c,hc,h=>by
  have ih:=ziO ow base es (p+1) r (λc hc=>he c (by simp[hc]));have h0:=he e (by simp);cases e<;>(simp only[OA,List.mem_cons]at hc;rcases hc with rfl|hc)<;>first|exact ih c hc h|(rw[h0]at h;cases h)|skip
  cases hb:ow.any (Nat.beq p)
  ·simp[hb,RL]at h
  ·simp[hb,RL]at h;omega
def zmg(sl:Nat→V)(cs:List dC)(id:Nat)(h:Nat→Option rA)(q:Nat)(row:rA):Prop:=h q=some row∨(id≤q∧∃t l,row.c= .arr t l)∨(∃s t ow es, .box s t ow∈cs∧sl s= .bp q 0∧row=⟨.box es, .own⟩∧∀c∈es,∀r,RL c=some r→id≤r)
omit [iA]in
def zfi(sl:Nat→V):∀(cs:List dC) (id:Nat) (x:ID cs) (h:Nat→Option rA) (q:Nat) (row:rA),gP sl cs id x h q=some row→zmg sl cs id h q row:=by
 have one:∀(c:dC) (id:Nat) (x:c.T) (h:Nat→Option rA) (q:Nat) (row:rA),DK sl c id x h q=some row→zmg sl [c] id h q row:=by
  intro c id x h q row hq;cases c with
  | drop s=>exact .inl hq
  | slot s ty=>exact .inl hq
  | own s t=>
   simp only[DK]at hq
   by_cases v4:q=id
   ·subst v4;rw[MA]at hq;cases hq;exact .inr (.inl ⟨Nat.le_refl _,_,_,rfl⟩)
   ·rw[AA _ _ _ _ v4]at hq;exact .inl hq
  | box s t ow=>
   simp only[DK]at hq;generalize hs:sl s=v at hq;cases v with
   | bp r off=>
    cases off with
    | zero=>
     simp only at hq
     by_cases VV:q=r
     ·subst VV;rw[MA]at hq;cases hq;exact .inr (.inr ⟨s,t,ow,_,by simp,hs,rfl,λc hc r hr=>ziO ow id _ 0 r (zsO t x) c hc hr⟩)
     ·rw[AA _ _ _ _ VV,BB]at hq;split at hq
      ·rename_i y hy;cases hq;obtain⟨_,_,he,h1,h2⟩:=SD _ _ _ _ _ _ hy;exact .inr (.inl ⟨by omega,_,_,congrArg rA.c he⟩)
      ·exact .inl hq
    | succ n=>exact .inl hq
   | _=>exact .inl hq
 intro cs;induction cs with
 | nil=>intro id x h q row hq;exact .inl hq
 | cons c cs ih=>
  intro id x h q row hq;cases cs with
  | nil=>exact one c id x h q row hq
  | cons d r=>
   rcases one c id x.1 _ q row hq with h1|h1|⟨s,t,ow,es,h1,h2,h3,h4⟩
   ·rcases ih (id+128) x.2 h q row h1 with h2 | ⟨h2,h3⟩ | ⟨s,t,ow,es,h3,h4,h5,h6⟩
    ·exact .inl h2
    ·exact .inr (.inl ⟨by omega,h3⟩)
    ·exact .inr (.inr ⟨s,t,ow,es,List.mem_cons_of_mem _ h3,h4,h5,λc hc r hr=>by have:=h6 c hc r hr;omega⟩)
   ·exact .inr (.inl h1)
   ·exact .inr (.inr ⟨s,t,ow,es,by simp at h1;simp[h1],h2,h3,h4⟩)
omit [iA]in
def zuU(f:Nat→V)(s:Nat)(t:TN):∀(cs:List dC) (id:Nat) (x:ID cs),nI cs=true→ .own s t∈cs→∃r,YG cs id x f s= .ow r∧id≤r:=by
 intro cs;induction cs with
 | nil=>intro id x _ h;simp at h
 | cons c cs ih=>
  intro id x hn hm
  have key:∀(y:c.T) (g:Nat→V),c= .own s t→∃r,HI c id y g s= .ow r∧id≤r:=by
   intro y g hc;subst hc;exact⟨id,MA _ _ _,Nat.le_refl _⟩
  rcases List.mem_cons.1 hm with he|hm
  ·cases cs with
   | nil=>exact key x f he.symm
   | cons d r=>exact key x.1 _ he.symm
  ·cases cs with
   | nil=>simp at hm
   | cons d r=>
    have K4:nI (d :: r)=true∧∀y g,HI c id y g s=g s:=by
     have hs:fE (d :: r) s=true:=by
      clear ih;generalize d :: r=l at hm;induction l with
      | nil=>simp at hm
      | cons e l ih=>
       rcases List.mem_cons.1 hm with h|h
       ·subst h;simp[fE]
       ·cases e<;>simp[fE,ih h]
     cases c with
     | slot s' ty=>
      simp only[nI,Bool.and_eq_true,Bool.not_eq_true']at hn;refine⟨hn.2,λy g=>AA _ _ _ _ ?_⟩;rintro rfl;rw[hs]at hn;exact absurd hn.1 (by simp)
     | own s' ty=>
      simp only[nI,Bool.and_eq_true,Bool.not_eq_true']at hn;refine⟨hn.2,λy g=>AA _ _ _ _ ?_⟩;rintro rfl;rw[hs]at hn;exact absurd hn.1 (by simp)
     | box s' ty ow=>exact⟨hn,λy g=>rfl⟩
     | drop s'=>exact⟨hn,λy g=>rfl⟩
    obtain⟨q,h1,h2⟩:=ih (id+128) x.2 K4.1 hm;exact⟨q,by simp only[YG];rw[K4.2];exact h1,by omega⟩
omit [iA]in
def znX{b:St}{x:ID j.cs}(bX:JS j=true)(hn:nI j.cs=true)(hk:bD b.nx b.h (install j b x).h):
  bD b.nx (ZC j b).h (ZC j (install j b x)).h:=by
 intro q row hq hr hm;simp only[ZC]at hr;split at hr
 ·rename_i c hc;cases hi:OL j.cs b q
  case true=>simp only[hi,cond_true,Option.some.injEq]at hr;subst hr;cases hm
  simp only[hi,cond_false,Option.some.injEq]at hr;subst hr
  have T6:∀s t ow,dC.box s t ow∈j.cs→(install j b x).s s=b.s s:=λs t ow hm=>pU j b x s (by
   have:=List.all_eq_true.1 bX _ hm;simpa using this)
  have hdr:∀s,dC.drop s∈j.cs→(install j b x).s s=b.s s:=λs hm=>pU j b x s (by
   have:=List.all_eq_true.1 bX _ hm;simpa using this)
  have HW:∀c∈j.cs,qJ b q c=false:=λc hc=>by
   have h0:(j.cs.any (qJ b q))=false:=hi;cases h1:qJ b q c with
   | false=>rfl
   | true=>rw[List.any_eq_true.2 ⟨c,hc,h1⟩]at h0;cases h0
  have Z8:∀s t ow,dC.box s t ow∈j.cs→b.s s≠ .bp q 0:=λs t ow hm h=>by
   have:=HW _ hm;simp[qJ,h]at this
  have U4:∀s,dC.drop s∈j.cs→b.s s≠ .bp q 0:=λs hm h=>by
   have:=HW _ hm;simp[qJ,h]at this
  have HV:WH j b q=some ⟨c, .own⟩:=by simp[WH,hc,hi]
  have h1:(install j b x).h q=some ⟨c, .own⟩:=by
   obtain⟨row',h2⟩:=zj9 b.s j.cs b.nx x _ q _ HV
   rcases zfi b.s j.cs b.nx x _ q _ h2 with h3|⟨h3,_⟩|⟨s,t,ow,es,h3,h4,_⟩
   ·rw[HV]at h3;cases h3;exact h2
   ·omega
   ·exact absurd h4 (Z8 s t ow h3)
  have h2:OL j.cs (install j b x) q=false:=by
   cases h3:OL j.cs (install j b x) q with
   | false=>rfl
   | true=>
    exfalso;obtain⟨cm,h4,h5⟩:=List.any_eq_true.1 h3;cases cm with
    | slot s ty=>cases h5
    | own s t=>
     obtain⟨r,h6,h7⟩:=zuU (λi=>bif TO j.kill i then .undef else b.s i) s t j.cs b.nx x hn h4;have h8:(install j b x).s s= .ow r:=h6;simp only[qJ,h8,RL]at h5;have:=Nat.eq_of_beq_eq_true h5;omega
    | box s t ow=>
     have h6:=T6 s t ow h4;simp only[qJ,h6]at h5;split at h5
     ·rename_i bb I4;simp only[Bool.or_eq_true]at h5
      rcases h5 with h5|h5
      ·have:=Nat.eq_of_beq_eq_true h5;subst this;exact Z8 s t ow h4 I4
      ·split at h5
       ·rename_i cs m K6;obtain⟨cc,h7,h8⟩:=List.any_eq_true.1 h5;split at h8
        ·rename_i r' NX;have:=Nat.eq_of_beq_eq_true h8;subst this
         rcases zfi b.s j.cs b.nx x _ bb _ K6 with h9|⟨_,_,_,h9⟩|⟨s',t',ow',es,_,_,h9,gW⟩
         ·have rW:∃m',b.h bb=some ⟨.box cs,m'⟩:=by
           unfold WH at h9;split at h9
           ·rename_i c' mZ;cases ZV:OL j.cs b bb
            ·simp only[ZV,cond_false,Option.some.injEq]at h9;cases h9;exact⟨_,mZ⟩
            ·simp[ZV]at h9
           ·exact⟨_,h9⟩
          obtain⟨m',rW⟩:=rW;have FW:=HW _ h4;simp only[qJ,I4,rW,Bool.or_eq_false_iff]at FW;have XW:=List.any_eq_false.1 FW.2 cc h7;rw[NX]at XW;exact XW h8
         ·cases h9
         ·cases h9;have:=gW cc h7 _ NX;omega
        ·cases h8
       ·cases h5
     ·cases h5
    | drop s=>
     have h6:=hdr s h4;simp only[qJ,h6]at h5;split at h5
     ·rename_i bb I4;simp only[Bool.or_eq_true]at h5
      rcases h5 with h5|h5
      ·have:=Nat.eq_of_beq_eq_true h5;subst this;exact U4 s h4 I4
      ·split at h5
       ·rename_i cs m K6;obtain⟨cc,h7,h8⟩:=List.any_eq_true.1 h5;split at h8
        ·rename_i r' NX;have:=Nat.eq_of_beq_eq_true h8;subst this
         rcases zfi b.s j.cs b.nx x _ bb _ K6 with h9|⟨_,_,_,h9⟩|⟨s',t',ow',es,_,_,h9,gW⟩
         ·have rW:∃m',b.h bb=some ⟨.box cs,m'⟩:=by
           unfold WH at h9;split at h9
           ·rename_i c' mZ;cases ZV:OL j.cs b bb
            ·simp only[ZV,cond_false,Option.some.injEq]at h9;cases h9;exact⟨_,mZ⟩
            ·simp[ZV]at h9
           ·exact⟨_,h9⟩
          obtain⟨m',rW⟩:=rW;have FW:=HW _ h4;simp only[qJ,I4,rW,Bool.or_eq_false_iff]at FW;have XW:=List.any_eq_false.1 FW.2 cc h7;rw[NX]at XW;exact XW h8
         ·cases h9
         ·cases h9;have:=gW cc h7 _ NX;omega
        ·cases h8
       ·cases h5
     ·cases h5
  simp only[ZC,h1,h2,cond_false]
 ·have h1:=hk q row hq hr hm;simp only[ZC,h1];obtain⟨c,m⟩:=row;cases m with
  | own=>cases hm
  | ro=>rfl
  | lock=>rfl
def nC.round{b:St}{x:ID j.cs}{k:ID j.cs→Option R}{r:R}(hb:bB C w0 outer own ρ b a w)(hf:∀q,b.nx≤q→ρ q=none)
  (h0:nC C w0 outer own (λs=>j.has s=true) b ρ (Go.D.install j b x) a1 w1 ρ1)
  (h:nC C w0 outer own (λs=>j.has s=true) (ZC j (Go.D.install j b x)) ρ1 st2 a2 w2 ρ2)
  (bX:JS j=true) (hn:nI j.cs=true) (he:aH j.cs st2 k=some r):∃y,k y=some r∧∃ρ3,nC C w0 outer own (λs=>j.has s=true) b ρ (Go.D.install j b y) a2 w2 ρ3:=by
 have N5:b.nx≤st2.nx:=Nat.le_trans h0.nx h.nx
 obtain⟨y,h1,ρ3,h2,h3,h4,h5⟩:=zfq (ρ':=ρ2) hb hf h.rel h.fresh N5 (λq qi hq=>h.ext _ _ (h0.ext _ _ hq)) (λs hs=>by
   have U6:¬(j.has s=true):=by simp[hs]
   have e1:=h.slots s U6;have e2:=h0.slots s U6;exact e1.trans e2)
  ((znX bX hn h0.keeps).trans (h.keeps.le h0.nx)) bX he
 refine⟨y,h1,ρ3,h2,h4,λs hs=>pU j b y s (by simpa using hs),h5,?_,h3⟩;simp only[Go.D.install];omega
def zlF{an:An}{c:Code}{b:St}{K:Ex→St→Option R}{r:R}{Q:Exit→Act→World→Prop}(hb:bB C w0 outer own ρ b a w)(hf:∀q,b.nx≤q→ρ q=none)
  (bX:JS j=true) (hn:nI j.cs=true)
  (body:∀ (st:St) (a:Act) (w:World) (ρ:Nat→Option RI) (K:Ex→St→Option R) (Q:Exit→Act→World→Prop),bB C w0 outer own ρ st a w→(∀ q,st.nx≤q→ρ q=none)→TE C an c st K=some r→
   (∀e st' a' w' ρ',nC C w0 outer own (λs=>j.has s=true) st ρ st' a' w' ρ'→K e st'=some r→Q (JT e) a' w')→c.wp C.P Q a w)
  (EV:∀e st' a' w' ρ',nC C w0 outer own (λs=>j.has s=true) b ρ st' a' w' ρ'→K e st'=some r→Q (JT e) a' w'):
  ∀(n:Nat) (x:ID j.cs) (a1:Act) (w1:World) (ρ1:Nat→Option RI),nC C w0 outer own (λs=>j.has s=true) b ρ (Go.D.install j b x) a1 w1 ρ1→
   uA n (λ(x : ID j.cs) (k : ID j.cs→Option R) => TE C an c (ZC j (Go.D.install j b x)) λe st' => match e with
        | .normal=>aH j.cs st' k
        | e=>K e (Go.D.unlock (Go.D.install j b x) st')) x=some r→Code.rounds C.P c Q n a1 w1
 | 0,x,a1,w1,ρ1,h0,h=>by simp[uA]at h
 | n+1,x,a1,w1,ρ1,h0,h=>by
  rw[rounds_succ];simp only[uA]at h;refine body _ a1 w1 ρ1 _ _ (h0.rel.lock j) h0.fresh h λe st' a' w' ρ' hg hk=>?_;cases e with
  | normal=>
   obtain⟨y,k1,ρ3,k2⟩:=h0.round hb hf hg bX hn hk;exact zlF hb hf bX hn body EV n y a' w' ρ3 k2 k1
  | exit id=>exact EV (.exit id) _ a' w' ρ' (h0.trans hg.unlock) hk
  | ret=>exact EV .ret _ a' w' ρ' (h0.trans hg.unlock) hk
def zll(hC:TF C)(hΦ:jG C)(an:An):∀(c:Code) (D:Nat→Prop),GI an D c→∀(st:St) (a:Act) (w:World) (ρ:Nat→Option RI) (K:Ex→St→Option R) (r:R) (Q:Exit→Act→World→Prop),
  bB C w0 outer own ρ st a w→(∀q,st.nx≤q→ρ q=none)→TE C an c st K=some r→
  (∀e st' a' w' ρ',nC C w0 outer own D st ρ st' a' w' ρ'→K e st'=some r→Q (JT e) a' w')→c.wp C.P Q a w:=by
 intro c;induction c with
 | skip=>
  intro D hT st a w ρ K r Q hr hf zV EV;exact wp_skip (EV .normal st a w ρ (nC.refl hr hf) zV)
 | region id ops d=>
  intro D hT st a w ρ K r Q hr hf zV EV;simp only[TE]at zV;split at zV
  ·exact zlr hC hΦ hT.1 hr hf zV λst' a' w' ρ' h1 h2=>EV .normal st' a' w' ρ' h1 h2
  ·rename_i j hj;split at zV
   ·cases zV
   rename_i st0 hp;obtain⟨p1,p2,p3,p4⟩:=yO _ _ _ hp hr;cases UW:kH an j (.region id ops d)
   case false=>simp[UW]at zV
   simp only[UW,VC,aA]at zV;simp only[kH,Bool.and_eq_true]at UW;have hw:=gH an j _ UW.1.1;refine zlr (D:=λs=>j.has s=true) hC hΦ hw.1 (p1.lock j) (by rw[←p3]at hf;exact hf) zV λst' a' w' ρ' h1 h2=>?_;obtain⟨x,k1,ρ2,k2⟩:=nC.install p1 (by rw[←p3]at hf;exact hf) h1 UW.1.2 h2;have hD:∀s,j.has s=true→D s:=by have:=hT.2;rw[hj]at this;exact this
   exact EV .normal _ a' w' ρ2 (nC.pre hp hr (k2.mono hD)) k1
 | seq x y ihx ihy=>
  intro D hT st a w ρ K r Q hr hf zV EV;simp only[TE]at zV;refine wp_seq (ihx D hT.1 st a w ρ _ r _ hr hf zV λe st' a' w' ρ' h1 h2=>?_);cases e with
  | normal=>exact ihy D hT.2 st' a' w' ρ' _ r _ h1.rel h1.fresh h2 λe st2 a2 w2 ρ2 h3 h4=>EV e st2 a2 w2 ρ2 (h1.trans h3) h4
  | exit id=>exact EV (.exit id) st' a' w' ρ' h1 h2
  | ret=>exact EV .ret st' a' w' ρ' h1 h2
 | cond c x y ihx ihy=>
  intro D hT st a w ρ K r Q hr hf zV EV;cases c with
  | tmp t=>
   simp only[TE]at zV;split at zV
   case h_2=>cases zV
   rename_i b hb;have hv:=hr.slots t;rw[hb]at hv
   have hc:a.eval (.tmp t)= .bool b:=by
    show a.tmps.getD t undef=_
    generalize a.tmps.getD t undef=v at hv;cases hv;rfl
   refine wp_cond hc ?_;split at zV
   ·cases b with
    | true=>exact ihx D hT.1 st a w ρ K r Q hr hf zV EV
    | false=>exact ihy D hT.2.1 st a w ρ K r Q hr hf zV EV
   ·rename_i j hj;split at zV
    ·cases zV
    rename_i st0 hp;obtain⟨p1,p2,p3,p4⟩:=yO _ _ _ hp hr;cases UW:kH an j x&&kH an j y
    case false=>simp[UW]at zV
    simp only[UW,VC,aA]at zV;simp only[kH,Bool.and_eq_true]at UW;have hD:∀s,j.has s=true→D s:=by have:=hT.2.2;rw[hj]at this;exact this
    have H0:∀q,st0.nx≤q→ρ q=none:=by rw[←p3]at hf;exact hf
    have fin:∀(e:Ex) (st':St) (a':Act) (w':World) (ρ':Nat→Option RI),nC C w0 outer own (λs=>j.has s=true) (ZC j st0) ρ st' a' w' ρ'→
      (match e with
       | .normal=>aH j.cs st' λy=>K .normal (Go.D.install j st0 y)
       | e=>K e (Go.D.unlock st0 st'))=some r→Q (JT e) a' w':=by
     intro e st' a' w' ρ' h1 h2;cases e with
     | normal=>
      obtain⟨x,k1,ρ2,k2⟩:=nC.install p1 H0 h1 UW.1.1.2 h2;exact EV .normal _ a' w' ρ2 (nC.pre hp hr (k2.mono hD)) k1
     | exit id=>exact EV (.exit id) _ a' w' ρ' (nC.pre hp hr (h1.unlock.mono hD)) h2
     | ret=>exact EV .ret _ a' w' ρ' (nC.pre hp hr (h1.unlock.mono hD)) h2
    cases b with
    | true=>exact ihx _ (gH an j _ UW.1.1.1) (ZC j st0) a w ρ _ r Q (p1.lock j) H0 zV fin
    | false=>exact ihy _ (gH an j _ UW.2.1.1) (ZC j st0) a w ρ _ r Q (p1.lock j) H0 zV fin
  | _=>simp[TE]at zV
 | block id x ih=>
  intro D hT st a w ρ K r Q hr hf zV EV;refine wp_block ?_;simp only[TE]at zV;split at zV
  ·refine ih D hT.1 st a w ρ _ r _ hr hf zV λe st' a' w' ρ' h1 h2=>?_;cases e with
   | normal=>exact EV .normal st' a' w' ρ' h1 h2
   | ret=>exact EV .ret st' a' w' ρ' h1 h2
   | exit id'=>
    simp only[JT,Exit.inBlock];simp only at h2;cases hb:Nat.beq id' id
    ·have sY:¬id'=id:=λe=>by subst e;simp at hb
     rw[if_neg sY];rw[hb]at h2;exact EV (.exit id') st' a' w' ρ' h1 h2
    ·have sY:=Nat.eq_of_beq_eq_true hb;rw[if_pos sY];rw[hb]at h2;exact EV .normal st' a' w' ρ' h1 h2
  ·rename_i j hj;split at zV
   ·cases zV
   rename_i st0 hp;obtain⟨p1,p2,p3,p4⟩:=yO _ _ _ hp hr;cases UW:kH an j x
   case false=>simp[UW]at zV
   simp only[UW,VC,aA]at zV;simp only[kH,Bool.and_eq_true]at UW;have hD:∀s,j.has s=true→D s:=by have:=hT.2;rw[hj]at this;exact this
   have H0:∀q,st0.nx≤q→ρ q=none:=by rw[←p3]at hf;exact hf
   refine ih _ (gH an j _ UW.1.1) (ZC j st0) a w ρ _ r _ (p1.lock j) H0 zV λe st' a' w' ρ' h1 h2=>?_;cases e with
   | normal=>
    obtain⟨x,k1,ρ2,k2⟩:=nC.install p1 H0 h1 UW.1.2 h2;exact EV .normal _ a' w' ρ2 (nC.pre hp hr (k2.mono hD)) k1
   | ret=>exact EV .ret _ a' w' ρ' (nC.pre hp hr (h1.unlock.mono hD)) h2
   | exit id'=>
    simp only[JT,Exit.inBlock];simp only at h2;cases hb:Nat.beq id' id
    ·have sY:¬id'=id:=λe=>by subst e;simp at hb
     rw[if_neg sY];rw[hb]at h2;exact EV (.exit id') _ a' w' ρ' (nC.pre hp hr (h1.unlock.mono hD)) h2
    ·have sY:=Nat.eq_of_beq_eq_true hb;rw[if_pos sY];rw[hb]at h2;obtain⟨x,k1,ρ2,k2⟩:=nC.install p1 H0 h1 UW.1.2 h2;exact EV .normal _ a' w' ρ2 (nC.pre hp hr (k2.mono hD)) k1
 | loop x ih=>
  intro D hT st a w ρ K r Q hr hf zV EV;simp only[TE]at zV;split at zV
  ·cases zV
  rename_i rid hrid;split at zV
  ·cases zV
  rename_i j hj;split at zV
  ·cases zV
  rename_i st0 hp;obtain⟨p1,p2,p3,p4⟩:=yO _ _ _ hp hr;cases UW:kH an j x
  case false=>simp[UW]at zV
  simp only[UW,VC]at zV;simp only[kH,Bool.and_eq_true]at UW;have hD:∀s,j.has s=true→D s:=by have:=hT.2;simp only[hrid,hj]at this;exact this
  have H0:∀q,st0.nx≤q→ρ q=none:=by rw[←p3]at hf;exact hf
  obtain⟨x0,h1,ρ2,h2,h3,h4,h5⟩:=zfq (b:=st0) (st':=ZC j st0) p1 H0 (p1.lock j) H0 (Nat.le_refl _) (λ_ _ h=>h) (λ_ _=>rfl) (bD.refl _ _) UW.1.2 zV
  refine wp_loop_rounds FU (zlF (j:=j) p1 H0 UW.1.2 UW.2 (λst a w ρ K Q hr hf zV EV=>ih _ (gH an j _ UW.1.1) st a w ρ K r Q hr hf zV EV)
    (λe st' a' w' ρ' hg hk=>EV e st' a' w' ρ' (nC.pre hp hr (hg.mono hD)) hk) FU x0 a w ρ2 ⟨h2,h4,λs hs=>pU j st0 x0 s (by simpa using hs),h5,?_,h3⟩ h1)
  simp only[Go.D.install];omega
 | exit id=>
  intro D hT st a w ρ K r Q hr hf zV EV;exact wp_exit (EV (.exit id) st a w ρ (nC.refl hr hf) zV)
 | ret=>
  intro D hT st a w ρ K r Q hr hf zV EV;exact wp_ret (EV .ret st a w ρ (nC.refl hr hf) zV)
 | _=>
  intro D hT st a w ρ K r Q hr hf zV EV;simp[TE]at zV
end
end Go.D

/-
 Regions that draw their order: one run in the order of the text serves every order.
-/
import Derived.Test.YtdmiplkjdpcbeaaGreatL5
import Derived.Orders
import Derived.LoopN
namespace Go.D
variable [fA]
section
variable {C:Cx} {w0:World} {outer own D:Nat→Prop} {R:Type} {st st' st1 st2:St} {ρ ρ1 ρ2:Nat→Option RI} {a a1 a2:Act} {w w1 w2:World}
omit [fA] in
theorem HH {r:Nat} {l:List Nat}:YC r l=true↔r ∈ l:=by
 unfold YC
 rw [List.any_eq_true]
 constructor
 ·rintro ⟨x,h1,h2⟩;rw [Nat.eq_of_beq_eq_true h2];exact h1
 ·intro h;exact ⟨r,h,by simp⟩
omit [fA] in
theorem wI {r:Nat} {l:List Nat}:YC r l=false↔r ∉ l:=by
 rw [← HH];cases YC r l <;> simp
omit [fA] in
theorem ze4 {b r:Nat}:KF b r=true↔b≤r∧r<b+128:=by
 simp only [KF,Bool.and_eq_true,Nat.ble_eq,Nat.blt_eq]
omit [fA] in
theorem rI {b r:Nat}:KF b r=false↔¬ (b≤r∧r<b+128):=by
 rw [← ze4];cases KF b r <;> simp
omit [fA] in
theorem zpy {P:Program} {o:Oper} {post:Act→World→Prop} (h:OB P o a w post) (hd:∀ a' w',post a' w'→a'.defers=[]):
  OB P o a w fun a' w'=>post a' w'∧∃ v,a'=a.put o.dst v:=by
 intro next Q hn
 have h0:=h post Q fun _ _ h=>h
 unfold Oper.wp at *
 generalize (execOp a.eval o).run P w=x at *
 have put:∀ v w',post (a.put o.dst v) w'→next (a.put o.dst v) w':=fun v w' hp=>hn _ _ ⟨hp,v,rfl⟩
 cases x with
 | ok n w'=>
  have nodef:∀ d w',post ({ a with defers:=d :: a.defers }.put o.dst undef) w'→False:=fun d w' hp=>by
   have:=hd _ _ hp
   revert this
   cases o.dst <;> simp [Act.put]
  cases n <;> simp only [Oper.upon] at h0 ⊢ <;> first
   | exact put _ _ h0
   | exact Calls.mono' h0 fun e w'' he=>by cases e <;> first | exact put _ _ he | exact he
   | exact h0.mono fun _ _ he=>put _ _ he
   | exact (nodef _ _ h0).elim
   | exact h0
 | halt x w'=>cases x <;> simp only [Oper.upon] at h0 ⊢ <;> exact h0
def cK (st st':St):Prop:=∀ r row,st'.h r=some row→(∃ row0,st.h r=some row0)∨row.m.isOwn=true
omit [fA] in
theorem IH {dst:Option Nat} {h':Nat→Option nA} (hk:∀ r row,h' r=some row→(∃ row0,st.h r=some row0)∨row.m.isOwn=true) (v:V):WB (cK st) (MA C dst { st with h:=h' } v some):=by
 intro st' h
 cases dst with
 | none=>simp [MA] at h;subst h;exact hk
 | some d=>
  simp only [MA] at h
  cases hb:Nat.blt d C.nt <;> simp [hb] at h
  subst h;exact hk
omit [fA] in
theorem zro {dst:Option Nat} (v:V):WB (cK st) (MA C dst st v some):=IH (fun _ row h=> .inl ⟨row,h⟩) v
omit [fA] in
theorem iS {h h':Nat→Option nA} (hk:∀ r row,h' r=some row→(∃ row0,h r=some row0)∨row.m.isOwn=true) (i:Nat) (c:nD):
  ∀ r row,uA h' i (some ⟨c, .own⟩) r=some row→(∃ row0,h r=some row0)∨row.m.isOwn=true:=fun r row hr=>by
 by_cases hi:r=i
 ·subst hi;rw [IA] at hr;cases hr;exact .inr rfl
 ·rw [vA _ _ _ _ hi] at hr;exact hk r row hr
omit [fA] in
theorem zbr (h:Nat→Option nA) (ids:List Nat):∀ r row,IB h ids r=some row→(∃ row0,h r=some row0)∨row.m.isOwn=true:=fun r row hr=>by
 obtain ⟨row',h1,_⟩:=VN h ids r row hr;exact .inl ⟨row',h1⟩
omit [fA] in
theorem zrm (h:Nat→Option nA) (r:Option Nat):∀ q row,wJ h r q=some row→(∃ row0,h q=some row0)∨row.m.isOwn=true:=fun q row hq=>by
 cases r with
 | none=>exact .inl ⟨row,hq⟩
 | some r=>obtain ⟨row',h1,_⟩:=SN h r q row hq;exact .inl ⟨row',h1⟩
omit [fA] in
theorem zrl (h:Nat→Option nA) (r:Nat):∀ q row,uA h r none q=some row→(∃ row0,h q=some row0)∨row.m.isOwn=true:=fun q row hq=>by
 by_cases hi:q=r
 ·subst hi;rw [IA] at hq;cases hq
 ·rw [vA _ _ _ _ hi] at hq;exact .inl ⟨row,hq⟩
omit [fA] in
theorem zfy {dst:Option Nat} {h':Nat→Option nA} (hk:∀ r row,h' r=some row→(∃ row0,st.h r=some row0)∨row.m.isOwn=true) (i:Nat) (c:nD) (v:V):
  WB (cK st) (rD C dst { st with h:=h' } i c v some):=IH (iS hk i c) v
omit [fA] in
theorem zrn {dst:Option Nat} (i:Nat) (c:nD) (v:V):WB (cK st) (rD C dst st i c v some):=IH (iS (fun _ row h=> .inl ⟨row,h⟩) i c) v
omit [fA] in
theorem zrk {dst:Option Nat} (i f:Nat) (as:List V):WB (cK st) (KG C i dst st f as some):=by
 unfold KG
 split
 ·exact oD
 rename_i ci _
 split
 ·split
  ·exact oD
  rename_i as' h' bs v1
  refine eK _ fun x _=>dK _ fun r _=>DG _ fun QV=>IH ?_ _
  simp only [Bool.and_eq_true] at QV
  intro q row hq
  rw [oJ] at hq
  split at hq
  ·rename_i y hy
   cases hq
   rw [zaY (Nat.le_of_ble_eq_true QV.1) hy];exact .inr rfl
  ·exact .inl ⟨row,hq⟩
 rename_i as' h' bs v1
 refine eK _ fun x _=>dK _ fun r _=>DG _ fun QV=>IH ?_ _
 intro q row hq
 have QV:=Nat.le_of_ble_eq_true QV
 rw [oJ] at hq
 split at hq
 ·rename_i y hy
  cases hq
  rw [zaY QV hy];exact .inr rfl
 ·rcases zhf hq with hq | hq
  ·exact .inl ⟨row,hq⟩
  ·obtain ⟨row',h1,_⟩:=wP _ _ _ _ v1 q row hq
   exact .inl ⟨row',h1⟩
omit [fA] in
theorem zuL {i:Nat} (o:Oper):WB (cK st) (bB C i o st some):=by
 unfold bB
 repeat' first
  | exact oD
  | exact zro _
  | exact zrn _ _ _
  | exact zrk _ _ _
  | exact IH (zbr _ _) _
  | exact IH (zrl _ _) _
  | exact zfy (zbr _ _) _ _ _
  | exact zfy (zrm _ _) _ _ _
  | exact IH (iS (fun _ row h=> .inl ⟨row,h⟩) _ _) _
  | exact IH (iS (zbr _ _) _ _) _
  | refine zcu (fun _=>?_) _ _ _ _
  | refine zcs (fun _=>?_) _ _ _
  | refine pV (fun _=>?_) _ _ _
  | refine zct (fun _=>?_) _ _ _ _ _ _
  | refine fK _ (fun _=>?_)
  | refine gK _ (fun _=>?_)
  | refine DG _ (fun _=>?_)
  | refine zcw _ (fun _=>?_)
  | refine eK _ (fun _ _=>?_)
  | refine dK _ (fun _ _=>?_)
  | split
omit [fA] in
theorem zfl {x:Option nA} {row':nA} (h:UN x=some row'):∃ row,x=some row∧row.c=row'.c∧row.m.isRo=row'.m.isRo∧row'.m.isOwn=false:=by
 cases x with
 | none=>cases h
 | some row=>
  obtain ⟨c,m⟩:=row
  cases m <;> (simp only [UN,Option.some.injEq] at h;subst h;exact ⟨_,rfl,rfl,rfl,rfl⟩)
theorem zuM (hr:RA C w0 outer own ρ st a w) (hC:yD C) (hΦ:RD C) (HY:∃ N,∀ r,N≤r→ρ r=none) {b:Nat} (dX:∀ q,q<128→ρ (b+q)=none) {o:Oper} {ls rd wr:List Nat}
  (hk:MD C b o ls rd wr st some=some st2):OB C.P o a w (KB C w0 outer own b ρ st2):=by
 unfold MD at hk
 rw [CM] at hk
 obtain ⟨st',hs,h2⟩:=Option.bind_eq_some_iff.1 hk
 have h2:=Option.some.inj h2
 let N:Nat→Prop:=fun r=>r ∈ wr∨r ∈ rd
 let own':Nat→Prop:=fun c=>∃ r row ri,N r∧st.h r=some row∧row.m.isRo=false∧ρ r=some ri∧ri.nl=false∧ri.b=c
 let outer':Nat→Prop:=fun c=>outer c∨∃ r row ri,¬ N r∧st.h r=some row∧row.m.isRo=false∧ρ r=some ri∧ri.nl=false∧ri.b=c
 have S1:∀ r row',eE rd wr st.h r=some row'→N r∧∃ row,st.h r=some row∧row.c=row'.c∧row.m.isRo=row'.m.isRo:=fun r row' h=>by
  simp only [eE] at h
  cases hw:YC r wr
  ·simp only [hw,cond_false] at h
   cases hd:YC r rd
   ·simp [hd] at h
   ·simp only [hd,cond_true] at h
    obtain ⟨row,h1,h2,h3,_⟩:=zfl h
    exact ⟨.inr (HH.1 hd),row,h1,h2,h3⟩
  ·simp only [hw,cond_true] at h
   exact ⟨.inl (HH.1 hw),row',h,rfl,rfl⟩
 have fY:∀ c,mA outer' ρ (eE rd wr st.h) c→mA outer ρ st.h c:=by
  rintro c ((h | ⟨r,row,ri,e1,e2,e3,e4⟩) | ⟨r,row',ri,e1,e2,e3,e4⟩)
  ·exact .inl h
  ·exact .inr ⟨r,row,ri,e2,e3,e4⟩
  ·obtain ⟨_,row,f1,f2,f3⟩:=S1 r row' e1
   exact .inr ⟨r,row,ri,f1,by rw [f3];exact e2,e3,e4⟩
 have wZ:∀ c,own' c→c<w.heap.size∧(w0.heap.size≤c∨own c):=by
  rintro c ⟨r,row,ri,e1,e2,e3,e4,e5,rfl⟩
  obtain ⟨ri',f1,_,f2⟩:=hr.heap.rows r row e2
  rw [e4] at f1;cases f1
  exact ⟨(f2 e5).2,(f2 e5).1.2 e3⟩
 have U9:∀ c,outer' c→c<w.heap.size∧¬ own' c:=by
  rintro c (h | ⟨r,row,ri,e1,e2,e3,e4,e5,rfl⟩)
  ·obtain ⟨g1,g2⟩:=hr.heap.outLt c h
   refine ⟨Nat.lt_of_lt_of_le g1 hr.heap.wx.size,fun ho=>?_⟩
   rcases (wZ c ho).2 with h3 | h3
   ·omega
   ·exact g2 h3
  ·obtain ⟨ri',f1,_,f2⟩:=hr.heap.rows r row e2
   rw [e4] at f1;cases f1
   refine ⟨(f2 e5).2,?_⟩
   rintro ⟨r',row',ri',g1,g2,g3,g4,g5,g6⟩
   have:=hr.heap.inj r' r row' row ri' ri g2 e2 g4 e4 g5 e5 g6
   subst this;exact e1 g1
 have n5:∀ u d,VR w ρ (mA outer ρ st.h) u d→VR w ρ (mA outer' ρ (eE rd wr st.h)) u d:=fun u d hu=>hu.mono (fun _ _ h=>h) (fun _ _ _=>rfl) fun c hc=> .inl (fY c hc)
 have n0:RA C w outer' own' ρ { s:=vH ls st.s,h:=eE rd wr st.h,nx:=st.nx } a w:=by
  refine ⟨⟨Wx.refl _,fun _ _ _=>rfl,U9,fun r row' h=>?_,fun q q' row row' qi qi' h1 h2 h3 h4 h5 h6 h7=>?_⟩,fun t=>?_,hr.size,hr.defers,⟨C.g.stay w0 w (fun c hc=>hr.heap.old c (Nat.lt_of_lt_of_le hc (C.g.lt _ hr.glob.p)) (hr.glob.own c hc)) hr.glob.p,fun c hc ho=>?_,Nat.le_trans hr.glob.base hr.heap.wx.size,fun c hc ho=>?_⟩⟩
  ·obtain ⟨f0,row,f1,f2,f3⟩:=S1 r row' h
   obtain ⟨ri,g1,g2,g3⟩:=hr.heap.rows r row f1
   refine ⟨ri,g1,by rw [← f2];exact g2.keep (fun _=>rfl) n5,fun hn=>⟨⟨?_,fun hm=> .inr ⟨r,row,ri,f0,f1,by rw [f3];exact hm,g1,hn,rfl⟩⟩,(g3 hn).2⟩⟩
   rintro (h | ⟨r',row2,ri',e1,e2,e3,e4,e5,e6⟩)
   ·exact (g3 hn).1.1 h
   ·have:=hr.heap.inj r' r row2 row ri' ri e2 f1 e4 g1 e5 hn e6
    subst this;exact e1 f0
  ·obtain ⟨_,row1,f1,_⟩:=S1 q row h1
   obtain ⟨_,row2,f2,_⟩:=S1 q' row' h2
   exact hr.heap.inj q q' _ _ qi qi' f1 f2 h3 h4 h5 h6 h7
  ·show VR w ρ _ _ (vH ls st.s t)
   simp only [vH]
   cases YC t ls
   ·exact .undef _
   ·exact n5 _ _ (hr.slots t)
  ·have:=Nat.lt_of_lt_of_le hc (C.g.lt _ hr.glob.p)
   rcases (wZ c ho).2 with h | h
   ·omega
   ·exact hr.glob.own c hc h
  ·have:=Nat.lt_of_lt_of_le hc hr.glob.base
   rcases (wZ c ho).2 with h | h
   ·omega
   ·exact hr.glob.low c hc h
 have L:=zgQ (π:=fun r=>¬ (b≤r∧r<b+128)) (i:=b) (fun q hq h=>h (by omega)) o st' hs
 have main:=zpy (zgR n0 hC hΦ HY dX hs) fun a' w' ⟨ρ',h,_⟩=>h.defers
 intro next Q hn
 refine main next Q fun a1 w1 ⟨⟨ρ1,MV,hE,hx⟩,v,hv⟩=>hn _ _ ⟨ρ1,?_,hE,hx⟩
 subst hv
 have hh:=MV.heap
 have VW:∀ r,ρ r≠none→¬ (b≤r∧r<b+128):=fun r h1 h2=>h1 (by
  have:=dX (r - b) (by omega)
  rwa [show b+(r - b)=r by omega] at this)
 have hρ1:∀ r row,st.h r=some row→ρ1 r=ρ r:=fun r row h=>by
  obtain ⟨ri,h1,_⟩:=hr.heap.rows r row h
  rw [h1,hx r ri h1]
 -- rows that are only read
 have hrd:∀ r row,r ∉ wr→r ∈ rd→st.h r=some row→∃ row',st'.h r=some row'∧row'.c=row.c∧row'.m.isRo=row.m.isRo:=fun r row h1 h2 h3=>by
  have h4:eE rd wr st.h r=UN (some row):=by simp only [eE,wI.2 h1,HH.2 h2,cond_false,cond_true,h3]
  obtain ⟨row',h5⟩:∃ row',UN (some row)=some row':=by
   obtain ⟨c,m⟩:=row;cases m <;> exact ⟨_,rfl⟩
  obtain ⟨row2,h6,h7,h8,h9⟩:=zfl h5
  cases h6
  obtain ⟨ri,g1,_⟩:=hr.heap.rows r _ h3
  exact ⟨row',L.rows r row' (VW r (by rw [g1];simp)) (by show eE rd wr st.h r=_;rw [h4,h5]) h9,h7.symm,h8.symm⟩
 -- a row of the new state
 have LV:∀ r row,st2.h r=some row→(st'.h r=some row)∨(r ∉ wr∧¬ (b≤r∧r<b+128)∧st.h r=some row):=fun r row h=>by
  rw [← h2] at h
  simp only [GH] at h
  cases hw:(YC r wr||KF b r)
  ·rw [hw] at h
   simp only [Bool.or_eq_false_iff] at hw
   exact .inr ⟨wI.1 hw.1,rI.1 hw.2,h⟩
  ·rw [hw] at h;exact .inl h
 have D0:∀ c,mA outer ρ1 st2.h c→mA outer' ρ1 st'.h c:=by
  rintro c (h | ⟨r,row,ri,e1,e2,e3,e4,e5⟩)
  ·exact .inl (.inl h)
  ·rcases LV r row e1 with h | ⟨h3,h4,h5⟩
   ·exact .inr ⟨r,row,ri,h,e2,e3,e4,e5⟩
   ·by_cases hd:r ∈ rd
    ·obtain ⟨row',f1,f2,f3⟩:=hrd r row h3 hd h5
     exact .inr ⟨r,row',ri,f1,by rw [f3];exact e2,e3,e4,e5⟩
    ·rw [hρ1 r row h5] at e3
     exact .inl (.inr ⟨r,row,ri,fun h=>h.elim h3 hd,h5,e2,e3,e4,e5⟩)
 have b8:∀ c,mA outer' ρ1 st'.h c→mA outer ρ st.h c∨w.heap.size≤c:=by
  rintro c ((h | ⟨r,row,ri,e1,e2,e3,e4⟩) | ⟨r,row,ri,e1,e2,e3,e4,e5⟩)
  ·exact .inl (.inl h)
  ·exact .inl (.inr ⟨r,row,ri,e2,e3,e4⟩)
  ·obtain ⟨ri',f1,_,f2⟩:=hh.rows r row e1
   rw [e3] at f1;cases f1
   rcases (f2 e4).1.2 e2 with h | ⟨r',row',ri',g1,g2,g3,g4⟩
   ·exact .inr (by omega)
   ·rw [e5] at g4
    exact .inl (.inr ⟨r',row',ri',g2,g3,g4⟩)
 have keepO:∀ u d,VR w ρ (mA outer ρ st.h) u d→VR w1 ρ1 (mA outer ρ1 st2.h) u d:=fun u d hu=>
  hu.mono hx (fun c hc RV=>hh.old c RV fun ⟨r,row,ri,g1,g2,g3,g4⟩=>hc (.inr ⟨r,row,ri,g2,g3,g4⟩)) fun c hc=>b8 c (D0 c hc)
 have keepN:∀ u d,VR w1 ρ1 (mA outer' ρ1 st'.h) u d→VR w1 ρ1 (mA outer ρ1 st2.h) u d:=fun u d hu=>
  hu.mono (fun _ _ h=>h) (fun _ _ _=>rfl) fun c hc=> .inl (D0 c hc)
 have R9:∀ r row ri,r ∉ wr→r ∉ rd→st.h r=some row→ρ r=some ri→ri.nl=false→¬ own' ri.b:=by
  rintro r row ri h1 h2 h3 h4 h5 ⟨r',row',ri',g1,g2,g3,g4,g5,g6⟩
  have:=hr.heap.inj r' r row' row ri' ri g2 h3 g4 h4 g5 h5 g6
  subst this;exact g1.elim h1 h2
 have hdefers:({ a.put o.dst v with }:Act).defers=[]:=MV.defers
 refine ⟨⟨hr.heap.wx.trans hh.wx,fun c hc ho=>?_,hr.heap.outLt,fun r row h=>?_,fun q q' row row' qi qi' h1 h3 h4 h5 h6 h7 h8=>?_⟩,fun t=>?_,MV.size,MV.defers,hr.glob⟩
 ·rw [← hr.heap.old c hc ho]
  refine hh.old c (Nat.lt_of_lt_of_le hc hr.heap.wx.size) fun hoc=>?_
  rcases (wZ c hoc).2 with h3 | h3
  ·omega
  ·exact ho h3
 ·rcases LV r row h with h3 | ⟨h3,h4,h5⟩
  ·obtain ⟨ri,f1,f2,f3⟩:=hh.rows r row h3
   refine ⟨ri,f1,f2.keep (fun _=>rfl) keepN,fun hn=>⟨⟨fun ho=>(f3 hn).1.1 (.inl ho),fun hm=>?_⟩,(f3 hn).2⟩⟩
   rcases (f3 hn).1.2 hm with h4 | h4
   ·exact .inl (Nat.le_trans hr.heap.wx.size h4)
   ·exact (wZ _ h4).2
  ·obtain ⟨ri,f1,f2,f3⟩:=hr.heap.rows r row h5
   refine ⟨ri,hx r ri f1,?_,fun hn=>⟨(f3 hn).1,Nat.lt_of_lt_of_le (f3 hn).2 hh.wx.size⟩⟩
   by_cases hd:r ∈ rd
   ·obtain ⟨row',g1,g2,g3⟩:=hrd r row h3 hd h5
    obtain ⟨ri',e1,e2,_⟩:=hh.rows r row' g1
    rw [hx r ri f1] at e1;cases e1
    rw [← g2];exact e2.keep (fun _=>rfl) keepN
   ·exact f2.keep (fun hn=>hh.old _ (f3 hn).2 (R9 r row ri h3 hd h5 f1 hn)) keepO
 ·-- no two rows in one block
  have rowsOf:∀ r row ri,st2.h r=some row→ρ1 r=some ri→ri.nl=false→(∃ row',st'.h r=some row')∨(r ∉ wr∧r ∉ rd∧st.h r=some row∧ρ r=some ri):=fun r row ri h1 h3 h4=>by
   rcases LV r row h1 with h5 | ⟨h5,h6,h7⟩
   ·exact .inl ⟨_,h5⟩
   ·by_cases hd:r ∈ rd
    ·obtain ⟨row',g1,_⟩:=hrd r row h5 hd h7
     exact .inl ⟨_,g1⟩
    ·exact .inr ⟨h5,hd,h7,by rw [← hρ1 r row h7];exact h3⟩
  have mixed:∀ r r' row' row2 ri ri',st'.h r=some row2→ρ1 r=some ri→ri.nl=false→r' ∉ wr→r' ∉ rd→st.h r'=some row'→ρ r'=some ri'→ri'.nl=false→ri.b=ri'.b→False:=fun r r' row' row2 ri ri' e1 e2 e3 e4 e5 e6 e7 e8 e9=>by
   obtain ⟨ri2,f1,_,f3⟩:=hh.rows r row2 e1
   rw [e2] at f1;cases f1
   obtain ⟨ri3,g1,_,g3⟩:=hr.heap.rows r' row' e6
   rw [e7] at g1;cases g1
   have RV:=(g3 e8).2
   have ZX:=R9 r' row' ri' e4 e5 e6 e7 e8
   by_cases hm:row2.m.isRo=false
   ·rcases (f3 e3).1.2 hm with h | h
    ·rw [e9] at h;omega
    ·rw [e9] at h;exact ZX h
   ·-- a row that nobody writes:it was there ahead
    rcases zuL o st' hs r row2 e1 with ⟨row0,h0⟩ | h0
    ·obtain ⟨g0,row1,g4,_⟩:=S1 r row0 h0
     obtain ⟨ri4,g5,_⟩:=hr.heap.rows r row1 g4
     have:=hx r ri4 g5
     rw [e2] at this;cases this
     have:=hr.heap.inj r r' row1 row' ri ri' g4 e6 g5 e7 e3 e8 e9
     subst this;exact g0.elim e4 e5
    ·refine hm ?_
     obtain ⟨c,m⟩:=row2
     cases m with
     | own=>rfl
     | ro=>cases h0
     | lock=>rfl
  rcases rowsOf q row qi h1 h4 h6 with ⟨r1,e1⟩ | ⟨e1,e2,e3,e4⟩ <;> rcases rowsOf q' row' qi' h3 h5 h7 with ⟨r2,f1⟩ | ⟨f1,f2,f3,f4⟩
  ·exact hh.inj q q' _ _ qi qi' e1 f1 h4 h5 h6 h7 h8
  ·exact (mixed q q' row' r1 qi qi' e1 h4 h6 f1 f2 f3 f4 h7 h8).elim
  ·exact (mixed q' q row r2 qi' qi f1 h5 h7 e1 e2 e3 e4 h6 h8.symm).elim
  ·exact hr.heap.inj q q' row row' qi qi' e3 f3 e4 f4 h6 h7 h8
 ·have hst2:st2.s t=uI o.dst st.s st'.s t:=by rw [← h2]
  rw [hst2]
  have hput:∀ t,o.dst≠some t→(a.put o.dst v).tmps.getD t undef=a.tmps.getD t undef:=fun t ht=>by
   cases hd:o.dst with
   | none=>rfl
   | some d=>
    simp only [Act.put,Array.getD_eq_getD_getElem?]
    rw [Array.getElem?_setIfInBounds_ne]
    rintro rfl;exact ht hd
  have other:o.dst≠some t→VR w1 ρ1 (mA outer ρ1 st2.h) ((a.put o.dst v).tmps.getD t undef) (st.s t):=fun ht=>by
   rw [hput t ht];exact keepO _ _ (hr.slots t)
  cases hd:o.dst with
  | none=>simp only [uI];rw [← hd];exact other (by rw [hd];simp)
  | some d=>
   simp only [uI]
   by_cases ht:t=d
   ·subst ht;rw [IA, ← hd];exact keepN _ _ (MV.slots t)
   ·rw [vA _ _ _ _ ht, ← hd];exact other (by rw [hd];simpa using fun e=>ht e.symm)
def mE (C:Cx) (ops:Array Oper) (nx:Nat) (e:iC) (st st':St):Prop:=
 ∃ o,ops[e.i]?=some o∧e.dst=o.dst∧
  ((o.guard=none∧MD C (nx+128 *e.i) o e.ls e.rd e.wr st some=some st')∨
   ∃ j want dj,o.guard=some (j,want)∧(ops[j]?).bind (·.dst)=some dj∧dj ∈ e.ls∧
    ((st.s dj= .bool want∧MD C (nx+128 *e.i) o e.ls e.rd e.wr st some=some st')∨
     ((st.s dj= .tup []∨st.s dj= .bool (!want))∧MA C o.dst st (.tup []) some=some st')))
def iC.at (e:iC) (nx r:Nat):Prop:=r ∈ e.rd∨r ∈ e.wr∨(nx+128 *e.i≤r∧r<nx+128 *e.i+128)
def iC.to (e:iC) (nx r:Nat):Prop:=r ∈ e.wr∨(nx+128 *e.i≤r∧r<nx+128 *e.i+128)
omit [fA] in
theorem zqS {dst:Option Nat} {s s':Nat→V} {t:Nat} (h:dst≠some t):uI dst s s' t=s t:=by
 cases dst with
 | none=>rfl
 | some d=>exact vA _ _ _ _ (fun e=>h (by rw [e]))
omit [fA] in
theorem zfg {d:Nat} {s s':Nat→V}:uI (some d) s s' d=s' d:=IA _ _ _
omit [fA] in
theorem zbj {b:Nat} {wr:List Nat} {h h':Nat→Option nA} {r:Nat} (hr:r ∈ wr∨(b≤r∧r<b+128)):GH b wr h h' r=h' r:=by
 have:(YC r wr||KF b r)=true:=by
  rcases hr with hr | hr
  ·simp [HH.2 hr]
  ·simp [ze4.2 hr]
 simp only [GH,this,cond_true]
omit [fA] in
theorem zff {b:Nat} {wr:List Nat} {h h':Nat→Option nA} {r:Nat} (hr:¬ (r ∈ wr∨(b≤r∧r<b+128))):GH b wr h h' r=h r:=by
 have:(YC r wr||KF b r)=false:=by
  simp only [Bool.or_eq_false_iff,wI,rI]
  exact ⟨fun h=>hr (.inl h),fun h=>hr (.inr h)⟩
 simp only [GH,this,cond_false]
omit [fA] in
theorem zb7 {b:Nat} {o:Oper} {ls rd wr:List Nat} (h:MD C b o ls rd wr st some=some st'):
  ∃ x,bB C b o { s:=vH ls st.s,h:=eE rd wr st.h,nx:=st.nx } some=some x∧st'= { s:=uI o.dst st.s x.s,h:=GH b wr st.h x.h,nx:=st.nx }:=by
 unfold MD at h
 rw [CM] at h
 obtain ⟨x,h1,h2⟩:=Option.bind_eq_some_iff.1 h
 exact ⟨x,h1,(Option.some.inj h2).symm⟩
omit [fA] in
theorem zb6 {b:Nat} {o:Oper} {ls rd wr:List Nat} {x:St} (h:bB C b o { s:=vH ls st.s,h:=eE rd wr st.h,nx:=st.nx } some=some x):
  MD C b o ls rd wr st some=some { s:=uI o.dst st.s x.s,h:=GH b wr st.h x.h,nx:=st.nx }:=by
 unfold MD
 rw [CM,h];rfl
omit [fA] in
theorem mE.frame {ops:Array Oper} {nx:Nat} {e:iC} (h:mE C ops nx e st st'):
  (∀ t,e.dst≠some t→st'.s t=st.s t)∧(∀ r,¬ e.to nx r→st'.h r=st.h r)∧st'.nx=st.nx:=by
 obtain ⟨o,h1,h2,h3⟩:=h
 have stp:MD C (nx+128 *e.i) o e.ls e.rd e.wr st some=some st'→(∀ t,e.dst≠some t→st'.s t=st.s t)∧(∀ r,¬ e.to nx r→st'.h r=st.h r)∧st'.nx=st.nx:=fun h=>by
  obtain ⟨x,k1,rfl⟩:=zb7 h
  exact ⟨fun t ht=>zqS (by rw [← h2];exact ht),fun r hr=>zff hr,rfl⟩
 have skp:MA C o.dst st (.tup []) some=some st'→(∀ t,e.dst≠some t→st'.s t=st.s t)∧(∀ r,¬ e.to nx r→st'.h r=st.h r)∧st'.nx=st.nx:=fun h=>by
  have L:=MP (π:=fun _=>True) (V.tup []) st' h
  refine ⟨fun t ht=>L.slots t (by rw [← h2];exact ht),fun r _=>?_,L.nx⟩
  cases hd:o.dst with
  | none=>rw [hd] at h;simp [MA] at h;rw [h]
  | some d=>
   rw [hd] at h
   simp only [MA] at h
   cases hb:Nat.blt d C.nt <;> simp [hb] at h
   rw [← h]
 rcases h3 with ⟨_,h⟩ | ⟨j,want,dj,_,_,_,⟨_,h⟩ | ⟨_,h⟩⟩
 ·exact stp h
 ·exact stp h
 ·exact skp h
omit [fA] in
theorem mE.loc {ops:Array Oper} {nx:Nat} {e:iC} (h:mE C ops nx e st st') (hs:∀ t ∈ e.ls,st2.s t=st.s t) (hh:∀ r,e.at nx r→st2.h r=st.h r) (hn:st2.nx=st.nx):
  ∃ st2',mE C ops nx e st2 st2'∧(∀ t,e.dst=some t→st2'.s t=st'.s t)∧(∀ r,e.to nx r→st2'.h r=st'.h r):=by
 obtain ⟨o,h1,h2,h3⟩:=h
 have i8:vH e.ls st2.s=vH e.ls st.s:=by
  funext t
  simp only [vH]
  cases hm:YC t e.ls
  ·rfl
  ·simp only [cond_true];exact hs t (HH.1 hm)
 have hch:eE e.rd e.wr st2.h=eE e.rd e.wr st.h:=by
  funext r
  simp only [eE]
  cases hm:YC r e.wr
  ·cases P7:YC r e.rd
   ·rfl
   ·simp only [cond_true,cond_false];rw [hh r (.inl (HH.1 P7))]
  ·simp only [cond_true];exact hh r (.inr (.inl (HH.1 hm)))
 have stp:MD C (nx+128 *e.i) o e.ls e.rd e.wr st some=some st'→∃ st2',MD C (nx+128 *e.i) o e.ls e.rd e.wr st2 some=some st2'∧(∀ t,e.dst=some t→st2'.s t=st'.s t)∧(∀ r,e.to nx r→st2'.h r=st'.h r):=fun h=>by
  obtain ⟨x,k1,rfl⟩:=zb7 h
  refine ⟨_,zb6 (x:=x) (by rw [i8,hch,hn];exact k1),fun t ht=>?_,fun r hr=>?_⟩
  ·rw [h2] at ht;rw [ht];exact (zfg).trans zfg.symm
  ·exact (zbj hr).trans (zbj hr).symm
 have skp:MA C o.dst st (.tup []) some=some st'→∃ st2',MA C o.dst st2 (.tup []) some=some st2'∧(∀ t,e.dst=some t→st2'.s t=st'.s t)∧(∀ r,e.to nx r→st2'.h r=st'.h r):=fun h=>by
  cases hd:o.dst with
  | none=>
   rw [hd] at h;simp [MA] at h;subst h
   refine ⟨st2,rfl,fun t ht=>?_,fun r hr=>hh r (.inr hr)⟩
   rw [h2,hd] at ht;cases ht
  | some d=>
   rw [hd] at h
   simp only [MA] at h
   cases hb:Nat.blt d C.nt <;> simp [hb] at h
   subst h
   refine ⟨{ st2 with s:=uA st2.s d (.tup []) },by simp [MA,hb],fun t ht=>?_,fun r hr=>hh r (.inr hr)⟩
   rw [h2,hd] at ht;cases ht
   exact (IA _ _ _).trans (IA _ _ _).symm
 rcases h3 with ⟨g,h⟩ | ⟨j,want,dj,g1,g2,g3,⟨g4,h⟩ | ⟨g4,h⟩⟩
 ·obtain ⟨x,k1,k2,k3⟩:=stp h
  exact ⟨x,⟨o,h1,h2, .inl ⟨g,k1⟩⟩,k2,k3⟩
 ·obtain ⟨x,k1,k2,k3⟩:=stp h
  exact ⟨x,⟨o,h1,h2, .inr ⟨j,want,dj,g1,g2,g3, .inl ⟨by rw [hs dj g3];exact g4,k1⟩⟩⟩,k2,k3⟩
 ·obtain ⟨x,k1,k2,k3⟩:=skp h
  exact ⟨x,⟨o,h1,h2, .inr ⟨j,want,dj,g1,g2,g3, .inr ⟨by rw [hs dj g3];exact g4,k1⟩⟩⟩,k2,k3⟩
structure KP (nx:Nat) (e1 e:iC):Prop where
 s1:∀ t,e1.dst=some t→t ∉ e.ls
 s2:∀ t,e.dst=some t→t ∉ e1.ls
 s3:∀ t,e1.dst=some t→e.dst≠some t
 h1:∀ r,e1.to nx r→¬ e.at nx r
 h2:∀ r,e.to nx r→¬ e1.at nx r
omit [fA] in
theorem zry {nx:Nat} {e1 e:iC} (RY:e1.i≠e.i) (h:mG nx e1 e=true):KP nx e1 e:=by
 simp only [mG,Bool.and_eq_true,Bool.not_eq_true',List.all_eq_true] at h
 obtain ⟨⟨⟨⟨⟨⟨⟨⟨a1,a2⟩,a3⟩,a4⟩,a5⟩,a6⟩,a7⟩,a8⟩,a9⟩:=h
 have dst:∀ {d:Option Nat} {l:List Nat},PQ d l=false→∀ t,d=some t→t ∉ l:=fun h t ht=>by subst ht;exact wI.1 h
 refine ⟨dst a1,dst a2,fun t ht h=>?_,fun r hr Z7=>?_,fun r hr Z7=>?_⟩
 ·have:=dst a3 t ht
  rw [h] at this;simp at this
 ·rcases hr with hr | hr
  ·have:=a4 r hr
   rcases Z7 with h | h | h
   ·exact wI.1 this.1 h
   ·exact wI.1 this.2 h
   ·exact rI.1 (a9 r hr) h
  ·rcases Z7 with h | h | h
   ·exact rI.1 (a6 r h) hr
   ·exact rI.1 (a7 r h) hr
   ·omega
 ·rcases hr with hr | hr
  ·rcases Z7 with h | h | h
   ·exact wI.1 (a5 r hr) h
   ·exact wI.1 (a4 r h).2 hr
   ·exact rI.1 (a7 r hr) h
  ·rcases Z7 with h | h | h
   ·exact rI.1 (a8 r h) hr
   ·exact rI.1 (a9 r h) hr
   ·omega
omit [fA] in
theorem mE.swap {ops:Array Oper} {nx:Nat} {e1 e:iC} (hp:KP nx e1 e) (h1:mE C ops nx e1 st st1) (h2:mE C ops nx e st1 st2):
  ∃ st1',mE C ops nx e st st1'∧mE C ops nx e1 st1' st2:=by
 obtain ⟨f1,f2,f3⟩:=h1.frame
 obtain ⟨g1,g2,g3⟩:=h2.frame
 obtain ⟨x,k1,k2,k3⟩:=h2.loc (st2:=st) (fun t ht=>(f1 t fun e=>hp.s1 t e ht).symm) (fun r hr=>(f2 r fun h=>hp.h1 r h hr).symm) f3.symm
 obtain ⟨m1,m2,m3⟩:=k1.frame
 obtain ⟨y,n1,n2,n3⟩:=h1.loc (st2:=x) (fun t ht=>m1 t fun e=>hp.s2 t e ht) (fun r hr=>m2 r fun h=>hp.h2 r h hr) m3
 obtain ⟨p1,p2,p3⟩:=n1.frame
 have hy:y=st2:=by
  have es:y.s=st2.s:=by
   funext t
   by_cases t1:e1.dst=some t
   ·rw [n2 t t1,g1 t (hp.s3 t t1)]
   ·rw [p1 t t1]
    by_cases t2:e.dst=some t
    ·rw [k2 t t2]
    ·rw [m1 t t2,g1 t t2,f1 t t1]
  have eh:y.h=st2.h:=by
   funext r
   have toAt:∀ {e:iC},e.to nx r→e.at nx r:=fun h=> .inr h
   by_cases t1:e1.to nx r
   ·rw [n3 r t1,g2 r fun h=>hp.h2 r h (toAt t1)]
   ·rw [p2 r t1]
    by_cases t2:e.to nx r
    ·rw [k3 r t2]
    ·rw [m2 r t2,g2 r t2,f2 r t1]
  have en:y.nx=st2.nx:=by rw [p3,m3,g3,f3]
  cases y;cases st2;simp_all
 exact ⟨x,k1,hy ▸ n1⟩
inductive eF (C:Cx) (ops:Array Oper) (nx:Nat):List iC→St→St→Prop
 | nil (st:St):eF C ops nx [] st st
 | cons {e:iC} {l:List iC} {st st1 st2:St} (h:mE C ops nx e st st1) (k:eF C ops nx l st1 st2):eF C ops nx (e :: l) st st2
omit [fA] in
theorem eF.front {ops:Array Oper} {nx:Nat} {e:iC} {l2:List iC}:∀ (l1:List iC) (st:St),(∀ e1 ∈ l1,KP nx e1 e)→eF C ops nx (l1++e :: l2) st st2→∃ st1,mE C ops nx e st st1∧eF C ops nx (l1++l2) st1 st2
 | [],st,_,h=>by cases h with | cons h k=>exact ⟨_,h,k⟩
 | e1 :: l1,st,hp,h=>by
  cases h with
  | cons h k=>
   obtain ⟨s,k1,k2⟩:=eF.front l1 _ (fun e h=>hp e (List.mem_cons_of_mem _ h)) k
   obtain ⟨x,n1,n2⟩:=h.swap (hp e1 (by simp)) k1
   exact ⟨x,n1, .cons n2 k2⟩
omit [fA] in
theorem zfu:∀ (l:List Oper) (acc:List Nat),∃ t,gC acc l=acc++t
 | [],acc=>⟨[],by simp [gC]⟩
 | o :: l,acc=>by
  obtain ⟨t,h⟩:=zfu l (acc++[WN acc o.after.toList])
  exact ⟨_,by simp only [gC];rw [h,List.append_assoc]⟩
omit [fA] in
theorem zft:∀ (l:List Oper) (acc:List Nat) (k:Nat) (o:Oper),l[k]?=some o→
  (gC acc l).getD (acc.length+k) 0=WN ((gC acc l).take (acc.length+k)) o.after.toList
 | [],acc,k,o,h=>by simp at h
 | x :: l,acc,0,o,h=>by
  simp at h;subst h
  simp only [gC,Nat.add_zero]
  obtain ⟨t,ht⟩:=zfu l (acc++[WN acc x.after.toList])
  rw [ht,List.append_assoc,List.getD_eq_getElem?_getD,List.getElem?_append_right (Nat.le_refl _)]
  simp
 | x :: l,acc,k+1,o,h=>by
  have:=zft l (acc++[WN acc x.after.toList]) k o (by simpa using h)
  simp only [List.length_append,List.length_singleton] at this
  simp only [gC]
  rw [show acc.length+(k+1)=acc.length+1+k by omega]
  exact this
omit [fA] in
theorem zfr (ms:List Nat) (d:Nat):∀ (es:List Edge) (s:Nat),Nat.testBit (es.foldl (fun s e=>bif Region.binds .any e then s|||(2^e.on|||ms.getD e.on 0) else s) s) d=true→
  Nat.testBit s d=true∨∃ e ∈ es,Region.binds .any e=true∧(e.on=d∨Nat.testBit (ms.getD e.on 0) d=true)
 | [],s,h=> .inl h
 | e :: es,s,h=>by
  rcases zfr ms d es _ h with h1 | ⟨x,h1,h2⟩
  ·cases hb:Region.binds .any e
   ·simp only [hb,cond_false] at h1;exact .inl h1
   ·simp only [hb,cond_true,Nat.testBit_or,Bool.or_eq_true,Nat.testBit_two_pow,decide_eq_true_eq] at h1
    rcases h1 with h1 | h1 | h1
    ·exact .inl h1
    ·exact .inr ⟨e,by simp,hb, .inl h1⟩
    ·exact .inr ⟨e,by simp,hb, .inr h1⟩
  ·exact .inr ⟨x,List.mem_cons_of_mem _ h1,h2⟩
omit [fA] in
theorem zq9 {ops:Array Oper} {S:Nat→Prop} (hE:∀ i o,ops[i]?=some o→∀ e ∈ o.after,Region.binds .any e=true→e.on<i)
  (hS:∀ k o,S k→ops[k]?=some o→∀ e ∈ o.after,Region.binds .any e=true→S e.on):
  ∀ (i:Nat) (o:Oper),ops[i]?=some o→(∀ e ∈ o.after,Region.binds .any e=true→S e.on)→∀ d,Nat.testBit ((gC [] ops.toList).getD i 0) d=true→S d:=by
 intro i
 induction i using Nat.strongRecOn with
 | _ i ih=>
  intro o ho he d hd
  have h0:=zft ops.toList [] i o (by simpa using ho)
  simp only [List.length_nil,Nat.zero_add] at h0
  rw [h0] at hd
  have hi:i<ops.size:=by
   rcases Nat.lt_or_ge i ops.size with h | h
   ·exact h
   ·rw [Array.getElem?_eq_none h] at ho;cases ho
  rcases zfr _ d _ _ hd with h1 | ⟨e,h1,h2,h3⟩
  ·simp at h1
  ·have h1:e ∈ o.after:=by simpa using h1
   have hse:=he e h1 h2
   have RV:=hE i o ho e h1 h2
   rcases h3 with h3 | h3
   ·rw [← h3];exact hse
   ·have h4:((gC [] ops.toList).take i).getD e.on 0=(gC [] ops.toList).getD e.on 0:=by
     rw [List.getD_eq_getElem?_getD,List.getD_eq_getElem?_getD,List.getElem?_take,if_pos RV]
    rw [h4] at h3
    have ho2:ops[e.on]?=some ops[e.on]:=Array.getElem?_eq_getElem (by omega)
    exact ih e.on RV _ ho2 (hS e.on _ hse ho2) d h3
omit [fA] in
theorem zbp {ops:Array Oper} {listed:Array Bool} {i:Nat}:i ∈ Region.ready .any ops listed↔
  i<ops.size∧listed.getD i true=false∧∃ o,ops[i]?=some o∧∀ e ∈ o.after,Region.binds .any e=true→listed.getD e.on false=true:=by
 unfold Region.ready
 rw [List.mem_filter,List.mem_range]
 constructor
 ·rintro ⟨h1,h2⟩
  simp only [Bool.and_eq_true,Bool.not_eq_true'] at h2
  refine ⟨h1,h2.1,?_⟩
  rw [Array.getElem?_eq_getElem h1] at h2
  refine ⟨ops[i],Array.getElem?_eq_getElem h1,fun e he hb=>?_⟩
  have h3:=h2.2
  simp only [Option.map_some,Option.getD_some] at h3
  rw [Array.all_eq_true'] at h3
  have:=h3 e he
  simpa [hb] using this
 ·rintro ⟨h1,h2,o,h3,h4⟩
  refine ⟨h1,?_⟩
  rw [h2,h3]
  simp only [Bool.not_false,Bool.true_and,Option.map_some,Option.getD_some]
  rw [Array.all_eq_true']
  intro e he
  cases hb:Region.binds .any e
  ·rfl
  ·simp [h4 e he hb]
theorem zvi {w:World} {ρ:Nat→Option RI} {bad:Nat→Prop} {v:Value} (h:VR w ρ bad v (.tup [])):v=undef:=by
 cases h with
 | tup _ vs hs hv=>
  have:vs= #[]:=by simpa using hs
  subst this;rfl
theorem zeq (hC:yD C) (hΦ:RD C) {ops:Array Oper} {nx:Nat} {Q:Exit→Act→World→Prop} {stf:St} (hE:∀ i o,ops[i]?=some o→∀ e ∈ o.after,Region.binds .any e=true→e.on<i)
  (D:Nat→Prop) (hD:∀ o ∈ ops,∀ d,o.dst=some d→D d) (ρ0:Nat→Option RI)
  (OV:∀ a' w' ρ',RA C w0 outer own ρ' stf a' w'→(∀ q qi,ρ0 q=some qi→ρ' q=some qi)→(∀ q,nx+128 *ops.size≤q→ρ' q=none)→Q .normal a' w'):
  ∀ (fuel:Nat) (l:List iC) (listed:Array Bool) (st:St) (a:Act) (w:World) (ρ:Nat→Option RI),
   l.length=fuel→eF C ops nx l st stf→l.Pairwise (fun e1 e=>e1.i<e.i∧(Nat.testBit ((gC [] ops.toList).getD e.i 0) e1.i=true∨mG nx e1 e=true))→
   listed.size=ops.size→(∀ i,i<ops.size→(listed.getD i true=false↔∃ e ∈ l,e.i=i))→(∀ e ∈ l,e.i<ops.size)→
   (∀ k o,listed.getD k false=true→ops[k]?=some o→∀ e ∈ o.after,Region.binds .any e=true→listed.getD e.on false=true)→
   RA C w0 outer own ρ st a w→(∀ e ∈ l,∀ q,q<128→ρ (nx+128 *e.i+q)=none)→(∀ q,nx+128 *ops.size≤q→ρ q=none)→(∀ q qi,ρ0 q=some qi→ρ q=some qi)→
   wpAny C.P .any ops Q fuel listed a w
 | 0,l,listed,st,a,w,ρ,hl,ht,hp,eW,rY,RV,F4,hr,hf,hN,hx=>by
  obtain rfl:l=[]:=List.eq_nil_of_length_eq_zero hl
  cases ht
  refine ⟨?_,OV a w ρ hr hx hN⟩
  refine List.eq_nil_iff_forall_not_mem.2 fun i hi=>?_
  obtain ⟨h1,h2,_⟩:=zbp.1 hi
  obtain ⟨e,he,_⟩:=(rY i h1).1 h2
  simp at he
 | fuel+1,l,listed,st,a,w,ρ,hl,ht,hp,eW,rY,RV,F4,hr,hf,hN,hx=>by
  have getF:∀ k,k<ops.size→listed.getD k true=true→listed.getD k false=true:=fun k hk h=>by
   rw [Array.getD_eq_getD_getElem?] at h ⊢
   rw [Array.getElem?_eq_getElem (by omega)] at h ⊢;exact h
  have getT:∀ k,listed.getD k false=true→listed.getD k true=true:=fun k h=>by
   rw [Array.getD_eq_getD_getElem?] at h ⊢
   cases h2:listed[k]? with
   | none=>rfl
   | some b=>rw [h2] at h;exact h
  refine ⟨fun M4=>?_,fun i hi=>?_⟩
  ·exfalso
   cases l with
   | nil=>simp at hl
   | cons e l=>
    have he:=RV e (by simp)
    have:e.i ∈ Region.ready .any ops listed:=zbp.2 ⟨he,(rY _ he).2 ⟨e,by simp,rfl⟩,ops[e.i],Array.getElem?_eq_getElem he,fun x hx hb=>by
     have h1:=hE _ _ (Array.getElem?_eq_getElem he) x hx hb
     refine getF _ (by omega) ?_
     cases h2:listed.getD x.on true with
     | true=>rfl
     | false=>
      obtain ⟨e',h3,h4⟩:=(rY x.on (by omega)).1 h2
      rcases List.mem_cons.1 h3 with rfl | h3
      ·omega
      ·have:=(List.rel_of_pairwise_cons hp h3).1;omega⟩
    rw [M4] at this;simp at this
  ·obtain ⟨h1,h2,o,ho,h4⟩:=zbp.1 hi
   obtain ⟨e,he,rfl⟩:=(rY i h1).1 h2
   obtain ⟨l1,l2,rfl⟩:=List.append_of_mem he
   have hap:∀ e1 ∈ l1,KP nx e1 e:=fun e1 EZ=>by
    have h5:=(List.pairwise_append.1 hp).2.2 e1 EZ e (by simp)
    refine zry (by omega) (h5.2.resolve_left fun hb=>?_)
    have:=zq9 (S:=fun k=>listed.getD k false=true) hE (fun k o hk K9=>F4 k o hk K9) e.i o ho h4 e1.i hb
    have h6:=(rY e1.i (RV e1 (by simp [EZ]))).2 ⟨e1,by simp [EZ],rfl⟩
    rw [getT _ this] at h6;cases h6
   obtain ⟨s1,k1,k2⟩:=ht.front l1 st hap
   obtain ⟨o',ho',hdst,MW⟩:=k1
   rw [ho] at ho';cases ho'
   -- what is left
   have rest:∀ a1 w1 ρ1,RA C w0 outer own ρ1 s1 a1 w1→(∀ q,¬ (nx+128 *e.i≤q∧q<nx+128 *e.i+128)→ρ1 q=ρ q)→(∀ q qi,ρ q=some qi→ρ1 q=some qi)→
     wpAny C.P .any ops Q fuel (listed.setIfInBounds e.i true) a1 w1:=fun a1 w1 ρ1 MV hE1 hx1=>by
    have RY:∀ e' ∈ l1++l2,e'.i≠e.i:=fun e' h=>by
     rcases List.mem_append.1 h with h | h
     ·have:=((List.pairwise_append.1 hp).2.2 e' h e (by simp)).1;omega
     ·have:=(List.rel_of_pairwise_cons (List.pairwise_append.1 hp).2.1 h).1;omega
    have C6:∀ k d,k≠e.i→(listed.setIfInBounds e.i true).getD k d=listed.getD k d:=fun k d hk=>by
     rw [Array.getD_eq_getD_getElem?,Array.getD_eq_getD_getElem?,Array.getElem?_setIfInBounds_ne (fun h=>hk h.symm)]
    have zY:∀ d,(listed.setIfInBounds e.i true).getD e.i d=true:=fun d=>by
     rw [Array.getD_eq_getD_getElem?,Array.getElem?_setIfInBounds_self]
     simp [eW,h1]
    refine zeq hC hΦ hE D hD ρ0 OV fuel (l1++l2) _ s1 a1 w1 ρ1 (by simp at hl ⊢;omega) k2 ?_ (by simp [eW]) (fun i hi=>?_) (fun e' YX=>RV e' ?_) ?_ MV (fun e' YX q hq=>?_) (fun q hq=>?_) (fun q qi h=>hx1 q qi (hx q qi h))
    ·refine hp.sublist ?_
     exact (List.sublist_cons_self e l2).append_left l1
    ·by_cases b9:i=e.i
     ·subst b9
      rw [zY]
      constructor
      ·intro h;cases h
      ·rintro ⟨e',h5,h6⟩;exact absurd h6 (RY e' h5)
     ·rw [C6 i true b9,rY i hi]
      constructor
      ·rintro ⟨e',h5,h6⟩
       refine ⟨e',?_,h6⟩
       rcases List.mem_append.1 h5 with h5 | h5
       ·exact List.mem_append_left _ h5
       ·rcases List.mem_cons.1 h5 with rfl | h5
        ·exact absurd h6.symm b9
        ·exact List.mem_append_right _ h5
      ·rintro ⟨e',h5,h6⟩
       refine ⟨e',?_,h6⟩
       rcases List.mem_append.1 h5 with h5 | h5
       ·exact List.mem_append_left _ h5
       ·exact List.mem_append_right _ (List.mem_cons_of_mem _ h5)
    ·rcases List.mem_append.1 YX with h5 | h5
     ·exact List.mem_append_left _ h5
     ·exact List.mem_append_right _ (List.mem_cons_of_mem _ h5)
    ·intro k o2 hk K9 x hx2 hb
     by_cases hxe:x.on=e.i
     ·rw [hxe];exact zY false
     ·rw [C6 _ _ hxe]
      by_cases hke:k=e.i
      ·subst hke;rw [ho] at K9;cases K9;exact h4 x hx2 hb
      ·rw [C6 _ _ hke] at hk;exact F4 k o2 hk K9 x hx2 hb
    ·rw [hE1 _ (by have:=RY e' YX;omega)]
     refine hf e' ?_ q hq
     rcases List.mem_append.1 YX with h5 | h5
     ·exact List.mem_append_left _ h5
     ·exact List.mem_append_right _ (List.mem_cons_of_mem _ h5)
    ·rw [hE1 q (by omega)];exact hN q hq
   have run:MD C (nx+128 *e.i) o e.ls e.rd e.wr st some=some s1→o.wp C.P a w (wpAny C.P .any ops Q fuel (listed.setIfInBounds e.i true)) Q:=fun hs=>by
    refine zuM hr hC hΦ ⟨_,hN⟩ (fun q hq=>hf e (by simp) q hq) hs _ Q fun a1 w1 hA=>?_
    obtain ⟨ρ1,MV,hE1,hx1⟩:=hA
    exact rest a1 w1 ρ1 MV (fun q hq=>hE1 q hq) hx1
   unfold wpOp
   rw [ho]
   rcases MW with ⟨hg,hs⟩ | ⟨j,want,dj,hg,T0,_,⟨hv,hs⟩ | ⟨hv,hs⟩⟩
   ·simp only
    rw [if_pos (by simp [Region.wanted,hg])]
    exact .inl (run hs)
   ·have R4:=hr.slots dj
    rw [hv] at R4
    have hb:a.tmps.getD dj undef= .bool want:=by
     generalize a.tmps.getD dj undef=v at R4;cases R4;rfl
    have QZ:dj<a.tmps.size:=by
     rcases Nat.lt_or_ge dj a.tmps.size with h | h
     ·exact h
     ·rw [Array.getD_eq_getD_getElem?,Array.getElem?_eq_none h] at hb;cases hb
    have hy:yielded ops a.tmps j=some want:=by
     unfold yielded
     rw [T0]
     simp only [Option.bind_some]
     rw [Array.getD_eq_getD_getElem?,Array.getElem?_eq_getElem QZ] at hb
     rw [Array.getElem?_eq_getElem QZ]
     simp only [Option.getD_some] at hb
     rw [hb]
    simp only
    rw [if_pos (by simp [Region.wanted,hg,hy])]
    exact .inl (run hs)
   ·have ZX:Region.wanted o (yielded ops a.tmps)=false:=by
     have R4:=hr.slots dj
     rcases hv with hv | hv
     ·rw [hv] at R4
      have hu:=zvi R4
      have hy:yielded ops a.tmps j=none:=by
       unfold yielded
       rw [T0]
       simp only [Option.bind_some]
       split
       ·rename_i b hb
        rw [Array.getD_eq_getD_getElem?,hb] at hu
        cases hu
       ·rfl
      simp [Region.wanted,hg,hy]
     ·rw [hv] at R4
      have hb:a.tmps.getD dj undef= .bool (!want):=by
       generalize a.tmps.getD dj undef=v at R4;cases R4;rfl
      have hy:yielded ops a.tmps j=some (!want):=by
       unfold yielded
       rw [T0]
       simp only [Option.bind_some]
       rw [Array.getD_eq_getD_getElem?] at hb
       cases h2:a.tmps[dj]? with
       | none=>rw [h2] at hb;cases hb
       | some v=>rw [h2] at hb;simp only [Option.getD_some] at hb;rw [hb]
      simp only [Region.wanted,hg,hy]
      cases want <;> rfl
    simp only
    rw [if_neg (by simp [ZX])]
    obtain ⟨p1,_,_⟩:=hr.put (v:=undef) (d:= .tup []) (.tup [] #[] rfl fun j hj=>by simp at hj) hs
    exact rest _ w ρ p1 (fun _ _=>rfl) (fun _ _ h=>h)
omit [fA] in
theorem mE.keeps {ops:Array Oper} {nx:Nat} {e:iC} (h:mE C ops nx e st st'):YB nx st.h st'.h:=by
 obtain ⟨o,h1,h2,h3⟩:=h
 have stp:MD C (nx+128 *e.i) o e.ls e.rd e.wr st some=some st'→YB nx st.h st'.h:=fun h=>by
  obtain ⟨x,k1,rfl⟩:=zb7 h
  have L:=zgP (n:=nx) (i:=nx+128 *e.i) (by omega) o x k1
  intro r row hr LV hm
  have hr:r<nx:=hr
  show GH _ _ _ _ r=_
  by_cases hw:r ∈ e.wr
  ·rw [zbj (.inl hw)]
   exact L.rows r row hr (by show eE e.rd e.wr st.h r=_;simp only [eE,HH.2 hw,cond_true];exact LV) hm
  ·rw [zff (fun h=>h.elim hw fun h=>by omega)];exact LV
 have skp:MA C o.dst st (.tup []) some=some st'→YB nx st.h st'.h:=fun h=>(MP (π:=fun r=>r<nx) (V.tup []) st' h).rows
 rcases h3 with ⟨_,h⟩ | ⟨j,want,dj,_,_,_,⟨_,h⟩ | ⟨_,h⟩⟩
 ·exact stp h
 ·exact stp h
 ·exact skp h
omit [fA] in
theorem eF.frame {ops:Array Oper} {nx:Nat} (hD:∀ o ∈ ops,∀ d,o.dst=some d→D d) {l:List iC} (h:eF C ops nx l st st'):
  (∀ s,¬ D s→st'.s s=st.s s)∧YB nx st.h st'.h∧st'.nx=st.nx:=by
 induction h with
 | nil=>exact ⟨fun _ _=>rfl,YB.refl _ _,rfl⟩
 | cons h k ih=>
  obtain ⟨f1,f2,f3⟩:=h.frame
  obtain ⟨o,h1,h2,_⟩:=id h
  refine ⟨fun s hs=>?_,h.keeps.trans ih.2.1,ih.2.2.trans f3⟩
  rw [ih.1 s hs,f1 s fun hd=>hs (hD o (Array.mem_of_getElem? h1) s (h2 ▸ hd))]
omit [fA] in
theorem zrz {mask nx:Nat} {rs:List iC} {e:iC} (h:nG mask nx rs e=true):∀ e1 ∈ rs,Nat.testBit mask e1.i=true∨mG nx e1 e=true:=fun e1 he=>by
 have:=List.all_eq_true.1 h e1 he
 simpa using this
omit [fA] in
theorem zfX {ops:Array Oper} {nx:Nat} {K:St→Option R} {r:R}:∀ (m k:Nat) (rs:List iC) (st:St),k+m=ops.size→
  rG C ops (gC [] ops.toList) nx (QD k (ops.toList.drop k)) rs st K=some r→
  ∃ l stf,eF C ops nx l st stf∧K stf=some r∧l.map (·.i)=List.range' k m∧(∀ i o,k≤i→ops[i]?=some o→∀ e ∈ o.after,Region.binds .any e=true→e.on<i)∧
   (∀ e ∈ l,∀ e1 ∈ rs,Nat.testBit ((gC [] ops.toList).getD e.i 0) e1.i=true∨mG nx e1 e=true)∧
   l.Pairwise fun e1 e=>e1.i<e.i∧(Nat.testBit ((gC [] ops.toList).getD e.i 0) e1.i=true∨mG nx e1 e=true)
 | 0,k,rs,st,hk,KV=>by
  have:ops.toList.drop k=[]:=List.drop_eq_nil_of_le (by simp;omega)
  rw [this] at KV
  refine ⟨[],st, .nil _,KV,rfl,fun i o hi ho=>?_,fun e he=>by simp at he, .nil⟩
  rw [Array.getElem?_eq_none (by omega)] at ho;cases ho
 | m+1,k,rs,st,hk,KV=>by
  have RV:k<ops.size:=by omega
  have ho:ops[k]?=some ops[k]:=Array.getElem?_eq_getElem RV
  have j8:QD k (ops.toList.drop k)=(k,ops[k]) :: QD (k+1) (ops.toList.drop (k+1)):=by
   rw [List.drop_eq_getElem_cons (by simpa using RV)];rfl
  rw [j8] at KV
  simp only [rG] at KV
  cases hed:zer k ops[k]
  case false=>simp [hed] at KV
  simp only [hed,XB] at KV
  have T8:∀ e ∈ (ops[k]).after,Region.binds .any e=true→e.on<k:=fun e he hb=>by
   have:=List.all_eq_true.1 hed e (by simpa using he)
   simp only [hb,Bool.not_true,Bool.false_or,Nat.blt_eq] at this
   exact this
  -- one operation more
  have more:∀ (e:iC) (st1:St),e.i=k→nG ((gC [] ops.toList).getD k 0) nx rs e=true→mE C ops nx e st st1→
    rG C ops (gC [] ops.toList) nx (QD (k+1) (ops.toList.drop (k+1))) (e :: rs) st1 K=some r→
    ∃ l stf,eF C ops nx l st stf∧K stf=some r∧l.map (·.i)=List.range' k (m+1)∧(∀ i o,k≤i→ops[i]?=some o→∀ e ∈ o.after,Region.binds .any e=true→e.on<i)∧
     (∀ e ∈ l,∀ e1 ∈ rs,Nat.testBit ((gC [] ops.toList).getD e.i 0) e1.i=true∨mG nx e1 e=true)∧
     l.Pairwise fun e1 e=>e1.i<e.i∧(Nat.testBit ((gC [] ops.toList).getD e.i 0) e1.i=true∨mG nx e1 e=true):=fun e st1 hei uY AY cW=>by
   obtain ⟨l,stf,k1,k2,k3,k4,k5,k6⟩:=zfX m (k+1) (e :: rs) st1 (by omega) cW
   have hli:∀ e' ∈ l,k+1≤e'.i:=fun e' YX=>by
    have:e'.i ∈ l.map (·.i):=List.mem_map.2 ⟨e',YX,rfl⟩
    rw [k3,List.mem_range'] at this
    obtain ⟨_,_,h⟩:=this;omega
   refine ⟨e :: l,stf, .cons AY k1,k2,by rw [List.map_cons,k3,hei,List.range'_succ],fun i o hi hio=>?_,fun e' YX e1 EZ=>?_,List.pairwise_cons.2 ⟨fun e' YX=>⟨?_,?_⟩,k6⟩⟩
   ·rcases Nat.lt_or_eq_of_le hi with h | h
    ·exact k4 i o h hio
    ·subst h;rw [ho] at hio;cases hio;exact T8
   ·rcases List.mem_cons.1 YX with rfl | YX
    ·rw [hei];exact zrz uY e1 EZ
    ·exact k5 e' YX e1 (List.mem_cons_of_mem _ EZ)
   ·have:=hli e' YX;omega
   ·exact k5 e' YX e (by simp)
  have skip:∀ (j:Nat) (want:Bool) (dj:Nat),(ops[k]).guard=some (j,want)→(ops[j]?).bind (·.dst)=some dj→(st.s dj= .tup []∨st.s dj= .bool (!want))→
    (bif nG ((gC [] ops.toList).getD k 0) nx rs ⟨k,(ops[k]).dst,[dj],[],[]⟩ then MA C (ops[k]).dst st (.tup []) fun st'=>
     rG C ops (gC [] ops.toList) nx (QD (k+1) (ops.toList.drop (k+1))) (⟨k,(ops[k]).dst,[dj],[],[]⟩ :: rs) st' K else none)=some r→
    ∃ l stf,eF C ops nx l st stf∧K stf=some r∧l.map (·.i)=List.range' k (m+1)∧(∀ i o,k≤i→ops[i]?=some o→∀ e ∈ o.after,Region.binds .any e=true→e.on<i)∧
     (∀ e ∈ l,∀ e1 ∈ rs,Nat.testBit ((gC [] ops.toList).getD e.i 0) e1.i=true∨mG nx e1 e=true)∧
     l.Pairwise fun e1 e=>e1.i<e.i∧(Nat.testBit ((gC [] ops.toList).getD e.i 0) e1.i=true∨mG nx e1 e=true):=fun j want dj hg T0 hv h=>by
   cases uY:nG ((gC [] ops.toList).getD k 0) nx rs ⟨k,(ops[k]).dst,[dj],[],[]⟩
   case false=>rw [uY] at h;cases h
   simp only [uY,cond_true] at h
   rw [lL] at h
   obtain ⟨st1,h1,h2⟩:=Option.bind_eq_some_iff.1 h
   exact more _ st1 rfl uY ⟨_,ho,rfl, .inr ⟨j,want,dj,hg,T0,by simp, .inr ⟨hv,h1⟩⟩⟩ h2
  split at KV
  ·rename_i hg
   cases uY:nG ((gC [] ops.toList).getD k 0) nx rs ⟨k,(ops[k]).dst,IJ ops[k],(JF ops[k] st).1,(JF ops[k] st).2⟩
   case false=>rw [uY] at KV;cases KV
   simp only [uY,XB] at KV
   unfold MD at KV
   rw [CM] at KV
   obtain ⟨x,h1,h2⟩:=Option.bind_eq_some_iff.1 KV
   exact more _ _ rfl uY ⟨_,ho,rfl, .inl ⟨hg,zb6 h1⟩⟩ h2
  ·rename_i j want hg
   split at KV
   ·cases KV
   rename_i dj T0
   split at KV
   ·rename_i hs
    exact skip j want dj hg T0 (.inl hs) KV
   ·rename_i t hs
    have zY:({ st with s:=uA st.s dj (.bool t) }:St)=st:=by
     have:uA st.s dj (.bool t)=st.s:=by
      funext q
      by_cases hq:q=dj
      ·subst hq;rw [IA,hs]
      ·rw [vA _ _ _ _ hq]
     rw [this]
    by_cases htw:t=want
    ·subst htw
     have KV:(bif nG ((gC [] ops.toList).getD k 0) nx rs ⟨k,(ops[k]).dst,dj :: IJ ops[k],(JF ops[k] { st with s:=uA st.s dj (.bool t) }).1,(JF ops[k] { st with s:=uA st.s dj (.bool t) }).2⟩ then
       MD C (nx+128 *k) ops[k] (dj :: IJ ops[k]) (JF ops[k] { st with s:=uA st.s dj (.bool t) }).1 (JF ops[k] { st with s:=uA st.s dj (.bool t) }).2 { st with s:=uA st.s dj (.bool t) } fun st'=>
        rG C ops (gC [] ops.toList) nx (QD (k+1) (ops.toList.drop (k+1))) (⟨k,(ops[k]).dst,dj :: IJ ops[k],(JF ops[k] { st with s:=uA st.s dj (.bool t) }).1,(JF ops[k] { st with s:=uA st.s dj (.bool t) }).2⟩ :: rs) st' K else none)=some r:=by
      cases t <;> exact KV
     rw [zY] at KV
     cases uY:nG ((gC [] ops.toList).getD k 0) nx rs ⟨k,(ops[k]).dst,dj :: IJ ops[k],(JF ops[k] st).1,(JF ops[k] st).2⟩
     case false=>rw [uY] at KV;cases KV
     simp only [uY,cond_true] at KV
     unfold MD at KV
     rw [CM] at KV
     obtain ⟨x,h1,h2⟩:=Option.bind_eq_some_iff.1 KV
     exact more _ _ rfl uY ⟨_,ho,rfl, .inr ⟨j,t,dj,hg,T0,by simp, .inl ⟨hs,zb6 h1⟩⟩⟩ h2
    ·have tX:t= !want:=by cases t <;> cases want <;> simp_all
     have KV:(bif nG ((gC [] ops.toList).getD k 0) nx rs ⟨k,(ops[k]).dst,[dj],[],[]⟩ then MA C (ops[k]).dst { st with s:=uA st.s dj (.bool t) } (.tup []) fun st'=>
       rG C ops (gC [] ops.toList) nx (QD (k+1) (ops.toList.drop (k+1))) (⟨k,(ops[k]).dst,[dj],[],[]⟩ :: rs) st' K else none)=some r:=by
      subst tX
      cases want <;> exact KV
     rw [zY] at KV
     exact skip j want dj hg T0 (.inr (by rw [hs,tX])) KV
   ·cases KV
theorem zsF (hC:yD C) (hΦ:RD C) {id:Nat} {ops:Array Oper} {Q:Exit→Act→World→Prop} {K:St→Option R} {r:R} (hD:∀ o ∈ ops,∀ d,o.dst=some d→D d)
  (hr:RA C w0 outer own ρ st a w) (hf:∀ q,st.nx≤q→ρ q=none)
  (KV:rG C ops (gC [] ops.toList) st.nx (QD 0 ops.toList) [] st (fun st'=>K { st' with nx:=st.nx+128 *ops.size })=some r)
  (OV:∀ st' a' w' ρ',xB C w0 outer own D st ρ st' a' w' ρ'→K st'=some r→Q .normal a' w'):(Code.region id ops true).wp C.P Q a w:=by
 obtain ⟨l,stf,k1,k2,k3,k4,k5,k6⟩:=zfX ops.size 0 [] st (by omega) KV
 obtain ⟨f1,f2,f3⟩:=k1.frame hD
 have O9:∀ i,i<ops.size↔∃ e ∈ l,e.i=i:=fun i=>by
  have : i ∈ l.map (·.i) ↔ i < ops.size := by rw [k3, List.mem_range']; constructor
                                              ·rintro ⟨_,h,rfl⟩;omega
                                              ·intro h;exact ⟨i,h,by omega⟩
  rw [← this,List.mem_map]
 have W8:∀ i,i<ops.size→(Array.replicate ops.size false).getD i true=false:=fun i hi=>by
  rw [Array.getD_eq_getD_getElem?,Array.getElem?_eq_getElem (by simpa using hi)];simp
 have V8:∀ i,(Array.replicate ops.size false).getD i false=false:=fun i=>by
  rw [Array.getD_eq_getD_getElem?]
  cases h:(Array.replicate ops.size false)[i]? with
  | none=>rfl
  | some b=>rw [Array.getElem?_replicate] at h;split at h <;> simp_all
 obtain ⟨m1,m2⟩:=hr.heap.world (w':= { w with drawn:=w.drawn+1 }) ⟨rfl,rfl,rfl,Nat.le_refl _⟩ rfl
 have MV:RA C w0 outer own ρ st a { w with drawn:=w.drawn+1 }:=⟨m1,fun i=>m2 _ _ (hr.slots i),hr.size,hr.defers,hr.glob⟩
 refine wp_region_any hC.mixed ?_
 refine zeq hC hΦ (fun i o ho=>k4 i o (Nat.zero_le _) ho) D hD ρ (fun a' w' ρ' h1 h2 h3=>?_) ops.size l _ st a _ ρ ?_ k1 k6 (by simp) (fun i hi=>⟨fun _=>(O9 i).1 hi,fun _=>W8 i hi⟩) (fun e he=>(O9 e.i).2 ⟨e,he,rfl⟩)
  (fun k o hk=>by rw [V8] at hk;cases hk) MV (fun e he q hq=>hf _ (by omega)) (fun q hq=>hf q (by omega)) (fun _ _ h=>h)
 ·refine OV { stf with nx:=st.nx+128 *ops.size } a' w' ρ' ⟨⟨h1.heap,h1.slots,h1.size,h1.defers,h1.glob⟩,h2,f1,f2,Nat.le_add_right _ _,h3⟩ k2
 ·have:=congrArg List.length k3
  simpa using this
end
end Go.D
namespace Go.D
variable [fA]
def AK:Ex→Exit
 | .normal=> .normal
 | .exit id=> .exit id
 | .ret=> .ret
section
variable {C:Cx} {w0:World} {outer own D:Nat→Prop} {R:Type} {st st1 st2:St} {ρ ρ1 ρ2:Nat→Option RI} {a a1 a2:Act} {w w1 w2:World}
theorem xB.refl (hr:RA C w0 outer own ρ st a w) (hf:∀ q,st.nx≤q→ρ q=none):xB C w0 outer own D st ρ st a w ρ:=
 ⟨hr,fun _ _ h=>h,fun _ _=>rfl,YB.refl _ _,Nat.le_refl _,hf⟩
theorem xB.trans (h:xB C w0 outer own D st ρ st1 a1 w1 ρ1) (k:xB C w0 outer own D st1 ρ1 st2 a2 w2 ρ2):xB C w0 outer own D st ρ st2 a2 w2 ρ2:=
 ⟨k.rel,fun q qi hq=>k.ext _ _ (h.ext _ _ hq),fun s hs=>(k.slots s hs).trans (h.slots s hs),h.keeps.trans (k.keeps.le h.nx),Nat.le_trans h.nx k.nx,k.fresh⟩
theorem xB.mono {D':Nat→Prop} (h:xB C w0 outer own D st ρ st1 a1 w1 ρ1) (hd:∀ s,D s→D' s):xB C w0 outer own D' st ρ st1 a1 w1 ρ1:=
 ⟨h.rel,h.ext,fun s hs=>h.slots s fun e=>hs (hd s e),h.keeps,h.nx,h.fresh⟩
omit [fA] in
theorem zsb {s:Nat} {ids:List Nat} (h:zbB st s=some ids):WF st.h ids:=by
 unfold zbB at h
 cases hb:Nat.ble 1000000 s
 ·simp only [hb,cond_false] at h
  split at h
  ·rename_i hf;cases h;exact lR hf
  ·cases h
 ·simp only [hb,cond_true] at h
  split at h
  ·split at h
   ·split at h
    ·rename_i hf;cases h;exact mN hf
    ·cases h
   ·cases h
  ·cases h
theorem CJ:∀ (pre:List Nat) (st st1:St),ZG pre st=some st1→RA C w0 outer own ρ st a w→RA C w0 outer own ρ st1 a w∧st1.s=st.s∧st1.nx=st.nx∧∀ n,YB n st.h st1.h
 | [],st,st1,h,hr=>by simp [ZG] at h;subst h;exact ⟨hr,rfl,rfl,fun n=>YB.refl n _⟩
 | s :: pre,st,st1,h,hr=>by
  simp only [ZG] at h
  split at h
  case h_2=>cases h
  rename_i ids hf
  obtain ⟨m1,m2⟩:=hr.heap.mark ids
  have MV:RA C w0 outer own ρ { st with h:=IB st.h ids } a w:=hr.turn m1 m2
  obtain ⟨k1,k2,k3,k4⟩:=CJ pre _ st1 h MV
  exact ⟨k1,k2,k3,fun n=>(vJ _ (zsb hf)).trans (k4 n)⟩
theorem xB.pre {pre:List Nat} (hp:ZG pre st=some st1) (hr:RA C w0 outer own ρ st a w) (h:xB C w0 outer own D st1 ρ st2 a2 w2 ρ2):xB C w0 outer own D st ρ st2 a2 w2 ρ2:=by
 obtain ⟨_,k2,k3,k4⟩:=CJ pre st st1 hp hr
 exact ⟨h.rel,h.ext,fun s hs=>by rw [h.slots s hs,k2],(k4 _).trans (by rw [← k3];exact h.keeps),by rw [← k3];exact h.nx,h.fresh⟩
theorem xB.unlock {j:JI} {b:St} (h:xB C w0 outer own D (cC j b) ρ st1 a1 w1 ρ1):xB C w0 outer own D b ρ (Go.D.unlock b st1) a1 w1 ρ1:=
 ⟨h.rel.unlock b,h.ext,h.slots,zqK h.keeps,h.nx,h.fresh⟩
theorem xB.install {j:JI} {b:St} {k:oC j.cs→Option R} {r:R} (hb:RA C w0 outer own ρ b a w) (hf:∀ q,b.nx≤q→ρ q=none) (h:xB C w0 outer own (fun s=>j.has s=true) (cC j b) ρ st1 a1 w1 ρ1)
  (HX:mK j=true) (he:sE j.cs st1 k=some r):∃ x,k x=some r∧∃ ρ2,xB C w0 outer own (fun s=>j.has s=true) b ρ (Go.D.install j b x) a1 w1 ρ2:=by
 obtain ⟨x,h1,ρ2,h2,h3,h4,h5⟩:=zbe hb hf h.rel h.fresh h.nx h.ext (fun s hs=>h.slots s (by simp [hs])) h.keeps HX he
 refine ⟨x,h1,ρ2,h2,h4,fun s hs=>NN j b x s (by simpa using hs),h5,?_,h3⟩
 simp only [Go.D.install];omega
theorem zfY (hC:yD C) (hΦ:RD C) {id:Nat} {pre:List Nat} {d:Bool} {ops:Array Oper} {Q:Exit→Act→World→Prop} {K:St→Option R} {r:R} (hD:∀ o ∈ ops,∀ d,o.dst=some d→D d)
  (hr:RA C w0 outer own ρ st a w) (hf:∀ q,st.nx≤q→ρ q=none) (KV:iO C pre d ops st K=some r)
  (OV:∀ st' a' w' ρ',xB C w0 outer own D st ρ st' a' w' ρ'→K st'=some r→Q .normal a' w'):(Code.region id ops d).wp C.P Q a w:=by
 cases d with
 | true=>
  simp only [iO,XB,zfW] at KV
  split at KV
  ·cases KV
  rename_i st0 hp
  obtain ⟨p1,p2,p3,p4⟩:=CJ _ _ _ hp hr
  exact zsF hC hΦ hD p1 (by rw [← p3] at hf;exact hf) KV fun st' a' w' ρ' h1 h2=>OV st' a' w' ρ' (xB.pre hp hr h1) h2
 | false=>
  simp only [iO,CK] at KV
  refine wp_region ?_
  rw [List.range_eq_range']
  refine zbH hC hΦ st.nx hD ops.size 0 st a w ρ (by omega) hr (fun q hq=>hf q (by omega)) KV fun st' a' w' ρ' h1 h2 h3 h4 h5 h6 h7=>?_
  exact OV { st' with nx:=st.nx+128 *ops.size } a' w' ρ' ⟨⟨h1.heap,h1.slots,h1.size,h1.defers,h1.glob⟩,h3,h4,h5,Nat.le_add_right _ _,h2⟩ h7
end
end Go.D
namespace Go.D
variable [fA]
section
variable {C:Cx} {w0:World} {outer own D:Nat→Prop} {R:Type} {st st1 st2:St} {ρ ρ1 ρ2:Nat→Option RI} {a a1 a2:Act} {w w1 w2:World} {j:JI}
omit [fA] in
theorem zsE (t:TN) (x:El t):∀ c ∈ enc t x,OH c=none:=by
 intro c hc
 cases t <;> (simp [enc,QQ,zaO,zaJ,zaM,zaH,zaU,zaI,zaE,zaD,zaQ,zaS,zaT,RQ,zaR,zaK,TQ,zaF,zaV,zaN,zaW,zaG,zaP,SQ,zaL] at hc;rcases hc with rfl | hc <;> (repeat (first | rfl | (rcases hc with rfl | hc))))
omit [fA] in
theorem zfU (ow:List Nat) (base:Nat):∀ (es:List V) (p r:Nat),(∀ c ∈ es,OH c=none)→∀ c ∈ JA ow base p es,OH c=some r→base≤r
 | [],p,r,_,c,hc,_=>by simp [JA] at hc
 | e :: es,p,r,he,c,hc,h=>by
  have ih:=zfU ow base es (p+1) r (fun c hc=>he c (by simp [hc]))
  have h0:=he e (by simp)
  cases e <;> (simp only [JA,List.mem_cons] at hc;rcases hc with rfl | hc) <;> first | exact ih c hc h | (rw [h0] at h;cases h) | skip
  cases hb:ow.any (Nat.beq p)
  ·simp [hb,OH] at h
  ·simp [hb,OH] at h;omega
def zcn (sl:Nat→V) (cs:List DB) (id:Nat) (h:Nat→Option nA) (q:Nat) (row:nA):Prop:=
 h q=some row∨(id≤q∧∃ t l,row.c= .arr t l)∨(∃ s t ow es, .box s t ow ∈ cs∧sl s= .bp q 0∧row=⟨.box es, .own⟩∧∀ c ∈ es,∀ r,OH c=some r→id≤r)
omit [fA] in
theorem zbc (sl:Nat→V):∀ (cs:List DB) (id:Nat) (x:oC cs) (h:Nat→Option nA) (q:Nat) (row:nA),sJ sl cs id x h q=some row→zcn sl cs id h q row:=by
 have one:∀ (c:DB) (id:Nat) (x:c.T) (h:Nat→Option nA) (q:Nat) (row:nA),UG sl c id x h q=some row→zcn sl [c] id h q row:=by
  intro c id x h q row hq
  cases c with
  | drop s=>exact .inl hq
  | slot s ty=>exact .inl hq
  | own s t=>
   simp only [UG] at hq
   by_cases O6:q=id
   ·subst O6;rw [IA] at hq;cases hq;exact .inr (.inl ⟨Nat.le_refl _,_,_,rfl⟩)
   ·rw [vA _ _ _ _ O6] at hq;exact .inl hq
  | box s t ow=>
   simp only [UG] at hq
   generalize hs:sl s=v at hq
   cases v with
   | bp r off=>
    cases off with
    | zero=>
     simp only at hq
     by_cases qW:q=r
     ·subst qW;rw [IA] at hq;cases hq
      exact .inr (.inr ⟨s,t,ow,_,by simp,hs,rfl,fun c hc r hr=>zfU ow id _ 0 r (zsE t x) c hc hr⟩)
     ·rw [vA _ _ _ _ qW,FB] at hq
      split at hq
      ·rename_i y hy
       cases hq
       obtain ⟨_,_,he,h1,h2⟩:=UC _ _ _ _ _ _ hy
       exact .inr (.inl ⟨by omega,_,_,congrArg nA.c he⟩)
      ·exact .inl hq
    | succ n=>exact .inl hq
   | _=>exact .inl hq
 intro cs
 induction cs with
 | nil=>intro id x h q row hq;exact .inl hq
 | cons c cs ih=>
  intro id x h q row hq
  cases cs with
  | nil=>exact one c id x h q row hq
  | cons d r=>
   rcases one c id x.1 _ q row hq with h1 | h1 | ⟨s,t,ow,es,h1,h2,h3,h4⟩
   ·rcases ih (id+128) x.2 h q row h1 with h2 | ⟨h2,h3⟩ | ⟨s,t,ow,es,h3,h4,h5,h6⟩
    ·exact .inl h2
    ·exact .inr (.inl ⟨by omega,h3⟩)
    ·exact .inr (.inr ⟨s,t,ow,es,List.mem_cons_of_mem _ h3,h4,h5,fun c hc r hr=>by have:=h6 c hc r hr;omega⟩)
   ·exact .inr (.inl h1)
   ·exact .inr (.inr ⟨s,t,ow,es,by simp at h1;simp [h1],h2,h3,h4⟩)
omit [fA] in
theorem zqE (f:Nat→V) (s:Nat) (t:TN):∀ (cs:List DB) (id:Nat) (x:oC cs),UF cs=true→ .own s t ∈ cs→∃ r,vE cs id x f s= .ow r∧id≤r:=by
 intro cs
 induction cs with
 | nil=>intro id x _ h;simp at h
 | cons c cs ih=>
  intro id x hn hm
  have key:∀ (y:c.T) (g:Nat→V),c= .own s t→∃ r,LF c id y g s= .ow r∧id≤r:=by
   intro y g hc;subst hc;exact ⟨id,IA _ _ _,Nat.le_refl _⟩
  rcases List.mem_cons.1 hm with he | hm
  ·cases cs with
   | nil=>exact key x f he.symm
   | cons d r=>exact key x.1 _ he.symm
  ·cases cs with
   | nil=>simp at hm
   | cons d r=>
    have I6:UF (d :: r)=true∧∀ y g,LF c id y g s=g s:=by
     have hs:HC (d :: r) s=true:=by
      clear ih
      generalize d :: r=l at hm
      induction l with
      | nil=>simp at hm
      | cons e l ih=>
       rcases List.mem_cons.1 hm with h | h
       ·subst h;simp [HC]
       ·cases e <;> simp [HC,ih h]
     cases c with
     | slot s' ty=>
      simp only [UF,Bool.and_eq_true,Bool.not_eq_true'] at hn
      refine ⟨hn.2,fun y g=>vA _ _ _ _ ?_⟩
      rintro rfl;rw [hs] at hn;exact absurd hn.1 (by simp)
     | own s' ty=>
      simp only [UF,Bool.and_eq_true,Bool.not_eq_true'] at hn
      refine ⟨hn.2,fun y g=>vA _ _ _ _ ?_⟩
      rintro rfl;rw [hs] at hn;exact absurd hn.1 (by simp)
     | box s' ty ow=>exact ⟨hn,fun y g=>rfl⟩
     | drop s'=>exact ⟨hn,fun y g=>rfl⟩
    obtain ⟨q,h1,h2⟩:=ih (id+128) x.2 I6.1 hm
    exact ⟨q,by simp only [vE];rw [I6.2];exact h1,by omega⟩
omit [fA] in
theorem zqX {b:St} {x:oC j.cs} (HX:mK j=true) (hn:UF j.cs=true) (hk:YB b.nx b.h (install j b x).h):
  YB b.nx (cC j b).h (cC j (install j b x)).h:=by
 intro q row hq hr hm
 simp only [cC] at hr
 split at hr
 ·rename_i c hc
  cases hi:DH j.cs b q
  case true=>simp only [hi,cond_true,Option.some.injEq] at hr;subst hr;cases hm
  simp only [hi,cond_false,Option.some.injEq] at hr
  subst hr
  have g8:∀ s t ow,DB.box s t ow ∈ j.cs→(install j b x).s s=b.s s:=fun s t ow hm=>NN j b x s (by
   have:=List.all_eq_true.1 HX _ hm;simpa using this)
  have hdr:∀ s,DB.drop s ∈ j.cs→(install j b x).s s=b.s s:=fun s hm=>NN j b x s (by
   have:=List.all_eq_true.1 HX _ hm;simpa using this)
  have ZX:∀ c ∈ j.cs,gG b q c=false:=fun c hc=>by
   have h0:(j.cs.any (gG b q))=false:=hi
   cases h1:gG b q c with
   | false=>rfl
   | true=>rw [List.any_eq_true.2 ⟨c,hc,h1⟩] at h0;cases h0
  have hnb:∀ s t ow,DB.box s t ow ∈ j.cs→b.s s≠ .bp q 0:=fun s t ow hm h=>by
   have:=ZX _ hm;simp [gG,h] at this
  have o5:∀ s,DB.drop s ∈ j.cs→b.s s≠ .bp q 0:=fun s hm h=>by
   have:=ZX _ hm;simp [gG,h] at this
  have cW:wF j b q=some ⟨c, .own⟩:=by simp [wF,hc,hi]
  have h1:(install j b x).h q=some ⟨c, .own⟩:=by
   obtain ⟨row',h2⟩:=ze6 b.s j.cs b.nx x _ q _ cW
   rcases zbc b.s j.cs b.nx x _ q _ h2 with h3 | ⟨h3,_⟩ | ⟨s,t,ow,es,h3,h4,_⟩
   ·rw [cW] at h3;cases h3;exact h2
   ·omega
   ·exact absurd h4 (hnb s t ow h3)
  have h2:DH j.cs (install j b x) q=false:=by
   cases h3:DH j.cs (install j b x) q with
   | false=>rfl
   | true=>
    exfalso
    obtain ⟨cm,h4,h5⟩:=List.any_eq_true.1 h3
    cases cm with
    | slot s ty=>cases h5
    | own s t=>
     obtain ⟨r,h6,h7⟩:=zqE (fun i=>bif rJ j.kill i then .undef else b.s i) s t j.cs b.nx x hn h4
     have h8:(install j b x).s s= .ow r:=h6
     simp only [gG,h8,OH] at h5
     have:=Nat.eq_of_beq_eq_true h5;omega
    | box s t ow=>
     have h6:=g8 s t ow h4
     simp only [gG,h6] at h5
     split at h5
     ·rename_i bb G5
      simp only [Bool.or_eq_true] at h5
      rcases h5 with h5 | h5
      ·have:=Nat.eq_of_beq_eq_true h5;subst this;exact hnb s t ow h4 G5
      ·split at h5
       ·rename_i cs m i8
        obtain ⟨cc,h7,h8⟩:=List.any_eq_true.1 h5
        split at h8
        ·rename_i r' I3
         have:=Nat.eq_of_beq_eq_true h8;subst this
         rcases zbc b.s j.cs b.nx x _ bb _ i8 with h9 | ⟨_,_,_,h9⟩ | ⟨s',t',ow',es,_,_,h9,oW⟩
         ·have gW:∃ m',b.h bb=some ⟨.box cs,m'⟩:=by
           unfold wF at h9
           split at h9
           ·rename_i c' E0
            cases CW:DH j.cs b bb
            ·simp only [CW,cond_false,Option.some.injEq] at h9;cases h9;exact ⟨_,E0⟩
            ·simp [CW] at h9
           ·exact ⟨_,h9⟩
          obtain ⟨m',gW⟩:=gW
          have FW:=ZX _ h4
          simp only [gG,G5,gW,Bool.or_eq_false_iff] at FW
          have UW:=List.any_eq_false.1 FW.2 cc h7
          rw [I3] at UW
          exact UW h8
         ·cases h9
         ·cases h9
          have:=oW cc h7 _ I3;omega
        ·cases h8
       ·cases h5
     ·cases h5
    | drop s=>
     have h6:=hdr s h4
     simp only [gG,h6] at h5
     split at h5
     ·rename_i bb G5
      simp only [Bool.or_eq_true] at h5
      rcases h5 with h5 | h5
      ·have:=Nat.eq_of_beq_eq_true h5;subst this;exact o5 s h4 G5
      ·split at h5
       ·rename_i cs m i8
        obtain ⟨cc,h7,h8⟩:=List.any_eq_true.1 h5
        split at h8
        ·rename_i r' I3
         have:=Nat.eq_of_beq_eq_true h8;subst this
         rcases zbc b.s j.cs b.nx x _ bb _ i8 with h9 | ⟨_,_,_,h9⟩ | ⟨s',t',ow',es,_,_,h9,oW⟩
         ·have gW:∃ m',b.h bb=some ⟨.box cs,m'⟩:=by
           unfold wF at h9
           split at h9
           ·rename_i c' E0
            cases CW:DH j.cs b bb
            ·simp only [CW,cond_false,Option.some.injEq] at h9;cases h9;exact ⟨_,E0⟩
            ·simp [CW] at h9
           ·exact ⟨_,h9⟩
          obtain ⟨m',gW⟩:=gW
          have FW:=ZX _ h4
          simp only [gG,G5,gW,Bool.or_eq_false_iff] at FW
          have UW:=List.any_eq_false.1 FW.2 cc h7
          rw [I3] at UW
          exact UW h8
         ·cases h9
         ·cases h9
          have:=oW cc h7 _ I3;omega
        ·cases h8
       ·cases h5
     ·cases h5
  simp only [cC,h1,h2,cond_false]
 ·have h1:=hk q row hq hr hm
  simp only [cC,h1]
  obtain ⟨c,m⟩:=row
  cases m with
  | own=>cases hm
  | ro=>rfl
  | lock=>rfl
theorem xB.round {b:St} {x:oC j.cs} {k:oC j.cs→Option R} {r:R} (hb:RA C w0 outer own ρ b a w) (hf:∀ q,b.nx≤q→ρ q=none)
  (h0:xB C w0 outer own (fun s=>j.has s=true) b ρ (Go.D.install j b x) a1 w1 ρ1)
  (h:xB C w0 outer own (fun s=>j.has s=true) (cC j (Go.D.install j b x)) ρ1 st2 a2 w2 ρ2)
  (HX:mK j=true) (hn:UF j.cs=true) (he:sE j.cs st2 k=some r):∃ y,k y=some r∧∃ ρ3,xB C w0 outer own (fun s=>j.has s=true) b ρ (Go.D.install j b y) a2 w2 ρ3:=by
 have hnx:b.nx≤st2.nx:=Nat.le_trans h0.nx h.nx
 obtain ⟨y,h1,ρ3,h2,h3,h4,h5⟩:=zbe (ρ':=ρ2) hb hf h.rel h.fresh hnx (fun q qi hq=>h.ext _ _ (h0.ext _ _ hq)) (fun s hs=>by
   have hs':¬ (j.has s=true):=by simp [hs]
   have e1:=h.slots s hs'
   have e2:=h0.slots s hs'
   exact e1.trans e2)
  ((zqX HX hn h0.keeps).trans (h.keeps.le h0.nx)) HX he
 refine ⟨y,h1,ρ3,h2,h4,fun s hs=>NN j b y s (by simpa using hs),h5,?_,h3⟩
 simp only [Go.D.install];omega
theorem zfp {an:An} {c:Code} {b:St} {K:Ex→St→Option R} {r:R} {Q:Exit→Act→World→Prop} (hb:RA C w0 outer own ρ b a w) (hf:∀ q,b.nx≤q→ρ q=none)
  (HX:mK j=true) (hn:UF j.cs=true)
  (body:∀ (st:St) (a:Act) (w:World) (ρ:Nat→Option RI) (K:Ex→St→Option R) (Q:Exit→Act→World→Prop),RA C w0 outer own ρ st a w→(∀ q,st.nx≤q→ρ q=none)→bD C an c st K=some r→
   (∀ e st' a' w' ρ',xB C w0 outer own (fun s=>j.has s=true) st ρ st' a' w' ρ'→K e st'=some r→Q (AK e) a' w')→c.wp C.P Q a w)
  (OV:∀ e st' a' w' ρ',xB C w0 outer own (fun s=>j.has s=true) b ρ st' a' w' ρ'→K e st'=some r→Q (AK e) a' w'):
  ∀ (n:Nat) (x:oC j.cs) (a1:Act) (w1:World) (ρ1:Nat→Option RI),xB C w0 outer own (fun s=>j.has s=true) b ρ (Go.D.install j b x) a1 w1 ρ1→
   tA n (fun (x : oC j.cs) (k : oC j.cs → Option R) => bD C an c (cC j (Go.D.install j b x)) fun e st' => match e with
        | .normal=>sE j.cs st' k
        | e=>K e (Go.D.unlock (Go.D.install j b x) st')) x=some r→Code.rounds C.P c Q n a1 w1
 | 0,x,a1,w1,ρ1,h0,h=>by simp [tA] at h
 | n+1,x,a1,w1,ρ1,h0,h=>by
  rw [rounds_succ]
  simp only [tA] at h
  refine body _ a1 w1 ρ1 _ _ (h0.rel.lock j) h0.fresh h fun e st' a' w' ρ' hg hk=>?_
  cases e with
  | normal=>
   obtain ⟨y,k1,ρ3,k2⟩:=h0.round hb hf hg HX hn hk
   exact zfp hb hf HX hn body OV n y a' w' ρ3 k2 k1
  | exit id=>exact OV (.exit id) _ a' w' ρ' (h0.trans hg.unlock) hk
  | ret=>exact OV .ret _ a' w' ρ' (h0.trans hg.unlock) hk
theorem zfV (hC:yD C) (hΦ:RD C) (an:An):∀ (c:Code) (D:Nat→Prop),AF an D c→∀ (st:St) (a:Act) (w:World) (ρ:Nat→Option RI) (K:Ex→St→Option R) (r:R) (Q:Exit→Act→World→Prop),
  RA C w0 outer own ρ st a w→(∀ q,st.nx≤q→ρ q=none)→bD C an c st K=some r→
  (∀ e st' a' w' ρ',xB C w0 outer own D st ρ st' a' w' ρ'→K e st'=some r→Q (AK e) a' w')→c.wp C.P Q a w:=by
 intro c
 induction c with
 | skip=>
  intro D hT st a w ρ K r Q hr hf KV OV
  exact wp_skip (OV .normal st a w ρ (xB.refl hr hf) KV)
 | region id ops d=>
  intro D hT st a w ρ K r Q hr hf KV OV
  simp only [bD] at KV
  split at KV
  ·exact zfY hC hΦ hT.1 hr hf KV fun st' a' w' ρ' h1 h2=>OV .normal st' a' w' ρ' h1 h2
  ·rename_i j hj
   split at KV
   ·cases KV
   rename_i st0 hp
   obtain ⟨p1,p2,p3,p4⟩:=CJ _ _ _ hp hr
   cases EX:RE an j (.region id ops d)
   case false=>simp [EX] at KV
   simp only [EX,XB,aA] at KV
   simp only [RE,Bool.and_eq_true] at EX
   have hw:=bF an j _ EX.1.1
   refine zfY (D:=fun s=>j.has s=true) hC hΦ hw.1 (p1.lock j) (by rw [← p3] at hf;exact hf) KV fun st' a' w' ρ' h1 h2=>?_
   obtain ⟨x,k1,ρ2,k2⟩:=xB.install p1 (by rw [← p3] at hf;exact hf) h1 EX.1.2 h2
   have hD:∀ s,j.has s=true→D s:=by have:=hT.2;rw [hj] at this;exact this
   exact OV .normal _ a' w' ρ2 (xB.pre hp hr (k2.mono hD)) k1
 | seq x y ihx ihy=>
  intro D hT st a w ρ K r Q hr hf KV OV
  simp only [bD] at KV
  refine wp_seq (ihx D hT.1 st a w ρ _ r _ hr hf KV fun e st' a' w' ρ' h1 h2=>?_)
  cases e with
  | normal=>exact ihy D hT.2 st' a' w' ρ' _ r _ h1.rel h1.fresh h2 fun e st2 a2 w2 ρ2 h3 h4=>OV e st2 a2 w2 ρ2 (h1.trans h3) h4
  | exit id=>exact OV (.exit id) st' a' w' ρ' h1 h2
  | ret=>exact OV .ret st' a' w' ρ' h1 h2
 | cond c x y ihx ihy=>
  intro D hT st a w ρ K r Q hr hf KV OV
  cases c with
  | tmp t=>
   simp only [bD] at KV
   split at KV
   case h_2=>cases KV
   rename_i b hb
   have hv:=hr.slots t
   rw [hb] at hv
   have hc:a.eval (.tmp t)= .bool b:=by
    show a.tmps.getD t undef=_
    generalize a.tmps.getD t undef=v at hv;cases hv;rfl
   refine wp_cond hc ?_
   split at KV
   ·cases b with
    | true=>exact ihx D hT.1 st a w ρ K r Q hr hf KV OV
    | false=>exact ihy D hT.2.1 st a w ρ K r Q hr hf KV OV
   ·rename_i j hj
    split at KV
    ·cases KV
    rename_i st0 hp
    obtain ⟨p1,p2,p3,p4⟩:=CJ _ _ _ hp hr
    cases EX:RE an j x&&RE an j y
    case false=>simp [EX] at KV
    simp only [EX,XB,aA] at KV
    simp only [RE,Bool.and_eq_true] at EX
    have hD:∀ s,j.has s=true→D s:=by have:=hT.2.2;rw [hj] at this;exact this
    have V2:∀ q,st0.nx≤q→ρ q=none:=by rw [← p3] at hf;exact hf
    have gB:∀ (e:Ex) (st':St) (a':Act) (w':World) (ρ':Nat→Option RI),xB C w0 outer own (fun s=>j.has s=true) (cC j st0) ρ st' a' w' ρ'→
      (match e with
       | .normal=>sE j.cs st' fun y=>K .normal (Go.D.install j st0 y)
       | e=>K e (Go.D.unlock st0 st'))=some r→Q (AK e) a' w':=by
     intro e st' a' w' ρ' h1 h2
     cases e with
     | normal=>
      obtain ⟨x,k1,ρ2,k2⟩:=xB.install p1 V2 h1 EX.1.1.2 h2
      exact OV .normal _ a' w' ρ2 (xB.pre hp hr (k2.mono hD)) k1
     | exit id=>exact OV (.exit id) _ a' w' ρ' (xB.pre hp hr (h1.unlock.mono hD)) h2
     | ret=>exact OV .ret _ a' w' ρ' (xB.pre hp hr (h1.unlock.mono hD)) h2
    cases b with
    | true=>exact ihx _ (bF an j _ EX.1.1.1) (cC j st0) a w ρ _ r Q (p1.lock j) V2 KV gB
    | false=>exact ihy _ (bF an j _ EX.2.1.1) (cC j st0) a w ρ _ r Q (p1.lock j) V2 KV gB
  | _=>simp [bD] at KV
 | block id x ih=>
  intro D hT st a w ρ K r Q hr hf KV OV
  refine wp_block ?_
  simp only [bD] at KV
  split at KV
  ·refine ih D hT.1 st a w ρ _ r _ hr hf KV fun e st' a' w' ρ' h1 h2=>?_
   cases e with
   | normal=>exact OV .normal st' a' w' ρ' h1 h2
   | ret=>exact OV .ret st' a' w' ρ' h1 h2
   | exit id'=>
    simp only [AK,Exit.inBlock]
    simp only at h2
    cases hb:Nat.beq id' id
    ·have RY:¬ id'=id:=fun e=>by subst e;simp at hb
     rw [if_neg RY];rw [hb] at h2;exact OV (.exit id') st' a' w' ρ' h1 h2
    ·have RY:=Nat.eq_of_beq_eq_true hb
     rw [if_pos RY];rw [hb] at h2;exact OV .normal st' a' w' ρ' h1 h2
  ·rename_i j hj
   split at KV
   ·cases KV
   rename_i st0 hp
   obtain ⟨p1,p2,p3,p4⟩:=CJ _ _ _ hp hr
   cases EX:RE an j x
   case false=>simp [EX] at KV
   simp only [EX,XB,aA] at KV
   simp only [RE,Bool.and_eq_true] at EX
   have hD:∀ s,j.has s=true→D s:=by have:=hT.2;rw [hj] at this;exact this
   have V2:∀ q,st0.nx≤q→ρ q=none:=by rw [← p3] at hf;exact hf
   refine ih _ (bF an j _ EX.1.1) (cC j st0) a w ρ _ r _ (p1.lock j) V2 KV fun e st' a' w' ρ' h1 h2=>?_
   cases e with
   | normal=>
    obtain ⟨x,k1,ρ2,k2⟩:=xB.install p1 V2 h1 EX.1.2 h2
    exact OV .normal _ a' w' ρ2 (xB.pre hp hr (k2.mono hD)) k1
   | ret=>exact OV .ret _ a' w' ρ' (xB.pre hp hr (h1.unlock.mono hD)) h2
   | exit id'=>
    simp only [AK,Exit.inBlock]
    simp only at h2
    cases hb:Nat.beq id' id
    ·have RY:¬ id'=id:=fun e=>by subst e;simp at hb
     rw [if_neg RY];rw [hb] at h2;exact OV (.exit id') _ a' w' ρ' (xB.pre hp hr (h1.unlock.mono hD)) h2
    ·have RY:=Nat.eq_of_beq_eq_true hb
     rw [if_pos RY];rw [hb] at h2
     obtain ⟨x,k1,ρ2,k2⟩:=xB.install p1 V2 h1 EX.1.2 h2
     exact OV .normal _ a' w' ρ2 (xB.pre hp hr (k2.mono hD)) k1
 | loop x ih=>
  intro D hT st a w ρ K r Q hr hf KV OV
  simp only [bD] at KV
  split at KV
  ·cases KV
  rename_i rid hrid
  split at KV
  ·cases KV
  rename_i j hj
  split at KV
  ·cases KV
  rename_i st0 hp
  obtain ⟨p1,p2,p3,p4⟩:=CJ _ _ _ hp hr
  cases EX:RE an j x
  case false=>simp [EX] at KV
  simp only [EX,XB] at KV
  simp only [RE,Bool.and_eq_true] at EX
  have hD:∀ s,j.has s=true→D s:=by have:=hT.2;simp only [hrid,hj] at this;exact this
  have V2:∀ q,st0.nx≤q→ρ q=none:=by rw [← p3] at hf;exact hf
  obtain ⟨x0,h1,ρ2,h2,h3,h4,h5⟩:=zbe (b:=st0) (st':=cC j st0) p1 V2 (p1.lock j) V2 (Nat.le_refl _) (fun _ _ h=>h) (fun _ _=>rfl) (YB.refl _ _) EX.1.2 KV
  refine wp_loop_rounds FU (zfp (j:=j) p1 V2 EX.1.2 EX.2 (fun st a w ρ K Q hr hf KV OV=>ih _ (bF an j _ EX.1.1) st a w ρ K r Q hr hf KV OV)
    (fun e st' a' w' ρ' hg hk=>OV e st' a' w' ρ' (xB.pre hp hr (hg.mono hD)) hk) FU x0 a w ρ2 ⟨h2,h4,fun s hs=>NN j st0 x0 s (by simpa using hs),h5,?_,h3⟩ h1)
  simp only [Go.D.install];omega
 | exit id=>
  intro D hT st a w ρ K r Q hr hf KV OV
  exact wp_exit (OV (.exit id) st a w ρ (xB.refl hr hf) KV)
 | ret=>
  intro D hT st a w ρ K r Q hr hf KV OV
  exact wp_ret (OV .ret st a w ρ (xB.refl hr hf) KV)
 | _=>
  intro D hT st a w ρ K r Q hr hf KV OV
  simp [bD] at KV
end
end Go.D

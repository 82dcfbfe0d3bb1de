/-
  Regions that draw their order: one run in the order of the text serves every order.
-/
import Derived.Test.YtinolgjddfjojaaGreatL5
import Derived.Orders
import Derived.LoopN
namespace Go.D
section
variable {C:Cx} {w0:World} {outer own D:Nat→Prop} {R:Type} {st st' st1 st2:St} {ρ ρ1 ρ2:Nat→Option RI} {a a1 a2:Act} {w w1 w2:World}
theorem memN_iff {r:Nat} {l:List Nat}:memN r l=true↔r ∈ l:=by
  unfold memN
  rw [List.any_eq_true]
  constructor
  · rintro ⟨x,h1,h2⟩;rw [Nat.eq_of_beq_eq_true h2];exact h1
  · intro h;exact ⟨r,h,by simp⟩
theorem memN_false {r:Nat} {l:List Nat}:memN r l=false↔r ∉ l:=by
  rw [← memN_iff];cases memN r l <;> simp
theorem inFresh_iff {b r:Nat}:inFresh b r=true↔b≤r∧r<b+128:=by
  simp only [inFresh,Bool.and_eq_true,Nat.ble_eq,Nat.blt_eq]
theorem inFresh_false {b r:Nat}:inFresh b r=false↔¬ (b≤r∧r<b+128):=by
  rw [← inFresh_iff];cases inFresh b r <;> simp
theorem does_put {P:Program} {o:Oper} {post:Act→World→Prop} (h:Does P o a w post) (hd:∀ a' w',post a' w'→a'.defers=[]):
    Does P o a w fun a' w'=>post a' w'∧∃ v,a'=a.put o.dst v:=by
  intro next Q hn
  have h0:=h post Q fun _ _ h=>h
  unfold Oper.wp at *
  generalize (execOp a.eval o).run P w=x at *
  have put:∀ v w',post (a.put o.dst v) w'→next (a.put o.dst v) w':=fun v w' hp=>hn _ _ ⟨hp,v,rfl⟩
  cases x with
  | ok n w'=>
    have nodef:∀ d w',post ({ a with defers:=d :: a.defers }.put o.dst undef) w'→False:=fun d w' hp=>by
      have:=hd _ _ hp
      revert this
      cases o.dst <;> simp [Act.put]
    cases n <;> simp only [Oper.upon] at h0 ⊢ <;> first
      | exact put _ _ h0
      | exact Calls.mono' h0 fun e w'' he=>by cases e <;> first | exact put _ _ he | exact he
      | exact h0.mono fun _ _ he=>put _ _ he
      | exact (nodef _ _ h0).elim
      | exact h0
  | halt x w'=>cases x <;> simp only [Oper.upon] at h0 ⊢ <;> exact h0
def NewOk (st st':St):Prop:=∀ r row,st'.h r=some row→(∃ row0,st.h r=some row0)∨row.m.isOwn=true
theorem new_put {dst:Option Nat} {h':Nat→Option Row} (hk:∀ r row,h' r=some row→(∃ row0,st.h r=some row0)∨row.m.isOwn=true) (v:V):All (NewOk st) (putK C dst { st with h:=h' } v some):=by
  intro st' h
  cases dst with
  | none=>simp [putK] at h;subst h;exact hk
  | some d=>
    simp only [putK] at h
    cases hb:Nat.blt d C.nt <;> simp [hb] at h
    subst h;exact hk
theorem new_put0 {dst:Option Nat} (v:V):All (NewOk st) (putK C dst st v some):=new_put (fun _ row h=> .inl ⟨row,h⟩) v
theorem new_upd {h h':Nat→Option Row} (hk:∀ r row,h' r=some row→(∃ row0,h r=some row0)∨row.m.isOwn=true) (i:Nat) (c:RowC):
    ∀ r row,upd h' i (some ⟨c, .own⟩) r=some row→(∃ row0,h r=some row0)∨row.m.isOwn=true:=fun r row hr=>by
  by_cases hi:r=i
  · subst hi;rw [upd_same] at hr;cases hr;exact .inr rfl
  · rw [upd_other _ _ _ _ hi] at hr;exact hk r row hr
theorem new_mark (h:Nat→Option Row) (ids:List Nat):∀ r row,markRo h ids r=some row→(∃ row0,h r=some row0)∨row.m.isOwn=true:=fun r row hr=>by
  obtain ⟨row',h1,_⟩:=markRo_less h ids r row hr;exact .inl ⟨row',h1⟩
theorem new_kill (h:Nat→Option Row) (r:Option Nat):∀ q row,killO h r q=some row→(∃ row0,h q=some row0)∨row.m.isOwn=true:=fun q row hq=>by
  cases r with
  | none=>exact .inl ⟨row,hq⟩
  | some r=>obtain ⟨row',h1,_⟩:=less_kill h r q row hq;exact .inl ⟨row',h1⟩
theorem new_drop (h:Nat→Option Row) (r:Nat):∀ q row,upd h r none q=some row→(∃ row0,h q=some row0)∨row.m.isOwn=true:=fun q row hq=>by
  by_cases hi:q=r
  · subst hi;rw [upd_same] at hq;cases hq
  · rw [upd_other _ _ _ _ hi] at hq;exact .inl ⟨row,hq⟩
theorem new_new {dst:Option Nat} {h':Nat→Option Row} (hk:∀ r row,h' r=some row→(∃ row0,st.h r=some row0)∨row.m.isOwn=true) (i:Nat) (c:RowC) (v:V):
    All (NewOk st) (newK C dst { st with h:=h' } i c v some):=new_put (new_upd hk i c) v
theorem new_new0 {dst:Option Nat} (i:Nat) (c:RowC) (v:V):All (NewOk st) (newK C dst st i c v some):=new_put (new_upd (fun _ row h=> .inl ⟨row,h⟩) i c) v
theorem new_call {dst:Option Nat} (i f:Nat) (as:List V):All (NewOk st) (callK C i dst st f as some):=by
  unfold callK
  split
  · exact all_none
  rename_i ci _
  split
  · split
    · exact all_none
    rename_i as' h' bs hta
    refine all_bnd _ fun x _=>all_bind _ fun r _=>all_gd _ fun hlen=>new_put ?_ _
    simp only [Bool.and_eq_true] at hlen
    intro q row hq
    rw [exX_or] at hq
    split at hq
    · rename_i y hy
      cases hq
      rw [exX_own (Nat.le_of_ble_eq_true hlen.1) hy];exact .inr rfl
    · exact .inl ⟨row,hq⟩
  rename_i as' h' bs hta
  refine all_bnd _ fun x _=>all_bind _ fun r _=>all_gd _ fun hlen=>new_put ?_ _
  intro q row hq
  have hlen:=Nat.le_of_ble_eq_true hlen
  rw [exX_or] at hq
  split at hq
  · rename_i y hy
    cases hq
    rw [exX_own hlen hy];exact .inr rfl
  · cases hp:pureC ci (ci.eR r)
    · rw [hp] at hq
      obtain ⟨row',h1,_⟩:=takeArgs_less _ _ _ _ hta q row hq
      exact .inl ⟨row',h1⟩
    · rw [hp] at hq;exact .inl ⟨row,hq⟩
theorem stepK_new {i:Nat} (o:Oper):All (NewOk st) (stepK C i o st some):=by
  unfold stepK
  repeat' first
    | exact all_none
    | exact new_put0 _
    | exact new_new0 _ _ _
    | exact new_call _ _ _
    | exact new_put (new_mark _ _) _
    | exact new_put (new_drop _ _) _
    | exact new_new (new_mark _ _) _ _ _
    | exact new_new (new_kill _ _) _ _ _
    | exact new_put (new_upd (fun _ row h=> .inl ⟨row,h⟩) _ _) _
    | exact new_put (new_upd (new_mark _ _) _ _) _
    | refine all_load (fun _=>?_) _ _ _ _
    | refine all_bin (fun _=>?_) _ _ _
    | refine all_chain (fun _=>?_) _ _ _
    | refine all_cut (fun _=>?_) _ _ _ _ _ _
    | refine all_cond _ (fun _=>?_)
    | refine all_ncond _ (fun _=>?_)
    | refine all_gd _ (fun _=>?_)
    | refine all_ngd _ (fun _=>?_)
    | refine all_bnd _ (fun _ _=>?_)
    | refine all_bind _ (fun _ _=>?_)
    | split
theorem lockRow_some {x:Option Row} {row':Row} (h:lockRow x=some row'):∃ row,x=some row∧row.c=row'.c∧row.m.isRo=row'.m.isRo∧row'.m.isOwn=false:=by
  cases x with
  | none=>cases h
  | some row=>
    obtain ⟨c,m⟩:=row
    cases m <;> (simp only [lockRow,Option.some.injEq] at h;subst h;exact ⟨_,rfl,rfl,rfl,rfl⟩)
theorem stepR_ok (hr:Rel C w0 outer own ρ st a w) (hC:TnOk C) (hΦ:PhiOk C) (hfin:∃ N,∀ r,N≤r→ρ r=none) {b:Nat} (hfr:∀ q,q<128→ρ (b+q)=none) {o:Oper} {ls rd wr:List Nat}
    (hk:stepR C b o ls rd wr st some=some st2):Does C.P o a w (After C w0 outer own b ρ st2):=by
  unfold stepR at hk
  rw [stepK_nat] at hk
  obtain ⟨st',hs,h2⟩:=Option.bind_eq_some_iff.1 hk
  have h2:=Option.some.inj h2
  let N:Nat→Prop:=fun r=>r ∈ wr∨r ∈ rd
  let own':Nat→Prop:=fun c=>∃ r row ri,N r∧st.h r=some row∧row.m.isRo=false∧ρ r=some ri∧ri.nl=false∧ri.b=c
  let outer':Nat→Prop:=fun c=>outer c∨∃ r row ri,¬ N r∧st.h r=some row∧row.m.isRo=false∧ρ r=some ri∧ri.nl=false∧ri.b=c
  have hcut:∀ r row',cutH rd wr st.h r=some row'→N r∧∃ row,st.h r=some row∧row.c=row'.c∧row.m.isRo=row'.m.isRo:=fun r row' h=>by
    simp only [cutH] at h
    cases hw:memN r wr
    · simp only [hw,cond_false] at h
      cases hd:memN r rd
      · simp [hd] at h
      · simp only [hd,cond_true] at h
        obtain ⟨row,h1,h2,h3,_⟩:=lockRow_some h
        exact ⟨.inr (memN_iff.1 hd),row,h1,h2,h3⟩
    · simp only [hw,cond_true] at h
      exact ⟨.inl (memN_iff.1 hw),row',h,rfl,rfl⟩
  have hbad1:∀ c,Bad outer' ρ (cutH rd wr st.h) c→Bad outer ρ st.h c:=by
    rintro c ((h | ⟨r,row,ri,e1,e2,e3,e4⟩) | ⟨r,row',ri,e1,e2,e3,e4⟩)
    · exact .inl h
    · exact .inr ⟨r,row,ri,e2,e3,e4⟩
    · obtain ⟨_,row,f1,f2,f3⟩:=hcut r row' e1
      exact .inr ⟨r,row,ri,f1,by rw [f3];exact e2,e3,e4⟩
  have hown':∀ c,own' c→c<w.heap.size∧(w0.heap.size≤c∨own c):=by
    rintro c ⟨r,row,ri,e1,e2,e3,e4,e5,rfl⟩
    obtain ⟨ri',f1,_,f2⟩:=hr.heap.rows r row e2
    rw [e4] at f1;cases f1
    exact ⟨(f2 e5).2,(f2 e5).1.2 e3⟩
  have hout':∀ c,outer' c→c<w.heap.size∧¬ own' c:=by
    rintro c (h | ⟨r,row,ri,e1,e2,e3,e4,e5,rfl⟩)
    · obtain ⟨g1,g2⟩:=hr.heap.outLt c h
      refine ⟨Nat.lt_of_lt_of_le g1 hr.heap.wx.size,fun ho=>?_⟩
      rcases (hown' c ho).2 with h3 | h3
      · omega
      · exact g2 h3
    · obtain ⟨ri',f1,_,f2⟩:=hr.heap.rows r row e2
      rw [e4] at f1;cases f1
      refine ⟨(f2 e5).2,?_⟩
      rintro ⟨r',row',ri',g1,g2,g3,g4,g5,g6⟩
      have:=hr.heap.inj r' r row' row ri' ri g2 e2 g4 e4 g5 e5 g6
      subst this;exact e1 g1
  have hmono:∀ u d,VR w ρ (Bad outer ρ st.h) u d→VR w ρ (Bad outer' ρ (cutH rd wr st.h)) u d:=fun u d hu=>hu.mono (fun _ _ h=>h) (fun _ _ _=>rfl) fun c hc=> .inl (hbad1 c hc)
  have hrel:Rel C w outer' own' ρ { s:=cutS ls st.s,h:=cutH rd wr st.h,nx:=st.nx } a w:=by
    refine ⟨⟨Wx.refl _,fun _ _ _=>rfl,hout',fun r row' h=>?_,fun q q' row row' qi qi' h1 h2 h3 h4 h5 h6 h7=>?_⟩,fun t=>?_,hr.size,hr.defers,⟨C.g.stay w0 w (fun c hc=>hr.heap.old c (Nat.lt_of_lt_of_le hc (C.g.lt _ hr.glob.p)) (hr.glob.own c hc)) hr.glob.p,fun c hc ho=>?_⟩⟩
    · obtain ⟨f0,row,f1,f2,f3⟩:=hcut r row' h
      obtain ⟨ri,g1,g2,g3⟩:=hr.heap.rows r row f1
      refine ⟨ri,g1,by rw [← f2];exact g2.keep (fun _=>rfl) hmono,fun hn=>⟨⟨?_,fun hm=> .inr ⟨r,row,ri,f0,f1,by rw [f3];exact hm,g1,hn,rfl⟩⟩,(g3 hn).2⟩⟩
      rintro (h | ⟨r',row2,ri',e1,e2,e3,e4,e5,e6⟩)
      · exact (g3 hn).1.1 h
      · have:=hr.heap.inj r' r row2 row ri' ri e2 f1 e4 g1 e5 hn e6
        subst this;exact e1 f0
    · obtain ⟨_,row1,f1,_⟩:=hcut q row h1
      obtain ⟨_,row2,f2,_⟩:=hcut q' row' h2
      exact hr.heap.inj q q' _ _ qi qi' f1 f2 h3 h4 h5 h6 h7
    · show VR w ρ _ _ (cutS ls st.s t)
      simp only [cutS]
      cases memN t ls
      · exact .undef _
      · exact hmono _ _ (hr.slots t)
    · have:=Nat.lt_of_lt_of_le hc (C.g.lt _ hr.glob.p)
      rcases (hown' c ho).2 with h | h
      · omega
      · exact hr.glob.own c hc h
  have L:=stepK_leftP (π:=fun r=>¬ (b≤r∧r<b+128)) (i:=b) (fun q hq h=>h (by omega)) o st' hs
  have main:=does_put (step_ok hrel hC hΦ hfin hfr hs) fun a' w' ⟨ρ',h,_⟩=>h.defers
  intro next Q hn
  refine main next Q fun a1 w1 ⟨⟨ρ1,hr1,hE,hx⟩,v,hv⟩=>hn _ _ ⟨ρ1,?_,hE,hx⟩
  subst hv
  have hh:=hr1.heap
  have hin:∀ r,ρ r≠none→¬ (b≤r∧r<b+128):=fun r h1 h2=>h1 (by
    have:=hfr (r - b) (by omega)
    rwa [show b+(r - b)=r by omega] at this)
  have hρ1:∀ r row,st.h r=some row→ρ1 r=ρ r:=fun r row h=>by
    obtain ⟨ri,h1,_⟩:=hr.heap.rows r row h
    rw [h1,hx r ri h1]
  -- rows that are only read
  have hrd:∀ r row,r ∉ wr→r ∈ rd→st.h r=some row→∃ row',st'.h r=some row'∧row'.c=row.c∧row'.m.isRo=row.m.isRo:=fun r row h1 h2 h3=>by
    have h4:cutH rd wr st.h r=lockRow (some row):=by simp only [cutH,memN_false.2 h1,memN_iff.2 h2,cond_false,cond_true,h3]
    obtain ⟨row',h5⟩:∃ row',lockRow (some row)=some row':=by
      obtain ⟨c,m⟩:=row;cases m <;> exact ⟨_,rfl⟩
    obtain ⟨row2,h6,h7,h8,h9⟩:=lockRow_some h5
    cases h6
    obtain ⟨ri,g1,_⟩:=hr.heap.rows r _ h3
    exact ⟨row',L.rows r row' (hin r (by rw [g1];simp)) (by show cutH rd wr st.h r=_;rw [h4,h5]) h9,h7.symm,h8.symm⟩
  -- a row of the new state
  have hrow:∀ r row,st2.h r=some row→(st'.h r=some row)∨(r ∉ wr∧¬ (b≤r∧r<b+128)∧st.h r=some row):=fun r row h=>by
    rw [← h2] at h
    simp only [layH] at h
    cases hw:(memN r wr||inFresh b r)
    · rw [hw] at h
      simp only [Bool.or_eq_false_iff] at hw
      exact .inr ⟨memN_false.1 hw.1,inFresh_false.1 hw.2,h⟩
    · rw [hw] at h;exact .inl h
  have hbad2:∀ c,Bad outer ρ1 st2.h c→Bad outer' ρ1 st'.h c:=by
    rintro c (h | ⟨r,row,ri,e1,e2,e3,e4,e5⟩)
    · exact .inl (.inl h)
    · rcases hrow r row e1 with h | ⟨h3,h4,h5⟩
      · exact .inr ⟨r,row,ri,h,e2,e3,e4,e5⟩
      · by_cases hd:r ∈ rd
        · obtain ⟨row',f1,f2,f3⟩:=hrd r row h3 hd h5
          exact .inr ⟨r,row',ri,f1,by rw [f3];exact e2,e3,e4,e5⟩
        · rw [hρ1 r row h5] at e3
          exact .inl (.inr ⟨r,row,ri,fun h=>h.elim h3 hd,h5,e2,e3,e4,e5⟩)
  have hbad3:∀ c,Bad outer' ρ1 st'.h c→Bad outer ρ st.h c∨w.heap.size≤c:=by
    rintro c ((h | ⟨r,row,ri,e1,e2,e3,e4⟩) | ⟨r,row,ri,e1,e2,e3,e4,e5⟩)
    · exact .inl (.inl h)
    · exact .inl (.inr ⟨r,row,ri,e2,e3,e4⟩)
    · obtain ⟨ri',f1,_,f2⟩:=hh.rows r row e1
      rw [e3] at f1;cases f1
      rcases (f2 e4).1.2 e2 with h | ⟨r',row',ri',g1,g2,g3,g4⟩
      · exact .inr (by omega)
      · rw [e5] at g4
        exact .inl (.inr ⟨r',row',ri',g2,g3,g4⟩)
  have keepO:∀ u d,VR w ρ (Bad outer ρ st.h) u d→VR w1 ρ1 (Bad outer ρ1 st2.h) u d:=fun u d hu=>
    hu.mono hx (fun c hc hlt=>hh.old c hlt fun ⟨r,row,ri,g1,g2,g3,g4⟩=>hc (.inr ⟨r,row,ri,g2,g3,g4⟩)) fun c hc=>hbad3 c (hbad2 c hc)
  have keepN:∀ u d,VR w1 ρ1 (Bad outer' ρ1 st'.h) u d→VR w1 ρ1 (Bad outer ρ1 st2.h) u d:=fun u d hu=>
    hu.mono (fun _ _ h=>h) (fun _ _ _=>rfl) fun c hc=> .inl (hbad2 c hc)
  have hnot:∀ r row ri,r ∉ wr→r ∉ rd→st.h r=some row→ρ r=some ri→ri.nl=false→¬ own' ri.b:=by
    rintro r row ri h1 h2 h3 h4 h5 ⟨r',row',ri',g1,g2,g3,g4,g5,g6⟩
    have:=hr.heap.inj r' r row' row ri' ri g2 h3 g4 h4 g5 h5 g6
    subst this;exact g1.elim h1 h2
  have hdefers:({ a.put o.dst v with }:Act).defers=[]:=hr1.defers
  refine ⟨⟨hr.heap.wx.trans hh.wx,fun c hc ho=>?_,hr.heap.outLt,fun r row h=>?_,fun q q' row row' qi qi' h1 h3 h4 h5 h6 h7 h8=>?_⟩,fun t=>?_,hr1.size,hr1.defers,hr.glob⟩
  · rw [← hr.heap.old c hc ho]
    refine hh.old c (Nat.lt_of_lt_of_le hc hr.heap.wx.size) fun hoc=>?_
    rcases (hown' c hoc).2 with h3 | h3
    · omega
    · exact ho h3
  · rcases hrow r row h with h3 | ⟨h3,h4,h5⟩
    · obtain ⟨ri,f1,f2,f3⟩:=hh.rows r row h3
      refine ⟨ri,f1,f2.keep (fun _=>rfl) keepN,fun hn=>⟨⟨fun ho=>(f3 hn).1.1 (.inl ho),fun hm=>?_⟩,(f3 hn).2⟩⟩
      rcases (f3 hn).1.2 hm with h4 | h4
      · exact .inl (Nat.le_trans hr.heap.wx.size h4)
      · exact (hown' _ h4).2
    · obtain ⟨ri,f1,f2,f3⟩:=hr.heap.rows r row h5
      refine ⟨ri,hx r ri f1,?_,fun hn=>⟨(f3 hn).1,Nat.lt_of_lt_of_le (f3 hn).2 hh.wx.size⟩⟩
      by_cases hd:r ∈ rd
      · obtain ⟨row',g1,g2,g3⟩:=hrd r row h3 hd h5
        obtain ⟨ri',e1,e2,_⟩:=hh.rows r row' g1
        rw [hx r ri f1] at e1;cases e1
        rw [← g2];exact e2.keep (fun _=>rfl) keepN
      · exact f2.keep (fun hn=>hh.old _ (f3 hn).2 (hnot r row ri h3 hd h5 f1 hn)) keepO
  · -- no two rows in one block
    have rowsOf:∀ r row ri,st2.h r=some row→ρ1 r=some ri→ri.nl=false→(∃ row',st'.h r=some row')∨(r ∉ wr∧r ∉ rd∧st.h r=some row∧ρ r=some ri):=fun r row ri h1 h3 h4=>by
      rcases hrow r row h1 with h5 | ⟨h5,h6,h7⟩
      · exact .inl ⟨_,h5⟩
      · by_cases hd:r ∈ rd
        · obtain ⟨row',g1,_⟩:=hrd r row h5 hd h7
          exact .inl ⟨_,g1⟩
        · exact .inr ⟨h5,hd,h7,by rw [← hρ1 r row h7];exact h3⟩
    have mixed:∀ r r' row' row2 ri ri',st'.h r=some row2→ρ1 r=some ri→ri.nl=false→r' ∉ wr→r' ∉ rd→st.h r'=some row'→ρ r'=some ri'→ri'.nl=false→ri.b=ri'.b→False:=fun r r' row' row2 ri ri' e1 e2 e3 e4 e5 e6 e7 e8 e9=>by
      obtain ⟨ri2,f1,_,f3⟩:=hh.rows r row2 e1
      rw [e2] at f1;cases f1
      obtain ⟨ri3,g1,_,g3⟩:=hr.heap.rows r' row' e6
      rw [e7] at g1;cases g1
      have hlt:=(g3 e8).2
      have hno:=hnot r' row' ri' e4 e5 e6 e7 e8
      by_cases hm:row2.m.isRo=false
      · rcases (f3 e3).1.2 hm with h | h
        · rw [e9] at h;omega
        · rw [e9] at h;exact hno h
      · -- a row that nobody writes:it was there ahead
        rcases stepK_new o st' hs r row2 e1 with ⟨row0,h0⟩ | h0
        · obtain ⟨g0,row1,g4,_⟩:=hcut r row0 h0
          obtain ⟨ri4,g5,_⟩:=hr.heap.rows r row1 g4
          have:=hx r ri4 g5
          rw [e2] at this;cases this
          have:=hr.heap.inj r r' row1 row' ri ri' g4 e6 g5 e7 e3 e8 e9
          subst this;exact g0.elim e4 e5
        · refine hm ?_
          obtain ⟨c,m⟩:=row2
          cases m with
          | own=>rfl
          | ro=>cases h0
          | lock=>rfl
    rcases rowsOf q row qi h1 h4 h6 with ⟨r1,e1⟩ | ⟨e1,e2,e3,e4⟩ <;> rcases rowsOf q' row' qi' h3 h5 h7 with ⟨r2,f1⟩ | ⟨f1,f2,f3,f4⟩
    · exact hh.inj q q' _ _ qi qi' e1 f1 h4 h5 h6 h7 h8
    · exact (mixed q q' row' r1 qi qi' e1 h4 h6 f1 f2 f3 f4 h7 h8).elim
    · exact (mixed q' q row r2 qi' qi f1 h5 h7 e1 e2 e3 e4 h6 h8.symm).elim
    · exact hr.heap.inj q q' row row' qi qi' e3 f3 e4 f4 h6 h7 h8
  · have hst2:st2.s t=layS o.dst st.s st'.s t:=by rw [← h2]
    rw [hst2]
    have hput:∀ t,o.dst≠some t→(a.put o.dst v).tmps.getD t undef=a.tmps.getD t undef:=fun t ht=>by
      cases hd:o.dst with
      | none=>rfl
      | some d=>
        simp only [Act.put,Array.getD_eq_getD_getElem?]
        rw [Array.getElem?_setIfInBounds_ne]
        rintro rfl;exact ht hd
    have other:o.dst≠some t→VR w1 ρ1 (Bad outer ρ1 st2.h) ((a.put o.dst v).tmps.getD t undef) (st.s t):=fun ht=>by
      rw [hput t ht];exact keepO _ _ (hr.slots t)
    cases hd:o.dst with
    | none=>simp only [layS];rw [← hd];exact other (by rw [hd];simp)
    | some d=>
      simp only [layS]
      by_cases ht:t=d
      · subst ht;rw [upd_same, ← hd];exact keepN _ _ (hr1.slots t)
      · rw [upd_other _ _ _ _ ht, ← hd];exact other (by rw [hd];simpa using fun e=>ht e.symm)
def DStep (C:Cx) (ops:Array Oper) (nx:Nat) (e:Rec) (st st':St):Prop:=
  ∃ o,ops[e.i]?=some o∧e.dst=o.dst∧
    ((o.guard=none∧stepR C (nx+128 *e.i) o e.ls e.rd e.wr st some=some st')∨
     ∃ j want dj,o.guard=some (j,want)∧(ops[j]?).bind (·.dst)=some dj∧dj ∈ e.ls∧
      ((st.s dj= .bool want∧stepR C (nx+128 *e.i) o e.ls e.rd e.wr st some=some st')∨
       ((st.s dj= .tup []∨st.s dj= .bool (!want))∧putK C o.dst st (.tup []) some=some st')))
def Rec.at (e:Rec) (nx r:Nat):Prop:=r ∈ e.rd∨r ∈ e.wr∨(nx+128 *e.i≤r∧r<nx+128 *e.i+128)
def Rec.to (e:Rec) (nx r:Nat):Prop:=r ∈ e.wr∨(nx+128 *e.i≤r∧r<nx+128 *e.i+128)
theorem layS_other {dst:Option Nat} {s s':Nat→V} {t:Nat} (h:dst≠some t):layS dst s s' t=s t:=by
  cases dst with
  | none=>rfl
  | some d=>exact upd_other _ _ _ _ (fun e=>h (by rw [e]))
theorem layS_same {d:Nat} {s s':Nat→V}:layS (some d) s s' d=s' d:=upd_same _ _ _
theorem layH_in {b:Nat} {wr:List Nat} {h h':Nat→Option Row} {r:Nat} (hr:r ∈ wr∨(b≤r∧r<b+128)):layH b wr h h' r=h' r:=by
  have:(memN r wr||inFresh b r)=true:=by
    rcases hr with hr | hr
    · simp [memN_iff.2 hr]
    · simp [inFresh_iff.2 hr]
  simp only [layH,this,cond_true]
theorem layH_out {b:Nat} {wr:List Nat} {h h':Nat→Option Row} {r:Nat} (hr:¬ (r ∈ wr∨(b≤r∧r<b+128))):layH b wr h h' r=h r:=by
  have:(memN r wr||inFresh b r)=false:=by
    simp only [Bool.or_eq_false_iff,memN_false,inFresh_false]
    exact ⟨fun h=>hr (.inl h),fun h=>hr (.inr h)⟩
  simp only [layH,this,cond_false]
theorem stepR_some {b:Nat} {o:Oper} {ls rd wr:List Nat} (h:stepR C b o ls rd wr st some=some st'):
    ∃ x,stepK C b o { s:=cutS ls st.s,h:=cutH rd wr st.h,nx:=st.nx } some=some x∧st'= { s:=layS o.dst st.s x.s,h:=layH b wr st.h x.h,nx:=st.nx }:=by
  unfold stepR at h
  rw [stepK_nat] at h
  obtain ⟨x,h1,h2⟩:=Option.bind_eq_some_iff.1 h
  exact ⟨x,h1,(Option.some.inj h2).symm⟩
theorem stepR_of {b:Nat} {o:Oper} {ls rd wr:List Nat} {x:St} (h:stepK C b o { s:=cutS ls st.s,h:=cutH rd wr st.h,nx:=st.nx } some=some x):
    stepR C b o ls rd wr st some=some { s:=layS o.dst st.s x.s,h:=layH b wr st.h x.h,nx:=st.nx }:=by
  unfold stepR
  rw [stepK_nat,h];rfl
theorem DStep.frame {ops:Array Oper} {nx:Nat} {e:Rec} (h:DStep C ops nx e st st'):
    (∀ t,e.dst≠some t→st'.s t=st.s t)∧(∀ r,¬ e.to nx r→st'.h r=st.h r)∧st'.nx=st.nx:=by
  obtain ⟨o,h1,h2,h3⟩:=h
  have stp:stepR C (nx+128 *e.i) o e.ls e.rd e.wr st some=some st'→(∀ t,e.dst≠some t→st'.s t=st.s t)∧(∀ r,¬ e.to nx r→st'.h r=st.h r)∧st'.nx=st.nx:=fun h=>by
    obtain ⟨x,k1,rfl⟩:=stepR_some h
    exact ⟨fun t ht=>layS_other (by rw [← h2];exact ht),fun r hr=>layH_out hr,rfl⟩
  have skp:putK C o.dst st (.tup []) some=some st'→(∀ t,e.dst≠some t→st'.s t=st.s t)∧(∀ r,¬ e.to nx r→st'.h r=st.h r)∧st'.nx=st.nx:=fun h=>by
    have L:=all_put0 (π:=fun _=>True) (V.tup []) st' h
    refine ⟨fun t ht=>L.slots t (by rw [← h2];exact ht),fun r _=>?_,L.nx⟩
    cases hd:o.dst with
    | none=>rw [hd] at h;simp [putK] at h;rw [h]
    | some d=>
      rw [hd] at h
      simp only [putK] at h
      cases hb:Nat.blt d C.nt <;> simp [hb] at h
      rw [← h]
  rcases h3 with ⟨_,h⟩ | ⟨j,want,dj,_,_,_,⟨_,h⟩ | ⟨_,h⟩⟩
  · exact stp h
  · exact stp h
  · exact skp h
theorem DStep.loc {ops:Array Oper} {nx:Nat} {e:Rec} (h:DStep C ops nx e st st') (hs:∀ t ∈ e.ls,st2.s t=st.s t) (hh:∀ r,e.at nx r→st2.h r=st.h r) (hn:st2.nx=st.nx):
    ∃ st2',DStep C ops nx e st2 st2'∧(∀ t,e.dst=some t→st2'.s t=st'.s t)∧(∀ r,e.to nx r→st2'.h r=st'.h r):=by
  obtain ⟨o,h1,h2,h3⟩:=h
  have hcs:cutS e.ls st2.s=cutS e.ls st.s:=by
    funext t
    simp only [cutS]
    cases hm:memN t e.ls
    · rfl
    · simp only [cond_true];exact hs t (memN_iff.1 hm)
  have hch:cutH e.rd e.wr st2.h=cutH e.rd e.wr st.h:=by
    funext r
    simp only [cutH]
    cases hm:memN r e.wr
    · cases hm2:memN r e.rd
      · rfl
      · simp only [cond_true,cond_false];rw [hh r (.inl (memN_iff.1 hm2))]
    · simp only [cond_true];exact hh r (.inr (.inl (memN_iff.1 hm)))
  have stp:stepR C (nx+128 *e.i) o e.ls e.rd e.wr st some=some st'→∃ st2',stepR C (nx+128 *e.i) o e.ls e.rd e.wr st2 some=some st2'∧(∀ t,e.dst=some t→st2'.s t=st'.s t)∧(∀ r,e.to nx r→st2'.h r=st'.h r):=fun h=>by
    obtain ⟨x,k1,rfl⟩:=stepR_some h
    refine ⟨_,stepR_of (x:=x) (by rw [hcs,hch,hn];exact k1),fun t ht=>?_,fun r hr=>?_⟩
    · rw [h2] at ht;rw [ht];exact (layS_same).trans layS_same.symm
    · exact (layH_in hr).trans (layH_in hr).symm
  have skp:putK C o.dst st (.tup []) some=some st'→∃ st2',putK C o.dst st2 (.tup []) some=some st2'∧(∀ t,e.dst=some t→st2'.s t=st'.s t)∧(∀ r,e.to nx r→st2'.h r=st'.h r):=fun h=>by
    cases hd:o.dst with
    | none=>
      rw [hd] at h;simp [putK] at h;subst h
      refine ⟨st2,rfl,fun t ht=>?_,fun r hr=>hh r (.inr hr)⟩
      rw [h2,hd] at ht;cases ht
    | some d=>
      rw [hd] at h
      simp only [putK] at h
      cases hb:Nat.blt d C.nt <;> simp [hb] at h
      subst h
      refine ⟨{ st2 with s:=upd st2.s d (.tup []) },by simp [putK,hb],fun t ht=>?_,fun r hr=>hh r (.inr hr)⟩
      rw [h2,hd] at ht;cases ht
      exact (upd_same _ _ _).trans (upd_same _ _ _).symm
  rcases h3 with ⟨g,h⟩ | ⟨j,want,dj,g1,g2,g3,⟨g4,h⟩ | ⟨g4,h⟩⟩
  · obtain ⟨x,k1,k2,k3⟩:=stp h
    exact ⟨x,⟨o,h1,h2, .inl ⟨g,k1⟩⟩,k2,k3⟩
  · obtain ⟨x,k1,k2,k3⟩:=stp h
    exact ⟨x,⟨o,h1,h2, .inr ⟨j,want,dj,g1,g2,g3, .inl ⟨by rw [hs dj g3];exact g4,k1⟩⟩⟩,k2,k3⟩
  · obtain ⟨x,k1,k2,k3⟩:=skp h
    exact ⟨x,⟨o,h1,h2, .inr ⟨j,want,dj,g1,g2,g3, .inr ⟨by rw [hs dj g3];exact g4,k1⟩⟩⟩,k2,k3⟩
structure Apart (nx:Nat) (e1 e:Rec):Prop where
  s1:∀ t,e1.dst=some t→t ∉ e.ls
  s2:∀ t,e.dst=some t→t ∉ e1.ls
  s3:∀ t,e1.dst=some t→e.dst≠some t
  h1:∀ r,e1.to nx r→¬ e.at nx r
  h2:∀ r,e.to nx r→¬ e1.at nx r
theorem okPair_apart {nx:Nat} {e1 e:Rec} (hne:e1.i≠e.i) (h:okPair nx e1 e=true):Apart nx e1 e:=by
  simp only [okPair,Bool.and_eq_true,Bool.not_eq_true',List.all_eq_true] at h
  obtain ⟨⟨⟨⟨⟨⟨⟨⟨a1,a2⟩,a3⟩,a4⟩,a5⟩,a6⟩,a7⟩,a8⟩,a9⟩:=h
  have dst:∀ {d:Option Nat} {l:List Nat},dstIs d l=false→∀ t,d=some t→t ∉ l:=fun h t ht=>by subst ht;exact memN_false.1 h
  refine ⟨dst a1,dst a2,fun t ht h=>?_,fun r hr hat=>?_,fun r hr hat=>?_⟩
  · have:=dst a3 t ht
    rw [h] at this;simp at this
  · rcases hr with hr | hr
    · have:=a4 r hr
      rcases hat with h | h | h
      · exact memN_false.1 this.1 h
      · exact memN_false.1 this.2 h
      · exact inFresh_false.1 (a9 r hr) h
    · rcases hat with h | h | h
      · exact inFresh_false.1 (a6 r h) hr
      · exact inFresh_false.1 (a7 r h) hr
      · omega
  · rcases hr with hr | hr
    · rcases hat with h | h | h
      · exact memN_false.1 (a5 r hr) h
      · exact memN_false.1 (a4 r h).2 hr
      · exact inFresh_false.1 (a7 r hr) h
    · rcases hat with h | h | h
      · exact inFresh_false.1 (a8 r h) hr
      · exact inFresh_false.1 (a9 r h) hr
      · omega
theorem DStep.swap {ops:Array Oper} {nx:Nat} {e1 e:Rec} (hp:Apart nx e1 e) (h1:DStep C ops nx e1 st st1) (h2:DStep C ops nx e st1 st2):
    ∃ st1',DStep C ops nx e st st1'∧DStep C ops nx e1 st1' st2:=by
  obtain ⟨f1,f2,f3⟩:=h1.frame
  obtain ⟨g1,g2,g3⟩:=h2.frame
  obtain ⟨x,k1,k2,k3⟩:=h2.loc (st2:=st) (fun t ht=>(f1 t fun e=>hp.s1 t e ht).symm) (fun r hr=>(f2 r fun h=>hp.h1 r h hr).symm) f3.symm
  obtain ⟨m1,m2,m3⟩:=k1.frame
  obtain ⟨y,n1,n2,n3⟩:=h1.loc (st2:=x) (fun t ht=>m1 t fun e=>hp.s2 t e ht) (fun r hr=>m2 r fun h=>hp.h2 r h hr) m3
  obtain ⟨p1,p2,p3⟩:=n1.frame
  have hy:y=st2:=by
    have es:y.s=st2.s:=by
      funext t
      by_cases t1:e1.dst=some t
      · rw [n2 t t1,g1 t (hp.s3 t t1)]
      · rw [p1 t t1]
        by_cases t2:e.dst=some t
        · rw [k2 t t2]
        · rw [m1 t t2,g1 t t2,f1 t t1]
    have eh:y.h=st2.h:=by
      funext r
      have toAt:∀ {e:Rec},e.to nx r→e.at nx r:=fun h=> .inr h
      by_cases t1:e1.to nx r
      · rw [n3 r t1,g2 r fun h=>hp.h2 r h (toAt t1)]
      · rw [p2 r t1]
        by_cases t2:e.to nx r
        · rw [k3 r t2]
        · rw [m2 r t2,g2 r t2,f2 r t1]
    have en:y.nx=st2.nx:=by rw [p3,m3,g3,f3]
    cases y;cases st2;simp_all
  exact ⟨x,k1,hy ▸ n1⟩
inductive Todo (C:Cx) (ops:Array Oper) (nx:Nat):List Rec→St→St→Prop
  | nil (st:St):Todo C ops nx [] st st
  | cons {e:Rec} {l:List Rec} {st st1 st2:St} (h:DStep C ops nx e st st1) (k:Todo C ops nx l st1 st2):Todo C ops nx (e :: l) st st2
theorem Todo.front {ops:Array Oper} {nx:Nat} {e:Rec} {l2:List Rec}:∀ (l1:List Rec) (st:St),(∀ e1 ∈ l1,Apart nx e1 e)→Todo C ops nx (l1++e :: l2) st st2→∃ st1,DStep C ops nx e st st1∧Todo C ops nx (l1++l2) st1 st2
  | [],st,_,h=>by cases h with | cons h k=>exact ⟨_,h,k⟩
  | e1 :: l1,st,hp,h=>by
    cases h with
    | cons h k=>
      obtain ⟨s,k1,k2⟩:=Todo.front l1 _ (fun e h=>hp e (List.mem_cons_of_mem _ h)) k
      obtain ⟨x,n1,n2⟩:=h.swap (hp e1 (by simp)) k1
      exact ⟨x,n1, .cons n2 k2⟩
theorem masksGo_pre:∀ (l:List Oper) (acc:List Nat),∃ t,masksGo acc l=acc++t
  | [],acc=>⟨[],by simp [masksGo]⟩
  | o :: l,acc=>by
    obtain ⟨t,h⟩:=masksGo_pre l (acc++[maskOf acc o.after.toList])
    exact ⟨_,by simp only [masksGo];rw [h,List.append_assoc]⟩
theorem masksGo_at:∀ (l:List Oper) (acc:List Nat) (k:Nat) (o:Oper),l[k]?=some o→
    (masksGo acc l).getD (acc.length+k) 0=maskOf ((masksGo acc l).take (acc.length+k)) o.after.toList
  | [],acc,k,o,h=>by simp at h
  | x :: l,acc,0,o,h=>by
    simp at h;subst h
    simp only [masksGo,Nat.add_zero]
    obtain ⟨t,ht⟩:=masksGo_pre l (acc++[maskOf acc x.after.toList])
    rw [ht,List.append_assoc,List.getD_eq_getElem?_getD,List.getElem?_append_right (Nat.le_refl _)]
    simp
  | x :: l,acc,k+1,o,h=>by
    have:=masksGo_at l (acc++[maskOf acc x.after.toList]) k o (by simpa using h)
    simp only [List.length_append,List.length_singleton] at this
    simp only [masksGo]
    rw [show acc.length+(k+1)=acc.length+1+k by omega]
    exact this
theorem maskOf_bit (ms:List Nat) (d:Nat):∀ (es:List Edge) (s:Nat),Nat.testBit (es.foldl (fun s e=>bif Region.binds .any e then s|||(2^e.on|||ms.getD e.on 0) else s) s) d=true→
    Nat.testBit s d=true∨∃ e ∈ es,Region.binds .any e=true∧(e.on=d∨Nat.testBit (ms.getD e.on 0) d=true)
  | [],s,h=> .inl h
  | e :: es,s,h=>by
    rcases maskOf_bit ms d es _ h with h1 | ⟨x,h1,h2⟩
    · cases hb:Region.binds .any e
      · simp only [hb,cond_false] at h1;exact .inl h1
      · simp only [hb,cond_true,Nat.testBit_or,Bool.or_eq_true,Nat.testBit_two_pow,decide_eq_true_eq] at h1
        rcases h1 with h1 | h1 | h1
        · exact .inl h1
        · exact .inr ⟨e,by simp,hb, .inl h1⟩
        · exact .inr ⟨e,by simp,hb, .inr h1⟩
    · exact .inr ⟨x,List.mem_cons_of_mem _ h1,h2⟩
theorem mask_in {ops:Array Oper} {S:Nat→Prop} (hE:∀ i o,ops[i]?=some o→∀ e ∈ o.after,Region.binds .any e=true→e.on<i)
    (hS:∀ k o,S k→ops[k]?=some o→∀ e ∈ o.after,Region.binds .any e=true→S e.on):
    ∀ (i:Nat) (o:Oper),ops[i]?=some o→(∀ e ∈ o.after,Region.binds .any e=true→S e.on)→∀ d,Nat.testBit ((masksGo [] ops.toList).getD i 0) d=true→S d:=by
  intro i
  induction i using Nat.strongRecOn with
  | _ i ih=>
    intro o ho he d hd
    have h0:=masksGo_at ops.toList [] i o (by simpa using ho)
    simp only [List.length_nil,Nat.zero_add] at h0
    rw [h0] at hd
    have hi:i<ops.size:=by
      rcases Nat.lt_or_ge i ops.size with h | h
      · exact h
      · rw [Array.getElem?_eq_none h] at ho;cases ho
    rcases maskOf_bit _ d _ _ hd with h1 | ⟨e,h1,h2,h3⟩
    · simp at h1
    · have h1:e ∈ o.after:=by simpa using h1
      have hse:=he e h1 h2
      have hlt:=hE i o ho e h1 h2
      rcases h3 with h3 | h3
      · rw [← h3];exact hse
      · have h4:((masksGo [] ops.toList).take i).getD e.on 0=(masksGo [] ops.toList).getD e.on 0:=by
          rw [List.getD_eq_getElem?_getD,List.getD_eq_getElem?_getD,List.getElem?_take,if_pos hlt]
        rw [h4] at h3
        have ho2:ops[e.on]?=some ops[e.on]:=Array.getElem?_eq_getElem (by omega)
        exact ih e.on hlt _ ho2 (hS e.on _ hse ho2) d h3
theorem mem_ready {ops:Array Oper} {listed:Array Bool} {i:Nat}:i ∈ Region.ready .any ops listed↔
    i<ops.size∧listed.getD i true=false∧∃ o,ops[i]?=some o∧∀ e ∈ o.after,Region.binds .any e=true→listed.getD e.on false=true:=by
  unfold Region.ready
  rw [List.mem_filter,List.mem_range]
  constructor
  · rintro ⟨h1,h2⟩
    simp only [Bool.and_eq_true,Bool.not_eq_true'] at h2
    refine ⟨h1,h2.1,?_⟩
    rw [Array.getElem?_eq_getElem h1] at h2
    refine ⟨ops[i],Array.getElem?_eq_getElem h1,fun e he hb=>?_⟩
    have h3:=h2.2
    simp only [Option.map_some,Option.getD_some] at h3
    rw [Array.all_eq_true'] at h3
    have:=h3 e he
    simpa [hb] using this
  · rintro ⟨h1,h2,o,h3,h4⟩
    refine ⟨h1,?_⟩
    rw [h2,h3]
    simp only [Bool.not_false,Bool.true_and,Option.map_some,Option.getD_some]
    rw [Array.all_eq_true']
    intro e he
    cases hb:Region.binds .any e
    · rfl
    · simp [h4 e he hb]
theorem vr_tup0' {w:World} {ρ:Nat→Option RI} {bad:Nat→Prop} {v:Value} (h:VR w ρ bad v (.tup [])):v=undef:=by
  cases h with
  | tup _ vs hs hv=>
    have:vs= #[]:=by simpa using hs
    subst this;rfl
theorem drawn_ok (hC:TnOk C) (hΦ:PhiOk C) {ops:Array Oper} {nx:Nat} {Q:Exit→Act→World→Prop} {stf:St} (hE:∀ i o,ops[i]?=some o→∀ e ∈ o.after,Region.binds .any e=true→e.on<i)
    (D:Nat→Prop) (hD:∀ o ∈ ops,∀ d,o.dst=some d→D d) (ρ0:Nat→Option RI)
    (hpost:∀ a' w' ρ',Rel C w0 outer own ρ' stf a' w'→(∀ q qi,ρ0 q=some qi→ρ' q=some qi)→(∀ q,nx+128 *ops.size≤q→ρ' q=none)→Q .normal a' w'):
    ∀ (fuel:Nat) (l:List Rec) (listed:Array Bool) (st:St) (a:Act) (w:World) (ρ:Nat→Option RI),
      l.length=fuel→Todo C ops nx l st stf→l.Pairwise (fun e1 e=>e1.i<e.i∧(Nat.testBit ((masksGo [] ops.toList).getD e.i 0) e1.i=true∨okPair nx e1 e=true))→
      listed.size=ops.size→(∀ i,i<ops.size→(listed.getD i true=false↔∃ e ∈ l,e.i=i))→(∀ e ∈ l,e.i<ops.size)→
      (∀ k o,listed.getD k false=true→ops[k]?=some o→∀ e ∈ o.after,Region.binds .any e=true→listed.getD e.on false=true)→
      Rel C w0 outer own ρ st a w→(∀ e ∈ l,∀ q,q<128→ρ (nx+128 *e.i+q)=none)→(∀ q,nx+128 *ops.size≤q→ρ q=none)→(∀ q qi,ρ0 q=some qi→ρ q=some qi)→
      wpAny C.P .any ops Q fuel listed a w
  | 0,l,listed,st,a,w,ρ,hl,ht,hp,hsz,hlist,hlt,hcl,hr,hf,hN,hx=>by
    obtain rfl:l=[]:=List.eq_nil_of_length_eq_zero hl
    cases ht
    refine ⟨?_,hpost a w ρ hr hx hN⟩
    refine List.eq_nil_iff_forall_not_mem.2 fun i hi=>?_
    obtain ⟨h1,h2,_⟩:=mem_ready.1 hi
    obtain ⟨e,he,_⟩:=(hlist i h1).1 h2
    simp at he
  | fuel+1,l,listed,st,a,w,ρ,hl,ht,hp,hsz,hlist,hlt,hcl,hr,hf,hN,hx=>by
    have getF:∀ k,k<ops.size→listed.getD k true=true→listed.getD k false=true:=fun k hk h=>by
      rw [Array.getD_eq_getD_getElem?] at h ⊢
      rw [Array.getElem?_eq_getElem (by omega)] at h ⊢;exact h
    have getT:∀ k,listed.getD k false=true→listed.getD k true=true:=fun k h=>by
      rw [Array.getD_eq_getD_getElem?] at h ⊢
      cases h2:listed[k]? with
      | none=>rfl
      | some b=>rw [h2] at h;exact h
    refine ⟨fun hnil=>?_,fun i hi=>?_⟩
    · exfalso
      cases l with
      | nil=>simp at hl
      | cons e l=>
        have he:=hlt e (by simp)
        have:e.i ∈ Region.ready .any ops listed:=mem_ready.2 ⟨he,(hlist _ he).2 ⟨e,by simp,rfl⟩,ops[e.i],Array.getElem?_eq_getElem he,fun x hx hb=>by
          have h1:=hE _ _ (Array.getElem?_eq_getElem he) x hx hb
          refine getF _ (by omega) ?_
          cases h2:listed.getD x.on true with
          | true=>rfl
          | false=>
            obtain ⟨e',h3,h4⟩:=(hlist x.on (by omega)).1 h2
            rcases List.mem_cons.1 h3 with rfl | h3
            · omega
            · have:=(List.rel_of_pairwise_cons hp h3).1;omega⟩
        rw [hnil] at this;simp at this
    · obtain ⟨h1,h2,o,ho,h4⟩:=mem_ready.1 hi
      obtain ⟨e,he,rfl⟩:=(hlist i h1).1 h2
      obtain ⟨l1,l2,rfl⟩:=List.append_of_mem he
      have hap:∀ e1 ∈ l1,Apart nx e1 e:=fun e1 he1=>by
        have h5:=(List.pairwise_append.1 hp).2.2 e1 he1 e (by simp)
        refine okPair_apart (by omega) (h5.2.resolve_left fun hb=>?_)
        have:=mask_in (S:=fun k=>listed.getD k false=true) hE (fun k o hk hko=>hcl k o hk hko) e.i o ho h4 e1.i hb
        have h6:=(hlist e1.i (hlt e1 (by simp [he1]))).2 ⟨e1,by simp [he1],rfl⟩
        rw [getT _ this] at h6;cases h6
      obtain ⟨s1,k1,k2⟩:=ht.front l1 st hap
      obtain ⟨o',ho',hdst,hcases⟩:=k1
      rw [ho] at ho';cases ho'
      -- what is left
      have rest:∀ a1 w1 ρ1,Rel C w0 outer own ρ1 s1 a1 w1→(∀ q,¬ (nx+128 *e.i≤q∧q<nx+128 *e.i+128)→ρ1 q=ρ q)→(∀ q qi,ρ q=some qi→ρ1 q=some qi)→
          wpAny C.P .any ops Q fuel (listed.setIfInBounds e.i true) a1 w1:=fun a1 w1 ρ1 hr1 hE1 hx1=>by
        have hne:∀ e' ∈ l1++l2,e'.i≠e.i:=fun e' h=>by
          rcases List.mem_append.1 h with h | h
          · have:=((List.pairwise_append.1 hp).2.2 e' h e (by simp)).1;omega
          · have:=(List.rel_of_pairwise_cons (List.pairwise_append.1 hp).2.1 h).1;omega
        have hget:∀ k d,k≠e.i→(listed.setIfInBounds e.i true).getD k d=listed.getD k d:=fun k d hk=>by
          rw [Array.getD_eq_getD_getElem?,Array.getD_eq_getD_getElem?,Array.getElem?_setIfInBounds_ne (fun h=>hk h.symm)]
        have hself:∀ d,(listed.setIfInBounds e.i true).getD e.i d=true:=fun d=>by
          rw [Array.getD_eq_getD_getElem?,Array.getElem?_setIfInBounds_self]
          simp [hsz,h1]
        refine drawn_ok hC hΦ hE D hD ρ0 hpost fuel (l1++l2) _ s1 a1 w1 ρ1 (by simp at hl ⊢;omega) k2 ?_ (by simp [hsz]) (fun i hi=>?_) (fun e' he'=>hlt e' ?_) ?_ hr1 (fun e' he' q hq=>?_) (fun q hq=>?_) (fun q qi h=>hx1 q qi (hx q qi h))
        · refine hp.sublist ?_
          exact (List.sublist_cons_self e l2).append_left l1
        · by_cases hie:i=e.i
          · subst hie
            rw [hself]
            constructor
            · intro h;cases h
            · rintro ⟨e',h5,h6⟩;exact absurd h6 (hne e' h5)
          · rw [hget i true hie,hlist i hi]
            constructor
            · rintro ⟨e',h5,h6⟩
              refine ⟨e',?_,h6⟩
              rcases List.mem_append.1 h5 with h5 | h5
              · exact List.mem_append_left _ h5
              · rcases List.mem_cons.1 h5 with rfl | h5
                · exact absurd h6.symm hie
                · exact List.mem_append_right _ h5
            · rintro ⟨e',h5,h6⟩
              refine ⟨e',?_,h6⟩
              rcases List.mem_append.1 h5 with h5 | h5
              · exact List.mem_append_left _ h5
              · exact List.mem_append_right _ (List.mem_cons_of_mem _ h5)
        · rcases List.mem_append.1 he' with h5 | h5
          · exact List.mem_append_left _ h5
          · exact List.mem_append_right _ (List.mem_cons_of_mem _ h5)
        · intro k o2 hk hko x hx2 hb
          by_cases hxe:x.on=e.i
          · rw [hxe];exact hself false
          · rw [hget _ _ hxe]
            by_cases hke:k=e.i
            · subst hke;rw [ho] at hko;cases hko;exact h4 x hx2 hb
            · rw [hget _ _ hke] at hk;exact hcl k o2 hk hko x hx2 hb
        · rw [hE1 _ (by have:=hne e' he';omega)]
          refine hf e' ?_ q hq
          rcases List.mem_append.1 he' with h5 | h5
          · exact List.mem_append_left _ h5
          · exact List.mem_append_right _ (List.mem_cons_of_mem _ h5)
        · rw [hE1 q (by omega)];exact hN q hq
      have run:stepR C (nx+128 *e.i) o e.ls e.rd e.wr st some=some s1→o.wp C.P a w (wpAny C.P .any ops Q fuel (listed.setIfInBounds e.i true)) Q:=fun hs=>by
        refine stepR_ok hr hC hΦ ⟨_,hN⟩ (fun q hq=>hf e (by simp) q hq) hs _ Q fun a1 w1 hA=>?_
        obtain ⟨ρ1,hr1,hE1,hx1⟩:=hA
        exact rest a1 w1 ρ1 hr1 (fun q hq=>hE1 q hq) hx1
      unfold wpOp
      rw [ho]
      rcases hcases with ⟨hg,hs⟩ | ⟨j,want,dj,hg,hdj,_,⟨hv,hs⟩ | ⟨hv,hs⟩⟩
      · simp only
        rw [if_pos (by simp [Region.wanted,hg])]
        exact .inl (run hs)
      · have hvr:=hr.slots dj
        rw [hv] at hvr
        have hb:a.tmps.getD dj undef= .bool want:=by
          generalize a.tmps.getD dj undef=v at hvr;cases hvr;rfl
        have hlt2:dj<a.tmps.size:=by
          rcases Nat.lt_or_ge dj a.tmps.size with h | h
          · exact h
          · rw [Array.getD_eq_getD_getElem?,Array.getElem?_eq_none h] at hb;cases hb
        have hy:yielded ops a.tmps j=some want:=by
          unfold yielded
          rw [hdj]
          simp only [Option.bind_some]
          rw [Array.getD_eq_getD_getElem?,Array.getElem?_eq_getElem hlt2] at hb
          rw [Array.getElem?_eq_getElem hlt2]
          simp only [Option.getD_some] at hb
          rw [hb]
        simp only
        rw [if_pos (by simp [Region.wanted,hg,hy])]
        exact .inl (run hs)
      · have hno:Region.wanted o (yielded ops a.tmps)=false:=by
          have hvr:=hr.slots dj
          rcases hv with hv | hv
          · rw [hv] at hvr
            have hu:=vr_tup0' hvr
            have hy:yielded ops a.tmps j=none:=by
              unfold yielded
              rw [hdj]
              simp only [Option.bind_some]
              split
              · rename_i b hb
                rw [Array.getD_eq_getD_getElem?,hb] at hu
                cases hu
              · rfl
            simp [Region.wanted,hg,hy]
          · rw [hv] at hvr
            have hb:a.tmps.getD dj undef= .bool (!want):=by
              generalize a.tmps.getD dj undef=v at hvr;cases hvr;rfl
            have hy:yielded ops a.tmps j=some (!want):=by
              unfold yielded
              rw [hdj]
              simp only [Option.bind_some]
              rw [Array.getD_eq_getD_getElem?] at hb
              cases h2:a.tmps[dj]? with
              | none=>rw [h2] at hb;cases hb
              | some v=>rw [h2] at hb;simp only [Option.getD_some] at hb;rw [hb]
            simp only [Region.wanted,hg,hy]
            cases want <;> rfl
        simp only
        rw [if_neg (by simp [hno])]
        obtain ⟨p1,_,_⟩:=hr.put (v:=undef) (d:= .tup []) (.tup [] #[] rfl fun j hj=>by simp at hj) hs
        exact rest _ w ρ p1 (fun _ _=>rfl) (fun _ _ h=>h)
theorem DStep.keeps {ops:Array Oper} {nx:Nat} {e:Rec} (h:DStep C ops nx e st st'):Keeps nx st.h st'.h:=by
  obtain ⟨o,h1,h2,h3⟩:=h
  have stp:stepR C (nx+128 *e.i) o e.ls e.rd e.wr st some=some st'→Keeps nx st.h st'.h:=fun h=>by
    obtain ⟨x,k1,rfl⟩:=stepR_some h
    have L:=stepK_left (n:=nx) (i:=nx+128 *e.i) (by omega) o x k1
    intro r row hr hrow hm
    have hr:r<nx:=hr
    show layH _ _ _ _ r=_
    by_cases hw:r ∈ e.wr
    · rw [layH_in (.inl hw)]
      exact L.rows r row hr (by show cutH e.rd e.wr st.h r=_;simp only [cutH,memN_iff.2 hw,cond_true];exact hrow) hm
    · rw [layH_out (fun h=>h.elim hw fun h=>by omega)];exact hrow
  have skp:putK C o.dst st (.tup []) some=some st'→Keeps nx st.h st'.h:=fun h=>(all_put0 (π:=fun r=>r<nx) (V.tup []) st' h).rows
  rcases h3 with ⟨_,h⟩ | ⟨j,want,dj,_,_,_,⟨_,h⟩ | ⟨_,h⟩⟩
  · exact stp h
  · exact stp h
  · exact skp h
theorem Todo.frame {ops:Array Oper} {nx:Nat} (hD:∀ o ∈ ops,∀ d,o.dst=some d→D d) {l:List Rec} (h:Todo C ops nx l st st'):
    (∀ s,¬ D s→st'.s s=st.s s)∧Keeps nx st.h st'.h∧st'.nx=st.nx:=by
  induction h with
  | nil=>exact ⟨fun _ _=>rfl,Keeps.refl _ _,rfl⟩
  | cons h k ih=>
    obtain ⟨f1,f2,f3⟩:=h.frame
    obtain ⟨o,h1,h2,_⟩:=id h
    refine ⟨fun s hs=>?_,h.keeps.trans ih.2.1,ih.2.2.trans f3⟩
    rw [ih.1 s hs,f1 s fun hd=>hs (hD o (Array.mem_of_getElem? h1) s (h2 ▸ hd))]
theorem okRecs_all {mask nx:Nat} {rs:List Rec} {e:Rec} (h:okRecs mask nx rs e=true):∀ e1 ∈ rs,Nat.testBit mask e1.i=true∨okPair nx e1 e=true:=fun e1 he=>by
  have:=List.all_eq_true.1 h e1 he
  simpa using this
theorem runD1_ok {ops:Array Oper} {nx:Nat} {K:St→Option R} {r:R}:∀ (m k:Nat) (rs:List Rec) (st:St),k+m=ops.size→
    runD1 C ops (masksGo [] ops.toList) nx (zipFrom k (ops.toList.drop k)) rs st K=some r→
    ∃ l stf,Todo C ops nx l st stf∧K stf=some r∧l.map (·.i)=List.range' k m∧(∀ i o,k≤i→ops[i]?=some o→∀ e ∈ o.after,Region.binds .any e=true→e.on<i)∧
      (∀ e ∈ l,∀ e1 ∈ rs,Nat.testBit ((masksGo [] ops.toList).getD e.i 0) e1.i=true∨okPair nx e1 e=true)∧
      l.Pairwise fun e1 e=>e1.i<e.i∧(Nat.testBit ((masksGo [] ops.toList).getD e.i 0) e1.i=true∨okPair nx e1 e=true)
  | 0,k,rs,st,hk,hrun=>by
    have:ops.toList.drop k=[]:=List.drop_eq_nil_of_le (by simp;omega)
    rw [this] at hrun
    refine ⟨[],st, .nil _,hrun,rfl,fun i o hi ho=>?_,fun e he=>by simp at he, .nil⟩
    rw [Array.getElem?_eq_none (by omega)] at ho;cases ho
  | m+1,k,rs,st,hk,hrun=>by
    have hlt:k<ops.size:=by omega
    have ho:ops[k]?=some ops[k]:=Array.getElem?_eq_getElem hlt
    have hdrop:zipFrom k (ops.toList.drop k)=(k,ops[k]) :: zipFrom (k+1) (ops.toList.drop (k+1)):=by
      rw [List.drop_eq_getElem_cons (by simpa using hlt)];rfl
    rw [hdrop] at hrun
    simp only [runD1] at hrun
    cases hed:edgesOk k ops[k]
    case false=>simp [hed] at hrun
    simp only [hed,gd_true] at hrun
    have hedge:∀ e ∈ (ops[k]).after,Region.binds .any e=true→e.on<k:=fun e he hb=>by
      have:=List.all_eq_true.1 hed e (by simpa using he)
      simp only [hb,Bool.not_true,Bool.false_or,Nat.blt_eq] at this
      exact this
    -- one operation more
    have more:∀ (e:Rec) (st1:St),e.i=k→okRecs ((masksGo [] ops.toList).getD k 0) nx rs e=true→DStep C ops nx e st st1→
        runD1 C ops (masksGo [] ops.toList) nx (zipFrom (k+1) (ops.toList.drop (k+1))) (e :: rs) st1 K=some r→
        ∃ l stf,Todo C ops nx l st stf∧K stf=some r∧l.map (·.i)=List.range' k (m+1)∧(∀ i o,k≤i→ops[i]?=some o→∀ e ∈ o.after,Region.binds .any e=true→e.on<i)∧
          (∀ e ∈ l,∀ e1 ∈ rs,Nat.testBit ((masksGo [] ops.toList).getD e.i 0) e1.i=true∨okPair nx e1 e=true)∧
          l.Pairwise fun e1 e=>e1.i<e.i∧(Nat.testBit ((masksGo [] ops.toList).getD e.i 0) e1.i=true∨okPair nx e1 e=true):=fun e st1 hei hok hstep hrest=>by
      obtain ⟨l,stf,k1,k2,k3,k4,k5,k6⟩:=runD1_ok m (k+1) (e :: rs) st1 (by omega) hrest
      have hli:∀ e' ∈ l,k+1≤e'.i:=fun e' he'=>by
        have:e'.i ∈ l.map (·.i):=List.mem_map.2 ⟨e',he',rfl⟩
        rw [k3,List.mem_range'] at this
        obtain ⟨_,_,h⟩:=this;omega
      refine ⟨e :: l,stf, .cons hstep k1,k2,by rw [List.map_cons,k3,hei,List.range'_succ],fun i o hi hio=>?_,fun e' he' e1 he1=>?_,List.pairwise_cons.2 ⟨fun e' he'=>⟨?_,?_⟩,k6⟩⟩
      · rcases Nat.lt_or_eq_of_le hi with h | h
        · exact k4 i o h hio
        · subst h;rw [ho] at hio;cases hio;exact hedge
      · rcases List.mem_cons.1 he' with rfl | he'
        · rw [hei];exact okRecs_all hok e1 he1
        · exact k5 e' he' e1 (List.mem_cons_of_mem _ he1)
      · have:=hli e' he';omega
      · exact k5 e' he' e (by simp)
    have skip:∀ (j:Nat) (want:Bool) (dj:Nat),(ops[k]).guard=some (j,want)→(ops[j]?).bind (·.dst)=some dj→(st.s dj= .tup []∨st.s dj= .bool (!want))→
        (bif okRecs ((masksGo [] ops.toList).getD k 0) nx rs ⟨k,(ops[k]).dst,[dj],[],[]⟩ then putK C (ops[k]).dst st (.tup []) fun st'=>
          runD1 C ops (masksGo [] ops.toList) nx (zipFrom (k+1) (ops.toList.drop (k+1))) (⟨k,(ops[k]).dst,[dj],[],[]⟩ :: rs) st' K else none)=some r→
        ∃ l stf,Todo C ops nx l st stf∧K stf=some r∧l.map (·.i)=List.range' k (m+1)∧(∀ i o,k≤i→ops[i]?=some o→∀ e ∈ o.after,Region.binds .any e=true→e.on<i)∧
          (∀ e ∈ l,∀ e1 ∈ rs,Nat.testBit ((masksGo [] ops.toList).getD e.i 0) e1.i=true∨okPair nx e1 e=true)∧
          l.Pairwise fun e1 e=>e1.i<e.i∧(Nat.testBit ((masksGo [] ops.toList).getD e.i 0) e1.i=true∨okPair nx e1 e=true):=fun j want dj hg hdj hv h=>by
      cases hok:okRecs ((masksGo [] ops.toList).getD k 0) nx rs ⟨k,(ops[k]).dst,[dj],[],[]⟩
      case false=>rw [hok] at h;cases h
      simp only [hok,cond_true] at h
      rw [putK_nat] at h
      obtain ⟨st1,h1,h2⟩:=Option.bind_eq_some_iff.1 h
      exact more _ st1 rfl hok ⟨_,ho,rfl, .inr ⟨j,want,dj,hg,hdj,by simp, .inr ⟨hv,h1⟩⟩⟩ h2
    split at hrun
    · rename_i hg
      cases hok:okRecs ((masksGo [] ops.toList).getD k 0) nx rs ⟨k,(ops[k]).dst,slotsOf ops[k],(foot ops[k] st).1,(foot ops[k] st).2⟩
      case false=>rw [hok] at hrun;cases hrun
      simp only [hok,gd_true] at hrun
      unfold stepR at hrun
      rw [stepK_nat] at hrun
      obtain ⟨x,h1,h2⟩:=Option.bind_eq_some_iff.1 hrun
      exact more _ _ rfl hok ⟨_,ho,rfl, .inl ⟨hg,stepR_of h1⟩⟩ h2
    · rename_i j want hg
      split at hrun
      · cases hrun
      rename_i dj hdj
      split at hrun
      · rename_i hs
        exact skip j want dj hg hdj (.inl hs) hrun
      · rename_i t hs
        have hself:({ st with s:=upd st.s dj (.bool t) }:St)=st:=by
          have:upd st.s dj (.bool t)=st.s:=by
            funext q
            by_cases hq:q=dj
            · subst hq;rw [upd_same,hs]
            · rw [upd_other _ _ _ _ hq]
          rw [this]
        by_cases htw:t=want
        · subst htw
          have hrun:(bif okRecs ((masksGo [] ops.toList).getD k 0) nx rs ⟨k,(ops[k]).dst,dj :: slotsOf ops[k],(foot ops[k] { st with s:=upd st.s dj (.bool t) }).1,(foot ops[k] { st with s:=upd st.s dj (.bool t) }).2⟩ then
              stepR C (nx+128 *k) ops[k] (dj :: slotsOf ops[k]) (foot ops[k] { st with s:=upd st.s dj (.bool t) }).1 (foot ops[k] { st with s:=upd st.s dj (.bool t) }).2 { st with s:=upd st.s dj (.bool t) } fun st'=>
                runD1 C ops (masksGo [] ops.toList) nx (zipFrom (k+1) (ops.toList.drop (k+1))) (⟨k,(ops[k]).dst,dj :: slotsOf ops[k],(foot ops[k] { st with s:=upd st.s dj (.bool t) }).1,(foot ops[k] { st with s:=upd st.s dj (.bool t) }).2⟩ :: rs) st' K else none)=some r:=by
            cases t <;> exact hrun
          rw [hself] at hrun
          cases hok:okRecs ((masksGo [] ops.toList).getD k 0) nx rs ⟨k,(ops[k]).dst,dj :: slotsOf ops[k],(foot ops[k] st).1,(foot ops[k] st).2⟩
          case false=>rw [hok] at hrun;cases hrun
          simp only [hok,cond_true] at hrun
          unfold stepR at hrun
          rw [stepK_nat] at hrun
          obtain ⟨x,h1,h2⟩:=Option.bind_eq_some_iff.1 hrun
          exact more _ _ rfl hok ⟨_,ho,rfl, .inr ⟨j,t,dj,hg,hdj,by simp, .inl ⟨hs,stepR_of h1⟩⟩⟩ h2
        · have htn:t= !want:=by cases t <;> cases want <;> simp_all
          have hrun:(bif okRecs ((masksGo [] ops.toList).getD k 0) nx rs ⟨k,(ops[k]).dst,[dj],[],[]⟩ then putK C (ops[k]).dst { st with s:=upd st.s dj (.bool t) } (.tup []) fun st'=>
              runD1 C ops (masksGo [] ops.toList) nx (zipFrom (k+1) (ops.toList.drop (k+1))) (⟨k,(ops[k]).dst,[dj],[],[]⟩ :: rs) st' K else none)=some r:=by
            subst htn
            cases want <;> exact hrun
          rw [hself] at hrun
          exact skip j want dj hg hdj (.inr (by rw [hs,htn])) hrun
      · cases hrun
theorem runD_ok (hC:TnOk C) (hΦ:PhiOk C) {id:Nat} {ops:Array Oper} {Q:Exit→Act→World→Prop} {K:St→Option R} {r:R} (hD:∀ o ∈ ops,∀ d,o.dst=some d→D d)
    (hr:Rel C w0 outer own ρ st a w) (hf:∀ q,st.nx≤q→ρ q=none)
    (hrun:runD1 C ops (masksGo [] ops.toList) st.nx (zipFrom 0 ops.toList) [] st (fun st'=>K { st' with nx:=st.nx+128 *ops.size })=some r)
    (hpost:∀ st' a' w' ρ',Goes C w0 outer own D st ρ st' a' w' ρ'→K st'=some r→Q .normal a' w'):(Code.region id ops true).wp C.P Q a w:=by
  obtain ⟨l,stf,k1,k2,k3,k4,k5,k6⟩:=runD1_ok ops.size 0 [] st (by omega) hrun
  obtain ⟨f1,f2,f3⟩:=k1.frame hD
  have hmem:∀ i,i<ops.size↔∃ e ∈ l,e.i=i:=fun i=>by
    have : i ∈ l.map (·.i) ↔ i < ops.size := by rw [k3, List.mem_range']; constructor
                                                · rintro ⟨_,h,rfl⟩;omega
                                                · intro h;exact ⟨i,h,by omega⟩
    rw [← this,List.mem_map]
  have hgetT:∀ i,i<ops.size→(Array.replicate ops.size false).getD i true=false:=fun i hi=>by
    rw [Array.getD_eq_getD_getElem?,Array.getElem?_eq_getElem (by simpa using hi)];simp
  have hgetF:∀ i,(Array.replicate ops.size false).getD i false=false:=fun i=>by
    rw [Array.getD_eq_getD_getElem?]
    cases h:(Array.replicate ops.size false)[i]? with
    | none=>rfl
    | some b=>rw [Array.getElem?_replicate] at h;split at h <;> simp_all
  obtain ⟨m1,m2⟩:=hr.heap.world (w':= { w with drawn:=w.drawn+1 }) ⟨rfl,rfl,rfl,Nat.le_refl _⟩ rfl
  have hr1:Rel C w0 outer own ρ st a { w with drawn:=w.drawn+1 }:=⟨m1,fun i=>m2 _ _ (hr.slots i),hr.size,hr.defers,hr.glob⟩
  refine wp_region_any hC.mixed ?_
  refine drawn_ok hC hΦ (fun i o ho=>k4 i o (Nat.zero_le _) ho) D hD ρ (fun a' w' ρ' h1 h2 h3=>?_) ops.size l _ st a _ ρ ?_ k1 k6 (by simp) (fun i hi=>⟨fun _=>(hmem i).1 hi,fun _=>hgetT i hi⟩) (fun e he=>(hmem e.i).2 ⟨e,he,rfl⟩)
    (fun k o hk=>by rw [hgetF] at hk;cases hk) hr1 (fun e he q hq=>hf _ (by omega)) (fun q hq=>hf q (by omega)) (fun _ _ h=>h)
  · refine hpost { stf with nx:=st.nx+128 *ops.size } a' w' ρ' ⟨⟨h1.heap,h1.slots,h1.size,h1.defers,h1.glob⟩,h2,f1,f2,Nat.le_add_right _ _,h3⟩ k2
  · have:=congrArg List.length k3
    simpa using this
end
end Go.D
namespace Go.D
def exOf:Ex→Exit
  | .normal=> .normal
  | .exit id=> .exit id
  | .ret=> .ret
section
variable {C:Cx} {w0:World} {outer own D:Nat→Prop} {R:Type} {st st1 st2:St} {ρ ρ1 ρ2:Nat→Option RI} {a a1 a2:Act} {w w1 w2:World}
theorem Goes.refl (hr:Rel C w0 outer own ρ st a w) (hf:∀ q,st.nx≤q→ρ q=none):Goes C w0 outer own D st ρ st a w ρ:=
  ⟨hr,fun _ _ h=>h,fun _ _=>rfl,Keeps.refl _ _,Nat.le_refl _,hf⟩
theorem Goes.trans (h:Goes C w0 outer own D st ρ st1 a1 w1 ρ1) (k:Goes C w0 outer own D st1 ρ1 st2 a2 w2 ρ2):Goes C w0 outer own D st ρ st2 a2 w2 ρ2:=
  ⟨k.rel,fun q qi hq=>k.ext _ _ (h.ext _ _ hq),fun s hs=>(k.slots s hs).trans (h.slots s hs),h.keeps.trans (k.keeps.le h.nx),Nat.le_trans h.nx k.nx,k.fresh⟩
theorem Goes.mono {D':Nat→Prop} (h:Goes C w0 outer own D st ρ st1 a1 w1 ρ1) (hd:∀ s,D s→D' s):Goes C w0 outer own D' st ρ st1 a1 w1 ρ1:=
  ⟨h.rel,h.ext,fun s hs=>h.slots s fun e=>hs (hd s e),h.keeps,h.nx,h.fresh⟩
theorem preIds_noLock {s:Nat} {ids:List Nat} (h:preIds st s=some ids):NoLock st.h ids:=by
  unfold preIds at h
  cases hb:Nat.ble 1000000 s
  · simp only [hb,cond_false] at h
    split at h
    · rename_i hf;cases h;exact frz_noLock hf
    · cases h
  · simp only [hb,cond_true] at h
    split at h
    · split at h
      · split at h
        · rename_i hf;cases h;exact frzList_noLock hf
        · cases h
      · cases h
    · cases h
theorem preRo_ok:∀ (pre:List Nat) (st st1:St),preRo pre st=some st1→Rel C w0 outer own ρ st a w→Rel C w0 outer own ρ st1 a w∧st1.s=st.s∧st1.nx=st.nx∧∀ n,Keeps n st.h st1.h
  | [],st,st1,h,hr=>by simp [preRo] at h;subst h;exact ⟨hr,rfl,rfl,fun n=>Keeps.refl n _⟩
  | s :: pre,st,st1,h,hr=>by
    simp only [preRo] at h
    split at h
    case h_2=>cases h
    rename_i ids hf
    obtain ⟨m1,m2⟩:=hr.heap.mark ids
    have hr1:Rel C w0 outer own ρ { st with h:=markRo st.h ids } a w:=hr.turn m1 m2
    obtain ⟨k1,k2,k3,k4⟩:=preRo_ok pre _ st1 h hr1
    exact ⟨k1,k2,k3,fun n=>(keeps_mark _ (preIds_noLock hf)).trans (k4 n)⟩
theorem Goes.pre {pre:List Nat} (hp:preRo pre st=some st1) (hr:Rel C w0 outer own ρ st a w) (h:Goes C w0 outer own D st1 ρ st2 a2 w2 ρ2):Goes C w0 outer own D st ρ st2 a2 w2 ρ2:=by
  obtain ⟨_,k2,k3,k4⟩:=preRo_ok pre st st1 hp hr
  exact ⟨h.rel,h.ext,fun s hs=>by rw [h.slots s hs,k2],(k4 _).trans (by rw [← k3];exact h.keeps),by rw [← k3];exact h.nx,h.fresh⟩
theorem Goes.unlock {j:JI} {b:St} (h:Goes C w0 outer own D (lockBut j b) ρ st1 a1 w1 ρ1):Goes C w0 outer own D b ρ (Go.D.unlock b st1) a1 w1 ρ1:=
  ⟨h.rel.unlock b,h.ext,h.slots,keeps_unlock h.keeps,h.nx,h.fresh⟩
theorem Goes.install {j:JI} {b:St} {k:Tup j.cs→Option R} {r:R} (hb:Rel C w0 outer own ρ b a w) (hf:∀ q,b.nx≤q→ρ q=none) (h:Goes C w0 outer own (fun s=>j.has s=true) (lockBut j b) ρ st1 a1 w1 ρ1)
    (hbox:boxSlots j=true) (he:exK j.cs st1 k=some r):∃ x,k x=some r∧∃ ρ2,Goes C w0 outer own (fun s=>j.has s=true) b ρ (Go.D.install j b x) a1 w1 ρ2:=by
  obtain ⟨x,h1,ρ2,h2,h3,h4,h5⟩:=install_ok hb hf h.rel h.fresh h.nx h.ext (fun s hs=>h.slots s (by simp [hs])) h.keeps hbox he
  refine ⟨x,h1,ρ2,h2,h4,fun s hs=>install_slots j b x s (by simpa using hs),h5,?_,h3⟩
  simp only [Go.D.install];omega
theorem runR_ok (hC:TnOk C) (hΦ:PhiOk C) {id:Nat} {pre:List Nat} {d:Bool} {ops:Array Oper} {Q:Exit→Act→World→Prop} {K:St→Option R} {r:R} (hD:∀ o ∈ ops,∀ d,o.dst=some d→D d)
    (hr:Rel C w0 outer own ρ st a w) (hf:∀ q,st.nx≤q→ρ q=none) (hrun:runR C pre d ops st K=some r)
    (hpost:∀ st' a' w' ρ',Goes C w0 outer own D st ρ st' a' w' ρ'→K st'=some r→Q .normal a' w'):(Code.region id ops d).wp C.P Q a w:=by
  cases d with
  | true=>
    simp only [runR,gd_true,runD] at hrun
    split at hrun
    · cases hrun
    rename_i st0 hp
    obtain ⟨p1,p2,p3,p4⟩:=preRo_ok _ _ _ hp hr
    exact runD_ok hC hΦ hD p1 (by rw [← p3] at hf;exact hf) hrun fun st' a' w' ρ' h1 h2=>hpost st' a' w' ρ' (Goes.pre hp hr h1) h2
  | false=>
    simp only [runR,gd_false] at hrun
    refine wp_region ?_
    rw [List.range_eq_range']
    refine runG_ok hC hΦ st.nx hD ops.size 0 st a w ρ (by omega) hr (fun q hq=>hf q (by omega)) hrun fun st' a' w' ρ' h1 h2 h3 h4 h5 h6 h7=>?_
    exact hpost { st' with nx:=st.nx+128 *ops.size } a' w' ρ' ⟨⟨h1.heap,h1.slots,h1.size,h1.defers,h1.glob⟩,h3,h4,h5,Nat.le_add_right _ _,h2⟩ h7
end
end Go.D
namespace Go.D
section
variable {C:Cx} {w0:World} {outer own D:Nat→Prop} {R:Type} {st st1 st2:St} {ρ ρ1 ρ2:Nat→Option RI} {a a1 a2:Act} {w w1 w2:World} {j:JI}
theorem rowOf_enc (t:TN) (x:El t):∀ c ∈ enc t x,rowOf c=none:=by
  intro c hc
  cases t <;> (simp [enc,encAddr,encOp,encEvent,encJar,encDice,encWin,encEp,encChan,encCand,encPaths,encSess,encTab,encCredit,encServer,encFrame,encTimer,encClient,encWire,encNote,encWorld,encCur,encOut,encForm,encHash] at hc;rcases hc with rfl | hc <;> (repeat (first | rfl | (rcases hc with rfl | hc))))
theorem rowOf_thawL (ow:List Nat) (base:Nat):∀ (es:List V) (p r:Nat),(∀ c ∈ es,rowOf c=none)→∀ c ∈ thawL ow base p es,rowOf c=some r→base≤r
  | [],p,r,_,c,hc,_=>by simp [thawL] at hc
  | e :: es,p,r,he,c,hc,h=>by
    have ih:=rowOf_thawL ow base es (p+1) r (fun c hc=>he c (by simp [hc]))
    have h0:=he e (by simp)
    cases e <;> (simp only [thawL,List.mem_cons] at hc;rcases hc with rfl | hc) <;> first | exact ih c hc h | (rw [h0] at h;cases h) | skip
    cases hb:ow.any (Nat.beq p)
    · simp [hb,rowOf] at h
    · simp [hb,rowOf] at h;omega
def InsRow (sl:Nat→V) (cs:List Comp) (id:Nat) (h:Nat→Option Row) (q:Nat) (row:Row):Prop:=
  h q=some row∨(id≤q∧∃ t l,row.c= .arr t l)∨(∃ s t ow es, .box s t ow ∈ cs∧sl s= .bp q 0∧row=⟨.box es, .own⟩∧∀ c ∈ es,∀ r,rowOf c=some r→id≤r)
theorem insH_cases (sl:Nat→V):∀ (cs:List Comp) (id:Nat) (x:Tup cs) (h:Nat→Option Row) (q:Nat) (row:Row),insH sl cs id x h q=some row→InsRow sl cs id h q row:=by
  have one:∀ (c:Comp) (id:Nat) (x:c.T) (h:Nat→Option Row) (q:Nat) (row:Row),insH1 sl c id x h q=some row→InsRow sl [c] id h q row:=by
    intro c id x h q row hq
    cases c with
    | slot s ty=>exact .inl hq
    | own s t=>
      simp only [insH1] at hq
      by_cases hqi:q=id
      · subst hqi;rw [upd_same] at hq;cases hq;exact .inr (.inl ⟨Nat.le_refl _,_,_,rfl⟩)
      · rw [upd_other _ _ _ _ hqi] at hq;exact .inl hq
    | box s t ow=>
      simp only [insH1] at hq
      generalize hs:sl s=v at hq
      cases v with
      | bp r off=>
        cases off with
        | zero=>
          simp only at hq
          by_cases hqr:q=r
          · subst hqr;rw [upd_same] at hq;cases hq
            exact .inr (.inr ⟨s,t,ow,_,by simp,hs,rfl,fun c hc r hr=>rowOf_thawL ow id _ 0 r (rowOf_enc t x) c hc hr⟩)
          · rw [upd_other _ _ _ _ hqr,thawH_or] at hq
            split at hq
            · rename_i y hy
              cases hq
              obtain ⟨_,_,he,h1,h2⟩:=thawH_arr _ _ _ _ _ _ hy
              exact .inr (.inl ⟨by omega,_,_,congrArg Row.c he⟩)
            · exact .inl hq
        | succ n=>exact .inl hq
      | _=>exact .inl hq
  intro cs
  induction cs with
  | nil=>intro id x h q row hq;exact .inl hq
  | cons c cs ih=>
    intro id x h q row hq
    cases cs with
    | nil=>exact one c id x h q row hq
    | cons d r=>
      rcases one c id x.1 _ q row hq with h1 | h1 | ⟨s,t,ow,es,h1,h2,h3,h4⟩
      · rcases ih (id+128) x.2 h q row h1 with h2 | ⟨h2,h3⟩ | ⟨s,t,ow,es,h3,h4,h5,h6⟩
        · exact .inl h2
        · exact .inr (.inl ⟨by omega,h3⟩)
        · exact .inr (.inr ⟨s,t,ow,es,List.mem_cons_of_mem _ h3,h4,h5,fun c hc r hr=>by have:=h6 c hc r hr;omega⟩)
      · exact .inr (.inl h1)
      · exact .inr (.inr ⟨s,t,ow,es,by simp at h1;simp [h1],h2,h3,h4⟩)
theorem insS_own (f:Nat→V) (s:Nat) (t:TN):∀ (cs:List Comp) (id:Nat) (x:Tup cs),slotsNodup cs=true→ .own s t ∈ cs→∃ r,insS cs id x f s= .ow r∧id≤r:=by
  intro cs
  induction cs with
  | nil=>intro id x _ h;simp at h
  | cons c cs ih=>
    intro id x hn hm
    have key:∀ (y:c.T) (g:Nat→V),c= .own s t→∃ r,insS1 c id y g s= .ow r∧id≤r:=by
      intro y g hc;subst hc;exact ⟨id,upd_same _ _ _,Nat.le_refl _⟩
    rcases List.mem_cons.1 hm with he | hm
    · cases cs with
      | nil=>exact key x f he.symm
      | cons d r=>exact key x.1 _ he.symm
    · cases cs with
      | nil=>simp at hm
      | cons d r=>
        have hn2:slotsNodup (d :: r)=true∧∀ y g,insS1 c id y g s=g s:=by
          have hs:isSlot (d :: r) s=true:=by
            clear ih
            generalize d :: r=l at hm
            induction l with
            | nil=>simp at hm
            | cons e l ih=>
              rcases List.mem_cons.1 hm with h | h
              · subst h;simp [isSlot]
              · cases e <;> simp [isSlot,ih h]
          cases c with
          | slot s' ty=>
            simp only [slotsNodup,Bool.and_eq_true,Bool.not_eq_true'] at hn
            refine ⟨hn.2,fun y g=>upd_other _ _ _ _ ?_⟩
            rintro rfl;rw [hs] at hn;exact absurd hn.1 (by simp)
          | own s' ty=>
            simp only [slotsNodup,Bool.and_eq_true,Bool.not_eq_true'] at hn
            refine ⟨hn.2,fun y g=>upd_other _ _ _ _ ?_⟩
            rintro rfl;rw [hs] at hn;exact absurd hn.1 (by simp)
          | box s' ty ow=>exact ⟨hn,fun y g=>rfl⟩
        obtain ⟨q,h1,h2⟩:=ih (id+128) x.2 hn2.1 hm
        exact ⟨q,by simp only [insS];rw [hn2.2];exact h1,by omega⟩
theorem lock_install_keeps {b:St} {x:Tup j.cs} (hbox:boxSlots j=true) (hn:slotsNodup j.cs=true) (hk:Keeps b.nx b.h (install j b x).h):
    Keeps b.nx (lockBut j b).h (lockBut j (install j b x)).h:=by
  intro q row hq hr hm
  simp only [lockBut] at hr
  split at hr
  · rename_i c hc
    cases hi:inRows j.cs b q
    case true=>simp only [hi,cond_true,Option.some.injEq] at hr;subst hr;cases hm
    simp only [hi,cond_false,Option.some.injEq] at hr
    subst hr
    have hboxs:∀ s t ow,Comp.box s t ow ∈ j.cs→(install j b x).s s=b.s s:=fun s t ow hm=>install_slots j b x s (by
      have:=List.all_eq_true.1 hbox _ hm;simpa using this)
    have hno:∀ c ∈ j.cs,inRows1 b q c=false:=fun c hc=>by
      have h0:(j.cs.any (inRows1 b q))=false:=hi
      cases h1:inRows1 b q c with
      | false=>rfl
      | true=>rw [List.any_eq_true.2 ⟨c,hc,h1⟩] at h0;cases h0
    have hnb:∀ s t ow,Comp.box s t ow ∈ j.cs→b.s s≠ .bp q 0:=fun s t ow hm h=>by
      have:=hno _ hm;simp [inRows1,h] at this
    have hrest:restH j b q=some ⟨c, .own⟩:=by simp [restH,hc,hi]
    have h1:(install j b x).h q=some ⟨c, .own⟩:=by
      obtain ⟨row',h2⟩:=insH_some b.s j.cs b.nx x _ q _ hrest
      rcases insH_cases b.s j.cs b.nx x _ q _ h2 with h3 | ⟨h3,_⟩ | ⟨s,t,ow,es,h3,h4,_⟩
      · rw [hrest] at h3;cases h3;exact h2
      · omega
      · exact absurd h4 (hnb s t ow h3)
    have h2:inRows j.cs (install j b x) q=false:=by
      cases h3:inRows j.cs (install j b x) q with
      | false=>rfl
      | true=>
        exfalso
        obtain ⟨cm,h4,h5⟩:=List.any_eq_true.1 h3
        cases cm with
        | slot s ty=>cases h5
        | own s t=>
          obtain ⟨r,h6,h7⟩:=insS_own (fun i=>bif inKill j.kill i then .undef else b.s i) s t j.cs b.nx x hn h4
          have h8:(install j b x).s s= .ow r:=h6
          simp only [inRows1,h8,rowOf] at h5
          have:=Nat.eq_of_beq_eq_true h5;omega
        | box s t ow=>
          have h6:=hboxs s t ow h4
          simp only [inRows1,h6] at h5
          split at h5
          · rename_i bb hbs
            simp only [Bool.or_eq_true] at h5
            rcases h5 with h5 | h5
            · have:=Nat.eq_of_beq_eq_true h5;subst this;exact hnb s t ow h4 hbs
            · split at h5
              · rename_i cs m hcs
                obtain ⟨cc,h7,h8⟩:=List.any_eq_true.1 h5
                split at h8
                · rename_i r' hr'
                  have:=Nat.eq_of_beq_eq_true h8;subst this
                  rcases insH_cases b.s j.cs b.nx x _ bb _ hcs with h9 | ⟨_,_,_,h9⟩ | ⟨s',t',ow',es,_,_,h9,h10⟩
                  · have h11:∃ m',b.h bb=some ⟨.box cs,m'⟩:=by
                      unfold restH at h9
                      split at h9
                      · rename_i c' hc'
                        cases hi':inRows j.cs b bb
                        · simp only [hi',cond_false,Option.some.injEq] at h9;cases h9;exact ⟨_,hc'⟩
                        · simp [hi'] at h9
                      · exact ⟨_,h9⟩
                    obtain ⟨m',h11⟩:=h11
                    have h12:=hno _ h4
                    simp only [inRows1,hbs,h11,Bool.or_eq_false_iff] at h12
                    have h13:=List.any_eq_false.1 h12.2 cc h7
                    rw [hr'] at h13
                    exact h13 h8
                  · cases h9
                  · cases h9
                    have:=h10 cc h7 _ hr';omega
                · cases h8
              · cases h5
          · cases h5
    simp only [lockBut,h1,h2,cond_false]
  · have h1:=hk q row hq hr hm
    simp only [lockBut,h1]
    obtain ⟨c,m⟩:=row
    cases m with
    | own=>cases hm
    | ro=>rfl
    | lock=>rfl
theorem Goes.round {b:St} {x:Tup j.cs} {k:Tup j.cs→Option R} {r:R} (hb:Rel C w0 outer own ρ b a w) (hf:∀ q,b.nx≤q→ρ q=none)
    (h0:Goes C w0 outer own (fun s=>j.has s=true) b ρ (Go.D.install j b x) a1 w1 ρ1)
    (h:Goes C w0 outer own (fun s=>j.has s=true) (lockBut j (Go.D.install j b x)) ρ1 st2 a2 w2 ρ2)
    (hbox:boxSlots j=true) (hn:slotsNodup j.cs=true) (he:exK j.cs st2 k=some r):∃ y,k y=some r∧∃ ρ3,Goes C w0 outer own (fun s=>j.has s=true) b ρ (Go.D.install j b y) a2 w2 ρ3:=by
  have hnx:b.nx≤st2.nx:=Nat.le_trans h0.nx h.nx
  obtain ⟨y,h1,ρ3,h2,h3,h4,h5⟩:=install_ok (ρ':=ρ2) hb hf h.rel h.fresh hnx (fun q qi hq=>h.ext _ _ (h0.ext _ _ hq)) (fun s hs=>by
      have hs':¬ (j.has s=true):=by simp [hs]
      have e1:=h.slots s hs'
      have e2:=h0.slots s hs'
      exact e1.trans e2)
    ((lock_install_keeps hbox hn h0.keeps).trans (h.keeps.le h0.nx)) hbox he
  refine ⟨y,h1,ρ3,h2,h4,fun s hs=>install_slots j b y s (by simpa using hs),h5,?_,h3⟩
  simp only [Go.D.install];omega
theorem loop_ok {an:An} {c:Code} {b:St} {K:Ex→St→Option R} {r:R} {Q:Exit→Act→World→Prop} (hb:Rel C w0 outer own ρ b a w) (hf:∀ q,b.nx≤q→ρ q=none)
    (hbox:boxSlots j=true) (hn:slotsNodup j.cs=true)
    (body:∀ (st:St) (a:Act) (w:World) (ρ:Nat→Option RI) (K:Ex→St→Option R) (Q:Exit→Act→World→Prop),Rel C w0 outer own ρ st a w→(∀ q,st.nx≤q→ρ q=none)→runC C an c st K=some r→
      (∀ e st' a' w' ρ',Goes C w0 outer own (fun s=>j.has s=true) st ρ st' a' w' ρ'→K e st'=some r→Q (exOf e) a' w')→c.wp C.P Q a w)
    (hpost:∀ e st' a' w' ρ',Goes C w0 outer own (fun s=>j.has s=true) b ρ st' a' w' ρ'→K e st'=some r→Q (exOf e) a' w'):
    ∀ (n:Nat) (x:Tup j.cs) (a1:Act) (w1:World) (ρ1:Nat→Option RI),Goes C w0 outer own (fun s=>j.has s=true) b ρ (Go.D.install j b x) a1 w1 ρ1→
      loopK n (fun (x : Tup j.cs) (k : Tup j.cs → Option R) => runC C an c (lockBut j (Go.D.install j b x)) fun e st' => match e with
                | .normal=>exK j.cs st' k
                | e=>K e (Go.D.unlock (Go.D.install j b x) st')) x=some r→Code.rounds C.P c Q n a1 w1
  | 0,x,a1,w1,ρ1,h0,h=>by simp [loopK] at h
  | n+1,x,a1,w1,ρ1,h0,h=>by
    rw [rounds_succ]
    simp only [loopK] at h
    refine body _ a1 w1 ρ1 _ _ (h0.rel.lock j) h0.fresh h fun e st' a' w' ρ' hg hk=>?_
    cases e with
    | normal=>
      obtain ⟨y,k1,ρ3,k2⟩:=h0.round hb hf hg hbox hn hk
      exact loop_ok hb hf hbox hn body hpost n y a' w' ρ3 k2 k1
    | exit id=>exact hpost (.exit id) _ a' w' ρ' (h0.trans hg.unlock) hk
    | ret=>exact hpost .ret _ a' w' ρ' (h0.trans hg.unlock) hk
theorem runC_ok (hC:TnOk C) (hΦ:PhiOk C) (an:An):∀ (c:Code) (D:Nat→Prop),Touch an D c→∀ (st:St) (a:Act) (w:World) (ρ:Nat→Option RI) (K:Ex→St→Option R) (r:R) (Q:Exit→Act→World→Prop),
    Rel C w0 outer own ρ st a w→(∀ q,st.nx≤q→ρ q=none)→runC C an c st K=some r→
    (∀ e st' a' w' ρ',Goes C w0 outer own D st ρ st' a' w' ρ'→K e st'=some r→Q (exOf e) a' w')→c.wp C.P Q a w:=by
  intro c
  induction c with
  | skip=>
    intro D hT st a w ρ K r Q hr hf hrun hpost
    exact wp_skip (hpost .normal st a w ρ (Goes.refl hr hf) hrun)
  | region id ops d=>
    intro D hT st a w ρ K r Q hr hf hrun hpost
    simp only [runC] at hrun
    split at hrun
    · exact runR_ok hC hΦ hT.1 hr hf hrun fun st' a' w' ρ' h1 h2=>hpost .normal st' a' w' ρ' h1 h2
    · rename_i j hj
      split at hrun
      · cases hrun
      rename_i st0 hp
      obtain ⟨p1,p2,p3,p4⟩:=preRo_ok _ _ _ hp hr
      cases hjo:joinOk an j (.region id ops d)
      case false=>simp [hjo] at hrun
      simp only [hjo,gd_true,joinK] at hrun
      simp only [joinOk,Bool.and_eq_true] at hjo
      have hw:=within_touch an j _ hjo.1.1
      refine runR_ok (D:=fun s=>j.has s=true) hC hΦ hw.1 (p1.lock j) (by rw [← p3] at hf;exact hf) hrun fun st' a' w' ρ' h1 h2=>?_
      obtain ⟨x,k1,ρ2,k2⟩:=Goes.install p1 (by rw [← p3] at hf;exact hf) h1 hjo.1.2 h2
      have hD:∀ s,j.has s=true→D s:=by have:=hT.2;rw [hj] at this;exact this
      exact hpost .normal _ a' w' ρ2 (Goes.pre hp hr (k2.mono hD)) k1
  | seq x y ihx ihy=>
    intro D hT st a w ρ K r Q hr hf hrun hpost
    simp only [runC] at hrun
    refine wp_seq (ihx D hT.1 st a w ρ _ r _ hr hf hrun fun e st' a' w' ρ' h1 h2=>?_)
    cases e with
    | normal=>exact ihy D hT.2 st' a' w' ρ' _ r _ h1.rel h1.fresh h2 fun e st2 a2 w2 ρ2 h3 h4=>hpost e st2 a2 w2 ρ2 (h1.trans h3) h4
    | exit id=>exact hpost (.exit id) st' a' w' ρ' h1 h2
    | ret=>exact hpost .ret st' a' w' ρ' h1 h2
  | cond c x y ihx ihy=>
    intro D hT st a w ρ K r Q hr hf hrun hpost
    cases c with
    | tmp t=>
      simp only [runC] at hrun
      split at hrun
      case h_2=>cases hrun
      rename_i b hb
      have hv:=hr.slots t
      rw [hb] at hv
      have hc:a.eval (.tmp t)= .bool b:=by
        show a.tmps.getD t undef=_
        generalize a.tmps.getD t undef=v at hv;cases hv;rfl
      refine wp_cond hc ?_
      split at hrun
      · cases b with
        | true=>exact ihx D hT.1 st a w ρ K r Q hr hf hrun hpost
        | false=>exact ihy D hT.2.1 st a w ρ K r Q hr hf hrun hpost
      · rename_i j hj
        split at hrun
        · cases hrun
        rename_i st0 hp
        obtain ⟨p1,p2,p3,p4⟩:=preRo_ok _ _ _ hp hr
        cases hjo:joinOk an j x&&joinOk an j y
        case false=>simp [hjo] at hrun
        simp only [hjo,gd_true,joinK] at hrun
        simp only [joinOk,Bool.and_eq_true] at hjo
        have hD:∀ s,j.has s=true→D s:=by have:=hT.2.2;rw [hj] at this;exact this
        have hf0:∀ q,st0.nx≤q→ρ q=none:=by rw [← p3] at hf;exact hf
        have fin:∀ (e:Ex) (st':St) (a':Act) (w':World) (ρ':Nat→Option RI),Goes C w0 outer own (fun s=>j.has s=true) (lockBut j st0) ρ st' a' w' ρ'→
            (match e with
              | .normal=>exK j.cs st' fun y=>K .normal (Go.D.install j st0 y)
              | e=>K e (Go.D.unlock st0 st'))=some r→Q (exOf e) a' w':=by
          intro e st' a' w' ρ' h1 h2
          cases e with
          | normal=>
            obtain ⟨x,k1,ρ2,k2⟩:=Goes.install p1 hf0 h1 hjo.1.1.2 h2
            exact hpost .normal _ a' w' ρ2 (Goes.pre hp hr (k2.mono hD)) k1
          | exit id=>exact hpost (.exit id) _ a' w' ρ' (Goes.pre hp hr (h1.unlock.mono hD)) h2
          | ret=>exact hpost .ret _ a' w' ρ' (Goes.pre hp hr (h1.unlock.mono hD)) h2
        cases b with
        | true=>exact ihx _ (within_touch an j _ hjo.1.1.1) (lockBut j st0) a w ρ _ r Q (p1.lock j) hf0 hrun fin
        | false=>exact ihy _ (within_touch an j _ hjo.2.1.1) (lockBut j st0) a w ρ _ r Q (p1.lock j) hf0 hrun fin
    | _=>simp [runC] at hrun
  | block id x ih=>
    intro D hT st a w ρ K r Q hr hf hrun hpost
    refine wp_block ?_
    simp only [runC] at hrun
    split at hrun
    · refine ih D hT.1 st a w ρ _ r _ hr hf hrun fun e st' a' w' ρ' h1 h2=>?_
      cases e with
      | normal=>exact hpost .normal st' a' w' ρ' h1 h2
      | ret=>exact hpost .ret st' a' w' ρ' h1 h2
      | exit id'=>
        simp only [exOf,Exit.inBlock]
        simp only at h2
        cases hb:Nat.beq id' id
        · have hne:¬ id'=id:=fun e=>by subst e;simp at hb
          rw [if_neg hne];rw [hb] at h2;exact hpost (.exit id') st' a' w' ρ' h1 h2
        · have hne:=Nat.eq_of_beq_eq_true hb
          rw [if_pos hne];rw [hb] at h2;exact hpost .normal st' a' w' ρ' h1 h2
    · rename_i j hj
      split at hrun
      · cases hrun
      rename_i st0 hp
      obtain ⟨p1,p2,p3,p4⟩:=preRo_ok _ _ _ hp hr
      cases hjo:joinOk an j x
      case false=>simp [hjo] at hrun
      simp only [hjo,gd_true,joinK] at hrun
      simp only [joinOk,Bool.and_eq_true] at hjo
      have hD:∀ s,j.has s=true→D s:=by have:=hT.2;rw [hj] at this;exact this
      have hf0:∀ q,st0.nx≤q→ρ q=none:=by rw [← p3] at hf;exact hf
      refine ih _ (within_touch an j _ hjo.1.1) (lockBut j st0) a w ρ _ r _ (p1.lock j) hf0 hrun fun e st' a' w' ρ' h1 h2=>?_
      cases e with
      | normal=>
        obtain ⟨x,k1,ρ2,k2⟩:=Goes.install p1 hf0 h1 hjo.1.2 h2
        exact hpost .normal _ a' w' ρ2 (Goes.pre hp hr (k2.mono hD)) k1
      | ret=>exact hpost .ret _ a' w' ρ' (Goes.pre hp hr (h1.unlock.mono hD)) h2
      | exit id'=>
        simp only [exOf,Exit.inBlock]
        simp only at h2
        cases hb:Nat.beq id' id
        · have hne:¬ id'=id:=fun e=>by subst e;simp at hb
          rw [if_neg hne];rw [hb] at h2;exact hpost (.exit id') _ a' w' ρ' (Goes.pre hp hr (h1.unlock.mono hD)) h2
        · have hne:=Nat.eq_of_beq_eq_true hb
          rw [if_pos hne];rw [hb] at h2
          obtain ⟨x,k1,ρ2,k2⟩:=Goes.install p1 hf0 h1 hjo.1.2 h2
          exact hpost .normal _ a' w' ρ2 (Goes.pre hp hr (k2.mono hD)) k1
  | loop x ih=>
    intro D hT st a w ρ K r Q hr hf hrun hpost
    simp only [runC] at hrun
    split at hrun
    · cases hrun
    rename_i rid hrid
    split at hrun
    · cases hrun
    rename_i j hj
    split at hrun
    · cases hrun
    rename_i st0 hp
    obtain ⟨p1,p2,p3,p4⟩:=preRo_ok _ _ _ hp hr
    cases hjo:joinOk an j x
    case false=>simp [hjo] at hrun
    simp only [hjo,gd_true] at hrun
    simp only [joinOk,Bool.and_eq_true] at hjo
    have hD:∀ s,j.has s=true→D s:=by have:=hT.2;simp only [hrid,hj] at this;exact this
    have hf0:∀ q,st0.nx≤q→ρ q=none:=by rw [← p3] at hf;exact hf
    obtain ⟨x0,h1,ρ2,h2,h3,h4,h5⟩:=install_ok (b:=st0) (st':=lockBut j st0) p1 hf0 (p1.lock j) hf0 (Nat.le_refl _) (fun _ _ h=>h) (fun _ _=>rfl) (Keeps.refl _ _) hjo.1.2 hrun
    refine wp_loop_rounds FU (loop_ok (j:=j) p1 hf0 hjo.1.2 hjo.2 (fun st a w ρ K Q hr hf hrun hpost=>ih _ (within_touch an j _ hjo.1.1) st a w ρ K r Q hr hf hrun hpost)
        (fun e st' a' w' ρ' hg hk=>hpost e st' a' w' ρ' (Goes.pre hp hr (hg.mono hD)) hk) FU x0 a w ρ2 ⟨h2,h4,fun s hs=>install_slots j st0 x0 s (by simpa using hs),h5,?_,h3⟩ h1)
    simp only [Go.D.install];omega
  | exit id=>
    intro D hT st a w ρ K r Q hr hf hrun hpost
    exact wp_exit (hpost (.exit id) st a w ρ (Goes.refl hr hf) hrun)
  | ret=>
    intro D hT st a w ρ K r Q hr hf hrun hpost
    exact wp_ret (hpost .ret st a w ρ (Goes.refl hr hf) hrun)
  | _=>
    intro D hT st a w ρ K r Q hr hf hrun hpost
    simp [runC] at hrun
end
end Go.D

/-
 Regions that draw their order: one run in the order of the text serves every order.
-/
import Derived.Test.YtkpkommmdacjlaaGreatL5
import Derived.Orders
import Derived.LoopN
set_option linter.all false
namespace Go.D
variable [aA]
section
variable {C:Cx} {w0:World} {outer D:Nat→Prop} {own:Ow} {R:Type} {st st' st1 st2:St} {ρ ρ1 ρ2:Nat→Option RI} {a a1 a2:Act} {w w1 w2:World}
omit [aA]in
def CG{r:Nat}{l:List Nat}:cC r l=true↔r∈l:=by
 unfold cC;rw[List.any_eq_true];constructor
 ·rintro⟨x,h1,h2⟩;rw[Nat.eq_of_beq_eq_true h2];exact h1
 ·intro h;exact⟨r,h,by simp⟩
omit [aA]in
def xG{r:Nat}{l:List Nat}:cC r l=false↔r∉l:=by
 rw[←CG];cases cC r l<;>simp
omit [aA]in
def LU{b r:Nat}:sF b r=true↔b≤r∧r<b+128:=by
 simp only[sF,Bool.and_eq_true,Nat.ble_eq,Nat.blt_eq]
omit [aA]in
def FH{b r:Nat}:sF b r=false↔¬(b≤r∧r<b+128):=by
 rw[←LU];cases sF b r<;>simp
def KL(st st':St):Prop:=∀r row,st'.h r=some row→(∃row0,st.h r=some row0)∨row.m.isOwn=true
omit [aA]in
def mH{dst:Option Nat}{h':Nat→Option gA}(hk:∀r row,h' r=some row→(∃row0,st.h r=some row0)∨row.m.isOwn=true)(v:V):KB (KL st) (DA C dst {st with h:=h'} v some):=by
 intro st' h;cases dst with
 | none=>simp[DA]at h;subst h;exact hk
 | some d=>
  simp only[DA]at h;cases hb:Nat.blt d C.nt<;>simp[hb]at h
  subst h;exact hk
omit [aA]in
def zgt{dst:Option Nat}(v:V):KB (KL st) (DA C dst st v some):=mH (λ_ row h=> .inl ⟨row,h⟩) v
omit [aA]in
def rQ{h h':Nat→Option gA}(hk:∀r row,h' r=some row→(∃row0,h r=some row0)∨row.m.isOwn=true)(i:Nat)(c:dD)(m:cB)(hm:m.isOwn=true):
  ∀r row,cA h' i (some ⟨c,m⟩) r=some row→(∃row0,h r=some row0)∨row.m.isOwn=true:=λr row hr=>by
 by_cases hi:r=i
 ·subst hi;rw[tA]at hr;cases hr;exact .inr hm
 ·rw[kA _ _ _ _ hi]at hr;exact hk r row hr
omit [aA]in
def DS(h:Nat→Option gA)(ids:List Nat):∀r row,eB h ids r=some row→(∃row0,h r=some row0)∨row.m.isOwn=true:=λr row hr=>by
 obtain⟨row',h1,_⟩:=EM h ids r row hr;exact .inl ⟨row',h1⟩
omit [aA]in
def wS(h:Nat→Option gA)(r:Option Nat):∀q row,VD h r q=some row→(∃row0,h q=some row0)∨row.m.isOwn=true:=λq row hq=>by
 cases r with
 | none=>exact .inl ⟨row,hq⟩
 | some r=>obtain⟨row',h1,_⟩:=rP h r q row hq;exact .inl ⟨row',h1⟩
omit [aA]in
def zhu(h:Nat→Option gA)(r:Nat):∀q row,cA h r none q=some row→(∃row0,h q=some row0)∨row.m.isOwn=true:=λq row hq=>by
 by_cases hi:q=r
 ·subst hi;rw[tA]at hq;cases hq
 ·rw[kA _ _ _ _ hi]at hq;exact .inl ⟨row,hq⟩
omit [aA]in
def zbT{dst:Option Nat}{h':Nat→Option gA}(hk:∀r row,h' r=some row→(∃row0,st.h r=some row0)∨row.m.isOwn=true)(i:Nat)(c:dD)(v:V)(m:cB)(hm:m.isOwn=true):
  KB (KL st) (yD C dst {st with h:=h'} i c v some m):=mH (rQ hk i c m hm) v
omit [aA]in
def zbe{dst:Option Nat}(i:Nat)(c:dD)(v:V)(m:cB)(hm:m.isOwn=true):KB (KL st) (yD C dst st i c v some m):=mH (rQ (λ_ row h=> .inl ⟨row,h⟩) i c m hm) v
omit [aA]in
def KS(b:Bool):(zD b).isOwn=true:=by cases b<;>rfl
omit [aA]in
def zhy(m:cB)(b:Bool):(sJ m b).isOwn=true:=by cases m<;>cases b<;>rfl
omit [aA]in
def ziA(h:Nat→Option gA)(r:Option Nat)(b:Bool)(y:V):∀q row,CI b (VD h r) y q=some row→(∃row0,h q=some row0)∨row.m.isOwn=true:=λq row hq=>by
 unfold CI at hq;cases b
 ·exact wS h r q row hq
 ·simp only[cond_true]at hq;split at hq
  ·rename_i r2
   by_cases h2:q=r2
   ·subst h2;rw[tA]at hq;obtain⟨row',_,e⟩:=Option.map_eq_some_iff.1 hq;subst e;exact .inr rfl
   ·rw[kA _ _ _ _ h2]at hq;exact wS h r q row hq
  ·exact wS h r q row hq
omit [aA]in
def zgT{dst:Option Nat}(i f:Nat)(as:List V):KB (KL st) (OG C i dst st f as some):=by
 unfold OG;split
 ·exact ED
 rename_i ci _;split
 ·split
  ·exact ED
  rename_i as' h' bs dX;refine wL _ λx _=>oL _ λr _=>MG _ λtV=>mH ?_ _;simp only[Bool.and_eq_true]at tV;intro q row hq;rw[cJ]at hq;split at hq
  ·rename_i y hy;cases hq;rw[SS (Nat.le_of_ble_eq_true tV.1) hy];exact .inr rfl
  ·exact .inl ⟨row,hq⟩
 rename_i as' h' bs dX;refine wL _ λx _=>oL _ λr _=>MG _ λtV=>mH ?_ _;intro q row hq;have tV:=Nat.le_of_ble_eq_true tV;rw[cJ]at hq;split at hq
 ·rename_i y hy;cases hq;rw[SS tV hy];exact .inr rfl
 ·rcases zeB hq with hq | hq
  ·exact .inl ⟨row,hq⟩
  ·obtain⟨row',h1,_⟩:=FJ _ _ _ _ dX q row hq;exact .inl ⟨row',h1⟩
omit [aA]in
def zfV{i:Nat}(o:Oper):KB (KL st) (OA C i o st some):=by
 unfold OA
 repeat' first
  | exact ED
  | exact zgt _
  | exact zbe _ _ _ _ rfl
  | exact zbe _ _ _ _ (KS _)
  | exact zgT _ _ _
  | exact mH (DS _ _) _
  | exact mH (zhu _ _) _
  | exact zbT (DS _ _) _ _ _ _ (KS _)
  | exact zbT (ziA _ _ _ _) _ _ _ _ (KS _)
  | exact mH (rQ (λ_ row h=> .inl ⟨row,h⟩) _ _ _ rfl) _
  | exact mH (rQ (DS _ _) _ _ _ (zhy _ _)) _
  | refine zaZ (λ_=>?_) _ _ _ _
  | refine zbO (λ_=>?_) _ _ _
  | refine WR (λ_=>?_) _ _ _
  | refine zby (λ_=>?_) _ _ _ _ _ _
  | refine jL _ (λ_=>?_)
  | refine OK _ (λ_=>?_)
  | refine MG _ (λ_=>?_)
  | refine zbv _ (λ_=>?_)
  | refine wL _ (λ_ _=>?_)
  | refine oL _ (λ_ _=>?_)
  | split
omit [aA]in
def BR{x:Option gA}{row':gA}(h:yL x=some row'):∃row,x=some row∧row.c=row'.c∧row.m.isRo=row'.m.isRo∧row'.m.isOwn=false∧row.m.isTre=false:=by
 cases x with
 | none=>cases h
 | some row=>
  obtain⟨c,m⟩:=row;cases m<;>first | (simp only[yL,Option.some.injEq]at h;subst h;exact⟨_,rfl,rfl,rfl,rfl,rfl⟩) | cases h
def zhg(hr:AA C w0 outer own ρ st a w)(hC:VC C)(hΦ:cD C)(dW:∃N,∀r,N≤r→ρ r=none){b:Nat}(KV:∀q,q<128→ρ (b+q)=none){o:Oper}{ls rd wr:List Nat}
  (hk:XD C b o ls rd wr st some=some st2):yB C.P o a w (tB C w0 outer own b ρ st2):=by
 unfold XD at hk;rw[MI]at hk;obtain⟨st',hs,h2⟩:=Option.bind_eq_some_iff.1 hk;have h2:=Option.some.inj h2;obtain⟨par,sW⟩:=hr.heap.dep;let Rd:Nat→Prop:=λr=>r∈rd∧∀row,st.h r=some row→row.m.isTre=false;let N:Nat→Prop:=λr=>r∈wr∨Rd r;let own0:Nat→Prop:=λc=>∃r row ri,N r∧st.h r=some row∧row.m.isRo=false∧ρ r=some ri∧ri.nl=false∧ri.b=c;let own':Ow:=⟨own0,λc=>own0 c∨XC w0 own c∧∃r t,∃l:List (El t),∃m ri,r∈wr∧st.h r=some ⟨.arr t l,m⟩∧m.isTre=true∧ρ r=some ri∧ri.nl=false∧lF par ri.b c,λ_ h=> .inl h⟩;let outer':Nat→Prop:=λc=>outer c∨∃r row ri,¬N r∧st.h r=some row∧row.m.isRo=false∧ρ r=some ri∧ri.nl=false∧ri.b=c
 have cZ:∀r row',pE rd wr st.h r=some row'→N r∧∃row,st.h r=some row∧row.c=row'.c∧row.m.isRo=row'.m.isRo:=λr row' h=>by
  simp only[pE]at h;cases hw:cC r wr
  ·simp only[hw,cond_false]at h;cases hd:cC r rd
   ·simp[hd]at h
   ·simp only[hd,cond_true]at h;obtain⟨row,h1,h2,h3,_,h4⟩:=BR h;exact⟨.inr ⟨CG.1 hd,λrow' hc=>by rw[h1]at hc;cases hc;exact h4⟩,row,h1,h2,h3⟩
  ·simp only[hw,cond_true]at h;exact⟨.inl (CG.1 hw),row',h,rfl,rfl⟩
 have kW:∀c,bA outer' ρ (pE rd wr st.h) c→bA outer ρ st.h c:=by
  rintro c ((h | ⟨r,row,ri,e1,e2,e3,e4⟩) | ⟨r,row',ri,e1,e2,e3,e4⟩)
  ·exact .inl h
  ·exact .inr ⟨r,row,ri,e2,e3,e4⟩
  ·obtain⟨_,row,f1,f2,f3⟩:=cZ r row' e1;exact .inr ⟨r,row,ri,f1,by rw[f3];exact e2,e3,e4⟩
 have qX:∀c,own' c→c<w.heap.size∧(w0.heap.size≤c∨own c):=by
  rintro c ⟨r,row,ri,e1,e2,e3,e4,e5,rfl⟩;obtain⟨ri',f1,_,f2⟩:=hr.heap.rows r row e2;rw[e4]at f1;cases f1;exact⟨(f2 e5).2,(f2 e5).1.2 e3⟩
 have Y2:∀c,outer' c→c<w.heap.size∧¬own' c:=by
  rintro c (h | ⟨r,row,ri,e1,e2,e3,e4,e5,rfl⟩)
  ·obtain⟨g1,g2⟩:=hr.heap.outLt c h;refine⟨Nat.lt_of_lt_of_le g1 hr.heap.wx.size,λho=>?_⟩
   rcases(qX c ho).2 with h3 | h3
   ·omega
   ·exact g2 h3
  ·obtain⟨ri',f1,_,f2⟩:=hr.heap.rows r row e2;rw[e4]at f1;cases f1;refine⟨(f2 e5).2,?_⟩;rintro⟨r',row',ri',g1,g2,g3,g4,g5,g6⟩;have:=hr.heap.inj r' r row' row ri' ri g2 e2 g4 e4 g5 e5 g6;subst this;exact e1 g1
 have UZ:∀u d,VR w ρ (bA outer ρ st.h) u d→VR w ρ (bA outer' ρ (pE rd wr st.h)) u d:=λu d hu=>hu.mono (λ_ _ h=>h) (λ_ _ _=>rfl) λc hc=> .inl (kW c hc)
 have RY:AA C w outer' own' ρ {s:=wH ls st.s,h:=pE rd wr st.h,nx:=st.nx} a w:=by
  refine⟨⟨Wx.refl _,λ_ _ _=>rfl,Y2,λr row' h=>?_,λq q' row row' qi qi' h1 h2 h3 h4 h5 h6 h7=>?_,⟨par,λr t l m ri h1 hm h2 h3=>?_⟩⟩,λt=>?_,hr.size,hr.defers,⟨C.g.stay w0 w (λc hc=>hr.heap.old c (Nat.lt_of_lt_of_le hc (C.g.lt _ hr.glob.p)) (hr.glob.own c hc)) hr.glob.p,λc hc ho=>?_,Nat.le_trans hr.glob.base hr.heap.wx.size,λc hc ho=>?_⟩⟩
  ·obtain⟨f0,row,f1,f2,f3⟩:=cZ r row' h;obtain⟨ri,g1,g2,g3⟩:=hr.heap.rows r row f1;refine⟨ri,g1,by rw[←f2];exact g2.keep (λ_=>rfl) UZ,λhn=>⟨⟨?_,λhm=> .inr ⟨r,row,ri,f0,f1,by rw[f3];exact hm,g1,hn,rfl⟩⟩,(g3 hn).2⟩⟩;rintro(h | ⟨r',row2,ri',e1,e2,e3,e4,e5,e6⟩)
   ·exact(g3 hn).1.1 h
   ·have:=hr.heap.inj r' r row2 row ri' ri e2 f1 e4 g1 e5 hn e6;subst this;exact e1 f0
  ·obtain⟨_,row1,f1,_⟩:=cZ q row h1;obtain⟨_,row2,f2,_⟩:=cZ q' row' h2;exact hr.heap.inj q q' _ _ qi qi' f1 f2 h3 h4 h5 h6 h7
  ·have hw:r∈wr∧st.h r=some ⟨.arr t l,m⟩:=by
    simp only[pE]at h1;cases hw:cC r wr
    ·simp only[hw,cond_false]at h1;cases hd:cC r rd
     ·simp[hd]at h1
     ·simp only[hd,cond_true]at h1;obtain⟨row,e1,_,_,e,e2⟩:=BR h1;rw[e1]at h1;obtain⟨c,m2⟩:=row;cases m2<;>first | (cases e2;done) | (simp only[yL,Option.some.injEq]at h1;cases h1;cases hm)
    ·simp only[hw,cond_true]at h1;exact⟨CG.1 hw,h1⟩
   have hd:=sW r t l m ri hw.2 hm h2 h3;exact hd.genT rfl rfl (λ_ _ _ _ _=>rfl) (λb _ _ _ hb=>kW b hb) (λb hT hf=> .inr (.inr ⟨hf,r,t,l,m,ri,hw.1,hw.2,hm,h2,h3,hT⟩)) hd.1 λ_ _ _ _ _ _ h=>h
  ·show VR w ρ _ _ (wH ls st.s t)
   simp only[wH];cases cC t ls
   ·exact .undef _
   ·exact UZ _ _ (hr.slots t)
  ·have:=Nat.lt_of_lt_of_le hc (C.g.lt _ hr.glob.p)
   rcases(qX c ho).2 with h | h
   ·omega
   ·exact hr.glob.own c hc h
  ·have:=Nat.lt_of_lt_of_le hc hr.glob.base
   rcases(qX c ho).2 with h | h
   ·omega
   ·exact hr.glob.low c hc h
 have L:=GU (π:=λr=>¬(b≤r∧r<b+128)) (i:=b) (λq hq h=>h (by omega)) o st' hs;have main:=HS (dT RY hC hΦ dW KV hs) λa' w' ⟨ρ',h,_⟩=>h.defers;intro next Q hn;refine main next Q λa1 w1 ⟨⟨ρ1,tW,hE,hx⟩,v,hv⟩=>hn _ _ ⟨ρ1,?_,hE,hx⟩;subst hv;have hh:=tW.heap
 have UV:∀r,ρ r≠none→¬(b≤r∧r<b+128):=λr h1 h2=>h1 (by
  have:=KV (r - b) (by omega);rwa [show b+(r - b)=r by omega]at this)
 have hρ1:∀r row,st.h r=some row→ρ1 r=ρ r:=λr row h=>by
  obtain⟨ri,h1,_⟩:=hr.heap.rows r row h;rw[h1,hx r ri h1]
 -- rows that are only read
 have U6:∀r row,r∉wr→Rd r→st.h r=some row→∃row',st'.h r=some row'∧row'.c=row.c∧row'.m.isRo=row.m.isRo:=λr row h1 h2 h3=>by
  have h4:pE rd wr st.h r=yL (some row):=by simp only[pE,xG.2 h1,CG.2 h2.1,cond_false,cond_true,h3]
  obtain⟨row',h5⟩:∃row',yL (some row)=some row':=by
   obtain⟨c,m⟩:=row;cases m<;>first | exact⟨_,rfl⟩ | exact absurd (h2.2 _ h3) (by simp[cB.isTre])
  obtain⟨row2,h6,h7,h8,h9,_⟩:=BR h5;cases h6;obtain⟨ri,g1,_⟩:=hr.heap.rows r _ h3;exact⟨row',L.rows r row' (UV r (by rw[g1];simp)) (by show pE rd wr st.h r=_;rw[h4,h5]) h9,h7.symm,h8.symm⟩
 -- a row of the new state
 have sV:∀r row,st2.h r=some row→(st'.h r=some row)∨(r∉wr∧¬(b≤r∧r<b+128)∧st.h r=some row):=λr row h=>by
  rw[←h2]at h;simp only[yH]at h;cases hw:(cC r wr||sF b r)
  ·rw[hw]at h;simp only[Bool.or_eq_false_iff]at hw;exact .inr ⟨xG.1 hw.1,FH.1 hw.2,h⟩
  ·rw[hw]at h;exact .inl h
 have XW:∀c,bA outer ρ1 st2.h c→bA outer' ρ1 st'.h c:=by
  rintro c (h | ⟨r,row,ri,e1,e2,e3,e4,e5⟩)
  ·exact .inl (.inl h)
  ·rcases sV r row e1 with h | ⟨h3,h4,h5⟩
   ·exact .inr ⟨r,row,ri,h,e2,e3,e4,e5⟩
   ·by_cases hd:Rd r
    ·obtain⟨row',f1,f2,f3⟩:=U6 r row h3 hd h5;exact .inr ⟨r,row',ri,f1,by rw[f3];exact e2,e3,e4,e5⟩
    ·rw[hρ1 r row h5]at e3;exact .inl (.inr ⟨r,row,ri,λh=>h.elim h3 hd,h5,e2,e3,e4,e5⟩)
 have VZ:∀c,bA outer' ρ1 st'.h c→bA outer ρ st.h c∨w.heap.size≤c:=by
  rintro c ((h | ⟨r,row,ri,e1,e2,e3,e4⟩) | ⟨r,row,ri,e1,e2,e3,e4,e5⟩)
  ·exact .inl (.inl h)
  ·exact .inl (.inr ⟨r,row,ri,e2,e3,e4⟩)
  ·obtain⟨ri',f1,_,f2⟩:=hh.rows r row e1;rw[e3]at f1;cases f1
   rcases(f2 e4).1.2 e2 with h | ⟨r',row',ri',g1,g2,g3,g4⟩
   ·exact .inr (by omega)
   ·rw[e5]at g4;exact .inl (.inr ⟨r',row',ri',g2,g3,g4⟩)
 have keepO:∀u d,VR w ρ (bA outer ρ st.h) u d→VR w1 ρ1 (bA outer ρ1 st2.h) u d:=λu d hu=>
  hu.mono hx (λc hc vV=>hh.old c vV λ⟨r,row,ri,g1,g2,g3,g4⟩=>hc (.inr ⟨r,row,ri,g2,g3,g4⟩)) λc hc=>VZ c (XW c hc)
 have keepN:∀u d,VR w1 ρ1 (bA outer' ρ1 st'.h) u d→VR w1 ρ1 (bA outer ρ1 st2.h) u d:=λu d hu=>
  hu.mono (λ_ _ h=>h) (λ_ _ _=>rfl) λc hc=> .inl (XW c hc)
 have Y0:∀r row ri,r∉wr→¬Rd r→st.h r=some row→ρ r=some ri→ri.nl=false→¬own' ri.b:=by
  rintro r row ri h1 h2 h3 h4 h5 ⟨r',row',ri',g1,g2,g3,g4,g5,g6⟩;have:=hr.heap.inj r' r row' row ri' ri g2 h3 g4 h4 g5 h5 g6;subst this;exact g1.elim h1 h2
 have N4:({a.put o.dst v with}:Act).defers=[]:=tW.defers;refine⟨⟨hr.heap.wx.trans hh.wx,λc hc ho=>?_,hr.heap.outLt,λr row h=>?_,λq q' row row' qi qi' h1 h3 h4 h5 h6 h7 h8=>?_,?_⟩,λt=>?_,tW.size,tW.defers,hr.glob⟩
 ·rw[←hr.heap.old c hc ho];refine hh.old c (Nat.lt_of_lt_of_le hc hr.heap.wx.size) λN6=>?_
  rcases(qX c N6).2 with h3 | h3
  ·omega
  ·exact ho h3
 ·rcases sV r row h with h3 | ⟨h3,h4,h5⟩
  ·obtain⟨ri,f1,f2,f3⟩:=hh.rows r row h3;refine⟨ri,f1,f2.keep (λ_=>rfl) keepN,λhn=>⟨⟨λho=>(f3 hn).1.1 (.inl ho),λhm=>?_⟩,(f3 hn).2⟩⟩
   rcases(f3 hn).1.2 hm with h4 | h4
   ·exact .inl (Nat.le_trans hr.heap.wx.size h4)
   ·exact(qX _ h4).2
  ·obtain⟨ri,f1,f2,f3⟩:=hr.heap.rows r row h5;refine⟨ri,hx r ri f1,?_,λhn=>⟨(f3 hn).1,Nat.lt_of_lt_of_le (f3 hn).2 hh.wx.size⟩⟩
   by_cases hd:Rd r
   ·obtain⟨row',g1,g2,g3⟩:=U6 r row h3 hd h5;obtain⟨ri',e1,e2,_⟩:=hh.rows r row' g1;rw[hx r ri f1]at e1;cases e1;rw[←g2];exact e2.keep (λ_=>rfl) keepN
   ·exact f2.keep (λhn=>hh.old _ (f3 hn).2 (Y0 r row ri h3 hd h5 f1 hn)) keepO
 ·-- no two rows in one block
  have rowsOf:∀r row ri,st2.h r=some row→ρ1 r=some ri→ri.nl=false→(∃row',st'.h r=some row')∨(r∉wr∧¬Rd r∧st.h r=some row∧ρ r=some ri):=λr row ri h1 h3 h4=>by
   rcases sV r row h1 with h5 | ⟨h5,h6,h7⟩
   ·exact .inl ⟨_,h5⟩
   ·by_cases hd:Rd r
    ·obtain⟨row',g1,_⟩:=U6 r row h5 hd h7;exact .inl ⟨_,g1⟩
    ·exact .inr ⟨h5,hd,h7,by rw[←hρ1 r row h7];exact h3⟩
  have mixed:∀r r' row' row2 ri ri',st'.h r=some row2→ρ1 r=some ri→ri.nl=false→r'∉wr→¬Rd r'→st.h r'=some row'→ρ r'=some ri'→ri'.nl=false→ri.b=ri'.b→False:=λr r' row' row2 ri ri' e1 e2 e3 e4 e5 e6 e7 e8 e9=>by
   obtain⟨ri2,f1,_,f3⟩:=hh.rows r row2 e1;rw[e2]at f1;cases f1;obtain⟨ri3,g1,_,g3⟩:=hr.heap.rows r' row' e6;rw[e7]at g1;cases g1;have vV:=(g3 e8).2;have nW:=Y0 r' row' ri' e4 e5 e6 e7 e8
   by_cases hm:row2.m.isRo=false
   ·rcases(f3 e3).1.2 hm with h | h
    ·rw[e9]at h;omega
    ·rw[e9]at h;exact nW h
   ·-- a row that nobody writes:it was there ahead
    rcases zfV o st' hs r row2 e1 with⟨row0,h0⟩ | h0
    ·obtain⟨g0,row1,g4,_⟩:=cZ r row0 h0;obtain⟨ri4,g5,_⟩:=hr.heap.rows r row1 g4;have:=hx r ri4 g5;rw[e2]at this;cases this;have:=hr.heap.inj r r' row1 row' ri ri' g4 e6 g5 e7 e3 e8 e9;subst this;exact g0.elim e4 e5
    ·refine hm ?_;obtain⟨c,m⟩:=row2;cases m with
     | own=>rfl
     | ro=>cases h0
     | lock=>rfl
     | tlk=>rfl
     | tre=>rfl
  rcases rowsOf q row qi h1 h4 h6 with⟨r1,e1⟩ | ⟨e1,e2,e3,e4⟩<;>rcases rowsOf q' row' qi' h3 h5 h7 with⟨r2,f1⟩ | ⟨f1,f2,f3,f4⟩
  ·exact hh.inj q q' _ _ qi qi' e1 f1 h4 h5 h6 h7 h8
  ·exact(mixed q q' row' r1 qi qi' e1 h4 h6 f1 f2 f3 f4 h7 h8).elim
  ·exact(mixed q' q row r2 qi' qi f1 h5 h7 e1 e2 e3 e4 h6 h8.symm).elim
  ·exact hr.heap.inj q q' row row' qi qi' e3 f3 e4 f4 h6 h7 h8
 ·-- what the call's own rows bW below
  classical
  obtain⟨par1,Z2⟩:=hh.dep;refine⟨λb=>if XC w own' b then par1 b else par b,λr t l m ri h1 hm h3 h4=>?_⟩
  rcases sV r _ h1 with h5 | ⟨h5,h6,h7⟩
  ·have hd:=Z2 r t l m ri h5 hm h3 h4;refine hd.gen rfl rfl (λ_ _ _ _=>rfl) (λb _ _ hb=>XW b hb) (λb hf=>?_) ?_ λb q _ _ hf hp=>by rw[if_pos hf];exact hp
   ·rcases hf with hf | hf | hf
    ·exact .inl (Nat.le_trans hr.heap.wx.size hf)
    ·exact(qX b hf).2.imp id (own.ok b)
    ·exact hf.1
   ·rw[if_pos]
    ·exact hd.1
    ·obtain⟨ri',f1,_,f3⟩:=hh.rows r _ h5;rw[h3]at f1;cases f1;exact((f3 h4).1.2 (by cases m<;>first | rfl | cases hm)).imp id .inl
  ·have h3:ρ r=some ri:=by rw[←hρ1 r _ h7];exact h3
   have hd:=sW r t l m ri h7 hm h3 h4;have nW:¬own' ri.b:=Y0 r _ ri h5 (λh=>by have:=h.2 _ h7;rw[hm]at this;cases this) h7 h3 h4
   have vV:ri.b<w.heap.size:=by
    obtain⟨ri',f1,_,f3⟩:=hr.heap.rows r _ h7;rw[h3]at f1;cases f1;exact(f3 h4).2
   have hT:∀b,lF par ri.b b→¬bA outer ρ st.h b→EB w b→¬XC w own' b:=λb hT hb hc=>by
    rintro(h | ⟨r',row',ri',_,g2,g3,g4⟩ | ⟨_,r',t',l',m',ri',g1,g2,gm,g3,g4,g5⟩)
    ·have:=hc.lt;omega
    ·exact hb (.inr ⟨r',row',ri',g2,g3,g4⟩)
    ·have e:=hT.root g5 hd.1 (sW r' t' l' m' ri' g2 gm g3 g4).1;have:=hr.heap.inj r r' _ _ ri ri' h7 g2 h3 g3 h4 g4 e;subst this;exact h5 g1
   refine hd.genT rfl (hh.old _ vV nW) (λb V6 hb hc _=>hh.old b hc.lt λho=>hT b V6 hb hc (.inr (.inl ho))) (λb _ hc _ hb=>(VZ b (XW b hb)).elim id λh=>by have:=hc.lt;omega) (λ_ _ h=>h) ?_ λb q V6 hb hc _ hp=>by rw[if_neg (hT b V6 hb hc)];exact hp
   rw[if_neg]
   ·exact hd.1
   ·rintro(h | h | ⟨_,r',t',l',m',ri',g1,g2,gm,g3,g4,g5⟩)
    ·omega
    ·exact nW h
    ·cases g5 with
     | one _ _ h=>rw[hd.1]at h;cases h
     | step _ _ _ h _=>rw[hd.1]at h;cases h
 ·have W6:st2.s t=yI o.dst st.s st'.s t:=by rw[←h2]
  rw[W6]
  have Z0:∀t,o.dst≠some t→(a.put o.dst v).tmps.getD t undef=a.tmps.getD t undef:=λt ht=>by
   cases hd:o.dst with
   | none=>rfl
   | some d=>
    simp only[Act.put,Array.getD_eq_getD_getElem?];rw[Array.getElem?_setIfInBounds_ne];rintro rfl;exact ht hd
  have other:o.dst≠some t→VR w1 ρ1 (bA outer ρ1 st2.h) ((a.put o.dst v).tmps.getD t undef) (st.s t):=λht=>by
   rw[Z0 t ht];exact keepO _ _ (hr.slots t)
  cases hd:o.dst with
  | none=>simp only[yI];rw[←hd];exact other (by rw[hd];simp)
  | some d=>
   simp only[yI]
   by_cases ht:t=d
   ·subst ht;rw[tA, ←hd];exact keepN _ _ (tW.slots t)
   ·rw[kA _ _ _ _ ht, ←hd];exact other (by rw[hd];simpa using λe=>ht e.symm)
def DE(C:Cx)(ops:Array Oper)(nx:Nat)(e:TB)(st st':St):Prop:=
 ∃ o,ops[e.i]?=some o∧e.dst=o.dst∧
  ((o.guard=none∧XD C (nx+128 *e.i) o e.ls e.rd e.wr st some=some st')∨
   ∃j want dj,o.guard=some (j,want)∧(ops[j]?).bind (·.dst)=some dj∧dj∈e.ls∧
    ((st.s dj= .bool want∧XD C (nx+128 *e.i) o e.ls e.rd e.wr st some=some st')∨
     ((st.s dj= .tup []∨st.s dj= .bool (!want))∧DA C o.dst st (.tup []) some=some st')))
def TB.at(e:TB)(nx r:Nat):Prop:=r∈e.rd∨r∈e.wr∨(nx+128 *e.i≤r∧r<nx+128 *e.i+128)
def TB.to(e:TB)(nx r:Nat):Prop:=r∈e.wr∨(nx+128 *e.i≤r∧r<nx+128 *e.i+128)
omit [aA]in
def zeY{dst:Option Nat}{s s':Nat→V}{t:Nat}(h:dst≠some t):yI dst s s' t=s t:=by
 cases dst with
 | none=>rfl
 | some d=>exact kA _ _ _ _ (λe=>h (by rw[e]))
omit [aA]in
def zah{d:Nat}{s s':Nat→V}:yI (some d) s s' d=s' d:=tA _ _ _
omit [aA]in
def cT{b:Nat}{wr:List Nat}{h h':Nat→Option gA}{r:Nat}(hr:r∈wr∨(b≤r∧r<b+128)):yH b wr h h' r=h' r:=by
 have:(cC r wr||sF b r)=true:=by
  rcases hr with hr | hr
  ·simp[CG.2 hr]
  ·simp[LU.2 hr]
 simp only[yH,this,cond_true]
omit [aA]in
def zaV{b:Nat}{wr:List Nat}{h h':Nat→Option gA}{r:Nat}(hr:¬(r∈wr∨(b≤r∧r<b+128))):yH b wr h h' r=h r:=by
 have:(cC r wr||sF b r)=false:=by
  simp only[Bool.or_eq_false_iff,xG,FH];exact⟨λh=>hr (.inl h),λh=>hr (.inr h)⟩
 simp only[yH,this,cond_false]
omit [aA]in
def MR{b:Nat}{o:Oper}{ls rd wr:List Nat}(h:XD C b o ls rd wr st some=some st'):
  ∃x,OA C b o {s:=wH ls st.s,h:=pE rd wr st.h,nx:=st.nx} some=some x∧st'={s:=yI o.dst st.s x.s,h:=yH b wr st.h x.h,nx:=st.nx}:=by
 unfold XD at h;rw[MI]at h;obtain⟨x,h1,h2⟩:=Option.bind_eq_some_iff.1 h;exact⟨x,h1,(Option.some.inj h2).symm⟩
omit [aA]in
def BS{b:Nat}{o:Oper}{ls rd wr:List Nat}{x:St}(h:OA C b o {s:=wH ls st.s,h:=pE rd wr st.h,nx:=st.nx} some=some x):
  XD C b o ls rd wr st some=some {s:=yI o.dst st.s x.s,h:=yH b wr st.h x.h,nx:=st.nx}:=by
 unfold XD;rw[MI,h];rfl
omit [aA]in
def DE.frame{ops:Array Oper}{nx:Nat}{e:TB}(h:DE C ops nx e st st'):
  (∀t,e.dst≠some t→st'.s t=st.s t)∧(∀r,¬e.to nx r→st'.h r=st.h r)∧st'.nx=st.nx:=by
 obtain⟨o,h1,h2,h3⟩:=h
 have stp:XD C (nx+128 *e.i) o e.ls e.rd e.wr st some=some st'→(∀t,e.dst≠some t→st'.s t=st.s t)∧(∀r,¬e.to nx r→st'.h r=st.h r)∧st'.nx=st.nx:=λh=>by
  obtain⟨x,k1,rfl⟩:=MR h;exact⟨λt ht=>zeY (by rw[←h2];exact ht),λr hr=>zaV hr,rfl⟩
 have skp:DA C o.dst st (.tup []) some=some st'→(∀t,e.dst≠some t→st'.s t=st.s t)∧(∀r,¬e.to nx r→st'.h r=st.h r)∧st'.nx=st.nx:=λh=>by
  have L:=SP (π:=λ_=>True) (V.tup []) st' h;refine⟨λt ht=>L.slots t (by rw[←h2];exact ht),λr _=>?_,L.nx⟩;cases hd:o.dst with
  | none=>rw[hd]at h;simp[DA]at h;rw[h]
  | some d=>
   rw[hd]at h;simp only[DA]at h;cases hb:Nat.blt d C.nt<;>simp[hb]at h
   rw[←h]
 rcases h3 with⟨_,h⟩ | ⟨j,want,dj,_,_,_,⟨_,h⟩ | ⟨_,h⟩⟩
 ·exact stp h
 ·exact stp h
 ·exact skp h
omit [aA]in
def DE.loc{ops:Array Oper}{nx:Nat}{e:TB}(h:DE C ops nx e st st')(hs:∀t∈e.ls,st2.s t=st.s t)(hh:∀r,e.at nx r→st2.h r=st.h r)(hn:st2.nx=st.nx):
  ∃st2',DE C ops nx e st2 st2'∧(∀t,e.dst=some t→st2'.s t=st'.s t)∧(∀r,e.to nx r→st2'.h r=st'.h r):=by
 obtain⟨o,h1,h2,h3⟩:=h
 have z3:wH e.ls st2.s=wH e.ls st.s:=by
  funext t;simp only[wH];cases hm:cC t e.ls
  ·rfl
  ·simp only[cond_true];exact hs t (CG.1 hm)
 have L1:pE e.rd e.wr st2.h=pE e.rd e.wr st.h:=by
  funext r;simp only[pE];cases hm:cC r e.wr
  ·cases D1:cC r e.rd
   ·rfl
   ·simp only[cond_true,cond_false];rw[hh r (.inl (CG.1 D1))]
  ·simp only[cond_true];exact hh r (.inr (.inl (CG.1 hm)))
 have stp:XD C (nx+128 *e.i) o e.ls e.rd e.wr st some=some st'→∃st2',XD C (nx+128 *e.i) o e.ls e.rd e.wr st2 some=some st2'∧(∀t,e.dst=some t→st2'.s t=st'.s t)∧(∀r,e.to nx r→st2'.h r=st'.h r):=λh=>by
  obtain⟨x,k1,rfl⟩:=MR h;refine⟨_,BS (x:=x) (by rw[z3,L1,hn];exact k1),λt ht=>?_,λr hr=>?_⟩
  ·rw[h2]at ht;rw[ht];exact(zah).trans zah.symm
  ·exact(cT hr).trans (cT hr).symm
 have skp:DA C o.dst st (.tup []) some=some st'→∃st2',DA C o.dst st2 (.tup []) some=some st2'∧(∀t,e.dst=some t→st2'.s t=st'.s t)∧(∀r,e.to nx r→st2'.h r=st'.h r):=λh=>by
  cases hd:o.dst with
  | none=>
   rw[hd]at h;simp[DA]at h;subst h;refine⟨st2,rfl,λt ht=>?_,λr hr=>hh r (.inr hr)⟩;rw[h2,hd]at ht;cases ht
  | some d=>
   rw[hd]at h;simp only[DA]at h;cases hb:Nat.blt d C.nt<;>simp[hb]at h
   subst h;refine⟨{st2 with s:=cA st2.s d (.tup [])},by simp[DA,hb],λt ht=>?_,λr hr=>hh r (.inr hr)⟩;rw[h2,hd]at ht;cases ht;exact(tA _ _ _).trans (tA _ _ _).symm
 rcases h3 with⟨g,h⟩ | ⟨j,want,dj,g1,g2,g3,⟨g4,h⟩ | ⟨g4,h⟩⟩
 ·obtain⟨x,k1,k2,k3⟩:=stp h;exact⟨x,⟨o,h1,h2, .inl ⟨g,k1⟩⟩,k2,k3⟩
 ·obtain⟨x,k1,k2,k3⟩:=stp h;exact⟨x,⟨o,h1,h2, .inr ⟨j,want,dj,g1,g2,g3, .inl ⟨by rw[hs dj g3];exact g4,k1⟩⟩⟩,k2,k3⟩
 ·obtain⟨x,k1,k2,k3⟩:=skp h;exact⟨x,⟨o,h1,h2, .inr ⟨j,want,dj,g1,g2,g3, .inr ⟨by rw[hs dj g3];exact g4,k1⟩⟩⟩,k2,k3⟩
structure bR(nx:Nat)(e1 e:TB):Prop where
 s1:∀t,e1.dst=some t→t∉e.ls
 s2:∀t,e.dst=some t→t∉e1.ls
 s3:∀t,e1.dst=some t→e.dst≠some t
 h1:∀r,e1.to nx r→¬e.at nx r
 h2:∀r,e.to nx r→¬e1.at nx r
omit [aA]in
def zel{nx:Nat}{e1 e:TB}(iW:e1.i≠e.i)(h:kG nx e1 e=true):bR nx e1 e:=by
 simp only[kG,Bool.and_eq_true,Bool.not_eq_true',List.all_eq_true]at h;obtain⟨⟨⟨⟨⟨⟨⟨⟨a1,a2⟩,a3⟩,a4⟩,a5⟩,a6⟩,a7⟩,a8⟩,a9⟩:=h;have dst:∀{d:Option Nat} {l:List Nat},QQ d l=false→∀t,d=some t→t∉l:=λh t ht=>by subst ht;exact xG.1 h
 refine⟨dst a1,dst a2,λt ht h=>?_,λr hr A3=>?_,λr hr A3=>?_⟩
 ·have:=dst a3 t ht;rw[h]at this;simp at this
 ·rcases hr with hr | hr
  ·have:=a4 r hr
   rcases A3 with h | h | h
   ·exact xG.1 this.1 h
   ·exact xG.1 this.2 h
   ·exact FH.1 (a9 r hr) h
  ·rcases A3 with h | h | h
   ·exact FH.1 (a6 r h) hr
   ·exact FH.1 (a7 r h) hr
   ·omega
 ·rcases hr with hr | hr
  ·rcases A3 with h | h | h
   ·exact xG.1 (a5 r hr) h
   ·exact xG.1 (a4 r h).2 hr
   ·exact FH.1 (a7 r hr) h
  ·rcases A3 with h | h | h
   ·exact FH.1 (a8 r h) hr
   ·exact FH.1 (a9 r h) hr
   ·omega
omit [aA]in
def DE.swap{ops:Array Oper}{nx:Nat}{e1 e:TB}(hp:bR nx e1 e)(h1:DE C ops nx e1 st st1)(h2:DE C ops nx e st1 st2):
  ∃st1',DE C ops nx e st st1'∧DE C ops nx e1 st1' st2:=by
 obtain⟨f1,f2,f3⟩:=h1.frame;obtain⟨g1,g2,g3⟩:=h2.frame;obtain⟨x,k1,k2,k3⟩:=h2.loc (st2:=st) (λt ht=>(f1 t λe=>hp.s1 t e ht).symm) (λr hr=>(f2 r λh=>hp.h1 r h hr).symm) f3.symm;obtain⟨m1,m2,m3⟩:=k1.frame;obtain⟨y,n1,n2,n3⟩:=h1.loc (st2:=x) (λt ht=>m1 t λe=>hp.s2 t e ht) (λr hr=>m2 r λh=>hp.h2 r h hr) m3;obtain⟨p1,p2,p3⟩:=n1.frame
 have hy:y=st2:=by
  have es:y.s=st2.s:=by
   funext t
   by_cases t1:e1.dst=some t
   ·rw[n2 t t1,g1 t (hp.s3 t t1)]
   ·rw[p1 t t1]
    by_cases t2:e.dst=some t
    ·rw[k2 t t2]
    ·rw[m1 t t2,g1 t t2,f1 t t1]
  have eh:y.h=st2.h:=by
   funext r;have toAt:∀{e:TB},e.to nx r→e.at nx r:=λh=> .inr h
   by_cases t1:e1.to nx r
   ·rw[n3 r t1,g2 r λh=>hp.h2 r h (toAt t1)]
   ·rw[p2 r t1]
    by_cases t2:e.to nx r
    ·rw[k3 r t2]
    ·rw[m2 r t2,g2 r t2,f2 r t1]
  have en:y.nx=st2.nx:=by rw[p3,m3,g3,f3]
  cases y;cases st2;simp_all
 exact⟨x,k1,hy▸n1⟩
inductive mF(C:Cx)(ops:Array Oper)(nx:Nat):List TB→St→St→Prop
 | nil (st:St):mF C ops nx [] st st
 | cons {e:TB} {l:List TB} {st st1 st2:St} (h:DE C ops nx e st st1) (k:mF C ops nx l st1 st2):mF C ops nx (e :: l) st st2
omit [aA]in
def mF.front{ops:Array Oper}{nx:Nat}{e:TB}{l2:List TB}:∀(l1:List TB) (st:St),(∀e1∈l1,bR nx e1 e)→mF C ops nx (l1++e :: l2) st st2→∃st1,DE C ops nx e st st1∧mF C ops nx (l1++l2) st1 st2
 | [],st,_,h=>by cases h with | cons h k=>exact⟨_,h,k⟩
 | e1 :: l1,st,hp,h=>by
  cases h with
  | cons h k=>
   obtain⟨s,k1,k2⟩:=mF.front l1 _ (λe h=>hp e (List.mem_cons_of_mem _ h)) k;obtain⟨x,n1,n2⟩:=h.swap (hp e1 (by simp)) k1;exact⟨x,n1, .cons n2 k2⟩
omit [aA]in
def DU:∀(l:List Oper) (acc:List Nat),∃t,QB acc l=acc++t
 | [],acc=>⟨[],by simp[QB]⟩
 | o :: l,acc=>by
  obtain⟨t,h⟩:=DU l (acc++[BN acc o.after.toList]);exact⟨_,by simp only[QB];rw[h,List.append_assoc]⟩
omit [aA]in
def zag:∀(l:List Oper) (acc:List Nat) (k:Nat) (o:Oper),l[k]?=some o→
  (QB acc l).getD (acc.length+k) 0=BN ((QB acc l).take (acc.length+k)) o.after.toList
 | [],acc,k,o,h=>by simp at h
 | x :: l,acc,0,o,h=>by
  simp at h;subst h;simp only[QB,Nat.add_zero];obtain⟨t,ht⟩:=DU l (acc++[BN acc x.after.toList]);rw[ht,List.append_assoc,List.getD_eq_getElem?_getD,List.getElem?_append_right (Nat.le_refl _)];simp
 | x :: l,acc,k+1,o,h=>by
  have:=zag l (acc++[BN acc x.after.toList]) k o (by simpa using h);simp only[List.length_append,List.length_singleton]at this;simp only[QB];rw[show acc.length+(k+1)=acc.length+1+k by omega];exact this
omit [aA]in
def pV(ms:List Nat)(d:Nat):∀(es:List Edge) (s:Nat),Nat.testBit (es.foldl (λs e=>bif Region.binds .any e then s|||(2^e.on|||ms.getD e.on 0)else s) s) d=true→
  Nat.testBit s d=true∨∃e∈es,Region.binds .any e=true∧(e.on=d∨Nat.testBit (ms.getD e.on 0) d=true)
 | [],s,h=> .inl h
 | e :: es,s,h=>by
  rcases pV ms d es _ h with h1 | ⟨x,h1,h2⟩
  ·cases hb:Region.binds .any e
   ·simp only[hb,cond_false]at h1;exact .inl h1
   ·simp only[hb,cond_true,Nat.testBit_or,Bool.or_eq_true,Nat.testBit_two_pow,decide_eq_true_eq]at h1
    rcases h1 with h1 | h1 | h1
    ·exact .inl h1
    ·exact .inr ⟨e,by simp,hb, .inl h1⟩
    ·exact .inr ⟨e,by simp,hb, .inr h1⟩
  ·exact .inr ⟨x,List.mem_cons_of_mem _ h1,h2⟩
omit [aA]in
def zhK{ops:Array Oper}{S:Nat→Prop}(hE:∀i o,ops[i]?=some o→∀e∈o.after,Region.binds .any e=true→e.on<i)
  (hS:∀k o,S k→ops[k]?=some o→∀e∈o.after,Region.binds .any e=true→S e.on):
  ∀(i:Nat) (o:Oper),ops[i]?=some o→(∀e∈o.after,Region.binds .any e=true→S e.on)→∀d,Nat.testBit ((QB [] ops.toList).getD i 0) d=true→S d:=by
 intro i;induction i using Nat.strongRecOn with
 | _ i ih=>
  intro o ho he d hd;have h0:=zag ops.toList [] i o (by simpa using ho);simp only[List.length_nil,Nat.zero_add]at h0;rw[h0]at hd
  have hi:i<ops.size:=by
   rcases Nat.lt_or_ge i ops.size with h | h
   ·exact h
   ·rw[Array.getElem?_eq_none h]at ho;cases ho
  rcases pV _ d _ _ hd with h1 | ⟨e,h1,h2,h3⟩
  ·simp at h1
  ·have h1:e∈o.after:=by simpa using h1
   have E8:=he e h1 h2;have vV:=hE i o ho e h1 h2
   rcases h3 with h3 | h3
   ·rw[←h3];exact E8
   ·have h4:((QB [] ops.toList).take i).getD e.on 0=(QB [] ops.toList).getD e.on 0:=by
     rw[List.getD_eq_getElem?_getD,List.getD_eq_getElem?_getD,List.getElem?_take,if_pos vV]
    rw[h4]at h3;have A0:ops[e.on]?=some ops[e.on]:=Array.getElem?_eq_getElem (by omega);exact ih e.on vV _ A0 (hS e.on _ E8 A0) d h3
omit [aA]in
def aS{ops:Array Oper}{listed:Array Bool}{i:Nat}:i∈Region.ready .any ops listed↔
  i<ops.size∧listed.getD i true=false∧∃o,ops[i]?=some o∧∀e∈o.after,Region.binds .any e=true→listed.getD e.on false=true:=by
 unfold Region.ready;rw[List.mem_filter,List.mem_range];constructor
 ·rintro⟨h1,h2⟩;simp only[Bool.and_eq_true,Bool.not_eq_true']at h2;refine⟨h1,h2.1,?_⟩;rw[Array.getElem?_eq_getElem h1]at h2;refine⟨ops[i],Array.getElem?_eq_getElem h1,λe he hb=>?_⟩;have h3:=h2.2;simp only[Option.map_some,Option.getD_some]at h3;rw[Array.all_eq_true']at h3;have:=h3 e he;simpa[hb]using this
 ·rintro⟨h1,h2,o,h3,h4⟩;refine⟨h1,?_⟩;rw[h2,h3];simp only[Bool.not_false,Bool.true_and,Option.map_some,Option.getD_some];rw[Array.all_eq_true'];intro e he;cases hb:Region.binds .any e
  ·rfl
  ·simp[h4 e he hb]
def zhl{w:World}{ρ:Nat→Option RI}{bad:Nat→Prop}{v:Value}(h:VR w ρ bad v (.tup [])):v=undef:=by
 cases h with
 | tup _ vs hs hv=>
  have:vs= #[]:=by simpa using hs
  subst this;rfl
def za7(hC:VC C)(hΦ:cD C){ops:Array Oper}{nx:Nat}{Q:Exit→Act→World→Prop}{stf:St}(hE:∀i o,ops[i]?=some o→∀e∈o.after,Region.binds .any e=true→e.on<i)
  (D:Nat→Prop) (hD:∀o∈ops,∀d,o.dst=some d→D d) (ρ0:Nat→Option RI) (a0:Act)
  (rV:∀a' w' ρ',AA C w0 outer own ρ' stf a' w'→(∀q qi,ρ0 q=some qi→ρ' q=some qi)→(∀q,nx+128 *ops.size≤q→ρ' q=none)→(∀s,¬D s→a'.tmps.getD s undef=a0.tmps.getD s undef)→Q .normal a' w'):
  ∀(fuel:Nat) (l:List TB) (listed:Array Bool) (st:St) (a:Act) (w:World) (ρ:Nat→Option RI),
   l.length=fuel→mF C ops nx l st stf→l.Pairwise (λe1 e=>e1.i<e.i∧(Nat.testBit ((QB [] ops.toList).getD e.i 0) e1.i=true∨kG nx e1 e=true))→
   listed.size=ops.size→(∀i,i<ops.size→(listed.getD i true=false↔∃e∈l,e.i=i))→(∀e∈l,e.i<ops.size)→
   (∀k o,listed.getD k false=true→ops[k]?=some o→∀e∈o.after,Region.binds .any e=true→listed.getD e.on false=true)→
   AA C w0 outer own ρ st a w→(∀e∈l,∀q,q<128→ρ (nx+128 *e.i+q)=none)→(∀q,nx+128 *ops.size≤q→ρ q=none)→(∀q qi,ρ0 q=some qi→ρ q=some qi)→(∀s,¬D s→a.tmps.getD s undef=a0.tmps.getD s undef)→
   wpAny C.P .any ops Q fuel listed a w
 | 0,l,listed,st,a,w,ρ,hl,ht,hp,xV,ZW,vV,kZ,hr,hf,hN,hx,X6=>by
  obtain rfl:l=[]:=List.eq_nil_of_length_eq_zero hl;cases ht;refine⟨?_,rV a w ρ hr hx hN X6⟩;refine List.eq_nil_iff_forall_not_mem.2 λi hi=>?_;obtain⟨h1,h2,_⟩:=aS.1 hi;obtain⟨e,he,_⟩:=(ZW i h1).1 h2;simp at he
 | fuel+1,l,listed,st,a,w,ρ,hl,ht,hp,xV,ZW,vV,kZ,hr,hf,hN,hx,X6=>by
  have getF:∀k,k<ops.size→listed.getD k true=true→listed.getD k false=true:=λk hk h=>by
   rw[Array.getD_eq_getD_getElem?]at h⊢;rw[Array.getElem?_eq_getElem (by omega)]at h⊢;exact h
  have getT:∀k,listed.getD k false=true→listed.getD k true=true:=λk h=>by
   rw[Array.getD_eq_getD_getElem?]at h⊢;cases h2:listed[k]? with
   | none=>rfl
   | some b=>rw[h2]at h;exact h
  refine⟨λVW=>?_,λi hi=>?_⟩
  ·exfalso;cases l with
   | nil=>simp at hl
   | cons e l=>
    have he:=vV e (by simp)
    have:e.i∈Region.ready .any ops listed:=aS.2 ⟨he,(ZW _ he).2 ⟨e,by simp,rfl⟩,ops[e.i],Array.getElem?_eq_getElem he,λx hx hb=>by
     have h1:=hE _ _ (Array.getElem?_eq_getElem he) x hx hb;refine getF _ (by omega) ?_;cases h2:listed.getD x.on true with
     | true=>rfl
     | false=>
      obtain⟨e',h3,h4⟩:=(ZW x.on (by omega)).1 h2
      rcases List.mem_cons.1 h3 with rfl | h3
      ·omega
      ·have:=(List.rel_of_pairwise_cons hp h3).1;omega⟩
    rw[VW]at this;simp at this
  ·obtain⟨h1,h2,o,ho,h4⟩:=aS.1 hi;obtain⟨e,he,rfl⟩:=(ZW i h1).1 h2;obtain⟨l1,l2,rfl⟩:=List.append_of_mem he
   have xZ:∀e1∈l1,bR nx e1 e:=λe1 M1=>by
    have h5:=(List.pairwise_append.1 hp).2.2 e1 M1 e (by simp);refine zel (by omega) (h5.2.resolve_left λhb=>?_);have:=zhK (S:=λk=>listed.getD k false=true) hE (λk o hk B3=>kZ k o hk B3) e.i o ho h4 e1.i hb;have h6:=(ZW e1.i (vV e1 (by simp[M1]))).2 ⟨e1,by simp[M1],rfl⟩;rw[getT _ this]at h6;cases h6
   obtain⟨s1,k1,k2⟩:=ht.front l1 st xZ;obtain⟨o',WZ,hdst,TV⟩:=k1;rw[ho]at WZ;cases WZ
   -- what is left
   have rest:∀a1 w1 ρ1,AA C w0 outer own ρ1 s1 a1 w1→(∀q,¬(nx+128 *e.i≤q∧q<nx+128 *e.i+128)→ρ1 q=ρ q)→(∀q qi,ρ q=some qi→ρ1 q=some qi)→(∃v,a1=a.put o.dst v)→
     wpAny C.P .any ops Q fuel (listed.setIfInBounds e.i true) a1 w1:=λa1 w1 ρ1 tW O4 QZ ⟨v,hv⟩=>by
    have iW:∀e'∈l1++l2,e'.i≠e.i:=λe' h=>by
     rcases List.mem_append.1 h with h | h
     ·have:=((List.pairwise_append.1 hp).2.2 e' h e (by simp)).1;omega
     ·have:=(List.rel_of_pairwise_cons (List.pairwise_append.1 hp).2.1 h).1;omega
    have AX:∀k d,k≠e.i→(listed.setIfInBounds e.i true).getD k d=listed.getD k d:=λk d hk=>by
     rw[Array.getD_eq_getD_getElem?,Array.getD_eq_getD_getElem?,Array.getElem?_setIfInBounds_ne (λh=>hk h.symm)]
    have YW:∀d,(listed.setIfInBounds e.i true).getD e.i d=true:=λd=>by
     rw[Array.getD_eq_getD_getElem?,Array.getElem?_setIfInBounds_self];simp[xV,h1]
    refine za7 hC hΦ hE D hD ρ0 a0 rV fuel (l1++l2) _ s1 a1 w1 ρ1 (by simp at hl⊢;omega) k2 ?_ (by simp[xV]) (λi hi=>?_) (λe' RW=>vV e' ?_) ?_ tW (λe' RW q hq=>?_) (λq hq=>?_) (λq qi h=>QZ q qi (hx q qi h))
     (λs hs=>by rw[hv,ZR (λe=>hs (hD o (Array.mem_of_getElem? ho) s e))];exact X6 s hs)
    ·refine hp.sublist ?_;exact(List.sublist_cons_self e l2).append_left l1
    ·by_cases M2:i=e.i
     ·subst M2;rw[YW];constructor
      ·intro h;cases h
      ·rintro⟨e',h5,h6⟩;exact absurd h6 (iW e' h5)
     ·rw[AX i true M2,ZW i hi];constructor
      ·rintro⟨e',h5,h6⟩;refine⟨e',?_,h6⟩
       rcases List.mem_append.1 h5 with h5 | h5
       ·exact List.mem_append_left _ h5
       ·rcases List.mem_cons.1 h5 with rfl | h5
        ·exact absurd h6.symm M2
        ·exact List.mem_append_right _ h5
      ·rintro⟨e',h5,h6⟩;refine⟨e',?_,h6⟩
       rcases List.mem_append.1 h5 with h5 | h5
       ·exact List.mem_append_left _ h5
       ·exact List.mem_append_right _ (List.mem_cons_of_mem _ h5)
    ·rcases List.mem_append.1 RW with h5 | h5
     ·exact List.mem_append_left _ h5
     ·exact List.mem_append_right _ (List.mem_cons_of_mem _ h5)
    ·intro k o2 hk B3 x HZ hb
     by_cases F8:x.on=e.i
     ·rw[F8];exact YW false
     ·rw[AX _ _ F8]
      by_cases G8:k=e.i
      ·subst G8;rw[ho]at B3;cases B3;exact h4 x HZ hb
      ·rw[AX _ _ G8]at hk;exact kZ k o2 hk B3 x HZ hb
    ·rw[O4 _ (by have:=iW e' RW;omega)];refine hf e' ?_ q hq
     rcases List.mem_append.1 RW with h5 | h5
     ·exact List.mem_append_left _ h5
     ·exact List.mem_append_right _ (List.mem_cons_of_mem _ h5)
    ·rw[O4 q (by omega)];exact hN q hq
   have run:XD C (nx+128 *e.i) o e.ls e.rd e.wr st some=some s1→o.wp C.P a w (wpAny C.P .any ops Q fuel (listed.setIfInBounds e.i true)) Q:=λhs=>by
    refine HS (zhg hr hC hΦ ⟨_,hN⟩ (λq hq=>hf e (by simp) q hq) hs) (λa' w' ⟨ρ',h,_⟩=>h.defers) _ Q λa1 w1 hA=>?_;obtain⟨⟨ρ1,tW,O4,QZ⟩,hv⟩:=hA;exact rest a1 w1 ρ1 tW (λq hq=>O4 q hq) QZ hv
   unfold wpOp;rw[ho]
   rcases TV with⟨hg,hs⟩ | ⟨j,want,dj,hg,tY,_,⟨hv,hs⟩ | ⟨hv,hs⟩⟩
   ·simp only;rw[if_pos (by simp[Region.wanted,hg])];exact .inl (run hs)
   ·have dZ:=hr.slots dj;rw[hv]at dZ
    have hb:a.tmps.getD dj undef= .bool want:=by
     generalize a.tmps.getD dj undef=v at dZ;cases dZ;rfl
    have KW:dj<a.tmps.size:=by
     rcases Nat.lt_or_ge dj a.tmps.size with h | h
     ·exact h
     ·rw[Array.getD_eq_getD_getElem?,Array.getElem?_eq_none h]at hb;cases hb
    have hy:yielded ops a.tmps j=some want:=by
     unfold yielded;rw[tY];simp only[Option.bind_some];rw[Array.getD_eq_getD_getElem?,Array.getElem?_eq_getElem KW]at hb;rw[Array.getElem?_eq_getElem KW];simp only[Option.getD_some]at hb;rw[hb]
    simp only;rw[if_pos (by simp[Region.wanted,hg,hy])];exact .inl (run hs)
   ·have nW:Region.wanted o (yielded ops a.tmps)=false:=by
     have dZ:=hr.slots dj
     rcases hv with hv | hv
     ·rw[hv]at dZ;have hu:=zhl dZ
      have hy:yielded ops a.tmps j=none:=by
       unfold yielded;rw[tY];simp only[Option.bind_some];split
       ·rename_i b hb;rw[Array.getD_eq_getD_getElem?,hb]at hu;cases hu
       ·rfl
      simp[Region.wanted,hg,hy]
     ·rw[hv]at dZ
      have hb:a.tmps.getD dj undef= .bool (!want):=by
       generalize a.tmps.getD dj undef=v at dZ;cases dZ;rfl
      have hy:yielded ops a.tmps j=some (!want):=by
       unfold yielded;rw[tY];simp only[Option.bind_some];rw[Array.getD_eq_getD_getElem?]at hb;cases h2:a.tmps[dj]? with
       | none=>rw[h2]at hb;cases hb
       | some v=>rw[h2]at hb;simp only[Option.getD_some]at hb;rw[hb]
      simp only[Region.wanted,hg,hy];cases want<;>rfl
    simp only;rw[if_neg (by simp[nW])];obtain⟨p1,_,_⟩:=hr.put (v:=undef) (d:= .tup []) (.tup [] #[] rfl λj hj=>by simp at hj) hs;exact rest _ w ρ p1 (λ_ _=>rfl) (λ_ _ h=>h) ⟨_,rfl⟩
omit [aA]in
def DE.keeps{ops:Array Oper}{nx:Nat}{e:TB}(h:DE C ops nx e st st'):OB nx st.h st'.h:=by
 obtain⟨o,h1,h2,h3⟩:=h
 have stp:XD C (nx+128 *e.i) o e.ls e.rd e.wr st some=some st'→OB nx st.h st'.h:=λh=>by
  obtain⟨x,k1,rfl⟩:=MR h;have L:=zac (n:=nx) (i:=nx+128 *e.i) (by omega) o x k1;intro r row hr sV hm;have hr:r<nx:=hr;show yH _ _ _ _ r=_
  by_cases hw:r∈e.wr
  ·rw[cT (.inl hw)];exact L.rows r row hr (by show pE e.rd e.wr st.h r=_;simp only[pE,CG.2 hw,cond_true];exact sV) hm
  ·rw[zaV (λh=>h.elim hw λh=>by omega)];exact sV
 have skp:DA C o.dst st (.tup []) some=some st'→OB nx st.h st'.h:=λh=>(SP (π:=λr=>r<nx) (V.tup []) st' h).rows
 rcases h3 with⟨_,h⟩ | ⟨j,want,dj,_,_,_,⟨_,h⟩ | ⟨_,h⟩⟩
 ·exact stp h
 ·exact stp h
 ·exact skp h
omit [aA]in
def mF.frame{ops:Array Oper}{nx:Nat}(hD:∀o∈ops,∀d,o.dst=some d→D d){l:List TB}(h:mF C ops nx l st st'):
  (∀s,¬D s→st'.s s=st.s s)∧OB nx st.h st'.h∧st'.nx=st.nx:=by
 induction h with
 | nil=>exact⟨λ_ _=>rfl,OB.refl _ _,rfl⟩
 | cons h k ih=>
  obtain⟨f1,f2,f3⟩:=h.frame;obtain⟨o,h1,h2,_⟩:=id h;refine⟨λs hs=>?_,h.keeps.trans ih.2.1,ih.2.2.trans f3⟩;rw[ih.1 s hs,f1 s λhd=>hs (hD o (Array.mem_of_getElem? h1) s (h2▸hd))]
omit [aA]in
def ze8{mask nx:Nat}{rs:List TB}{e:TB}(h:dG mask nx rs e=true):∀e1∈rs,Nat.testBit mask e1.i=true∨kG nx e1 e=true:=λe1 he=>by
 have:=List.all_eq_true.1 h e1 he;simpa using this
omit [aA]in
def zbg{ops:Array Oper}{nx:Nat}{K:St→Option R}{r:R}:∀(m k:Nat) (rs:List TB) (st:St),k+m=ops.size→
  lG C ops (QB [] ops.toList) nx (OD k (ops.toList.drop k)) rs st K=some r→
  ∃l stf,mF C ops nx l st stf∧K stf=some r∧l.map (·.i)=List.range' k m∧(∀i o,k≤i→ops[i]?=some o→∀e∈o.after,Region.binds .any e=true→e.on<i)∧
   (∀e∈l,∀e1∈rs,Nat.testBit ((QB [] ops.toList).getD e.i 0) e1.i=true∨kG nx e1 e=true)∧
   l.Pairwise λe1 e=>e1.i<e.i∧(Nat.testBit ((QB [] ops.toList).getD e.i 0) e1.i=true∨kG nx e1 e=true)
 | 0,k,rs,st,hk,qV=>by
  have:ops.toList.drop k=[]:=List.drop_eq_nil_of_le (by simp;omega);rw[this]at qV;refine⟨[],st, .nil _,qV,rfl,λi o hi ho=>?_,λe he=>by simp at he, .nil⟩;rw[Array.getElem?_eq_none (by omega)]at ho;cases ho
 | m+1,k,rs,st,hk,qV=>by
  have vV:k<ops.size:=by omega
  have ho:ops[k]?=some ops[k]:=Array.getElem?_eq_getElem vV
  have IX:OD k (ops.toList.drop k)=(k,ops[k]) :: OD (k+1) (ops.toList.drop (k+1)):=by
   rw[List.drop_eq_getElem_cons (by simpa using vV)];rfl
  rw[IX]at qV;simp only[lG]at qV;cases Y6:zbB k ops[k]
  case false=>simp[Y6]at qV
  simp only[Y6,iB]at qV
  have C3:∀e∈(ops[k]).after,Region.binds .any e=true→e.on<k:=λe he hb=>by
   have:=List.all_eq_true.1 Y6 e (by simpa using he);simp only[hb,Bool.not_true,Bool.false_or,Nat.blt_eq]at this;exact this
  -- one operation more
  have more:∀(e:TB) (st1:St),e.i=k→dG ((QB [] ops.toList).getD k 0) nx rs e=true→DE C ops nx e st st1→
    lG C ops (QB [] ops.toList) nx (OD (k+1) (ops.toList.drop (k+1))) (e :: rs) st1 K=some r→
    ∃l stf,mF C ops nx l st stf∧K stf=some r∧l.map (·.i)=List.range' k (m+1)∧(∀i o,k≤i→ops[i]?=some o→∀e∈o.after,Region.binds .any e=true→e.on<i)∧
     (∀e∈l,∀e1∈rs,Nat.testBit ((QB [] ops.toList).getD e.i 0) e1.i=true∨kG nx e1 e=true)∧
     l.Pairwise λe1 e=>e1.i<e.i∧(Nat.testBit ((QB [] ops.toList).getD e.i 0) e1.i=true∨kG nx e1 e=true):=λe st1 H8 EV D3 AV=>by
   obtain⟨l,stf,k1,k2,k3,k4,k5,k6⟩:=zbg m (k+1) (e :: rs) st1 (by omega) AV
   have hli:∀e'∈l,k+1≤e'.i:=λe' RW=>by
    have:e'.i∈l.map (·.i):=List.mem_map.2 ⟨e',RW,rfl⟩;rw[k3,List.mem_range']at this;obtain⟨_,_,h⟩:=this;omega
   refine⟨e :: l,stf, .cons D3 k1,k2,by rw[List.map_cons,k3,H8,List.range'_succ],λi o hi Z6=>?_,λe' RW e1 M1=>?_,List.pairwise_cons.2 ⟨λe' RW=>⟨?_,?_⟩,k6⟩⟩
   ·rcases Nat.lt_or_eq_of_le hi with h | h
    ·exact k4 i o h Z6
    ·subst h;rw[ho]at Z6;cases Z6;exact C3
   ·rcases List.mem_cons.1 RW with rfl | RW
    ·rw[H8];exact ze8 EV e1 M1
    ·exact k5 e' RW e1 (List.mem_cons_of_mem _ M1)
   ·have:=hli e' RW;omega
   ·exact k5 e' RW e (by simp)
  have skip:∀(j:Nat) (want:Bool) (dj:Nat),(ops[k]).guard=some (j,want)→(ops[j]?).bind (·.dst)=some dj→(st.s dj= .tup []∨st.s dj= .bool (!want))→
    (bif dG ((QB [] ops.toList).getD k 0) nx rs ⟨k,(ops[k]).dst,[dj],[],[]⟩ then DA C (ops[k]).dst st (.tup []) fun st'=>
     lG C ops (QB [] ops.toList) nx (OD (k+1) (ops.toList.drop (k+1))) (⟨k,(ops[k]).dst,[dj],[],[]⟩ :: rs) st' K else none)=some r→
    ∃l stf,mF C ops nx l st stf∧K stf=some r∧l.map (·.i)=List.range' k (m+1)∧(∀i o,k≤i→ops[i]?=some o→∀e∈o.after,Region.binds .any e=true→e.on<i)∧
     (∀e∈l,∀e1∈rs,Nat.testBit ((QB [] ops.toList).getD e.i 0) e1.i=true∨kG nx e1 e=true)∧
     l.Pairwise λe1 e=>e1.i<e.i∧(Nat.testBit ((QB [] ops.toList).getD e.i 0) e1.i=true∨kG nx e1 e=true):=λj want dj hg tY hv h=>by
   cases EV:dG ((QB [] ops.toList).getD k 0) nx rs ⟨k,(ops[k]).dst,[dj],[],[]⟩
   case false=>rw[EV]at h;cases h
   simp only[EV,cond_true]at h;rw[pL]at h;obtain⟨st1,h1,h2⟩:=Option.bind_eq_some_iff.1 h;exact more _ st1 rfl EV ⟨_,ho,rfl, .inr ⟨j,want,dj,hg,tY,by simp, .inr ⟨hv,h1⟩⟩⟩ h2
  split at qV
  ·rename_i hg;cases EV:dG ((QB [] ops.toList).getD k 0) nx rs ⟨k,(ops[k]).dst,UI ops[k],(NF ops[k] st).1,(NF ops[k] st).2⟩
   case false=>rw[EV]at qV;cases qV
   simp only[EV,iB]at qV;unfold XD at qV;rw[MI]at qV;obtain⟨x,h1,h2⟩:=Option.bind_eq_some_iff.1 qV;exact more _ _ rfl EV ⟨_,ho,rfl, .inl ⟨hg,BS h1⟩⟩ h2
  ·rename_i j want hg;split at qV
   ·cases qV
   rename_i dj tY;split at qV
   ·rename_i hs;exact skip j want dj hg tY (.inl hs) qV
   ·rename_i t hs
    have YW:({st with s:=cA st.s dj (.bool t)}:St)=st:=by
     have:cA st.s dj (.bool t)=st.s:=by
      funext q
      by_cases hq:q=dj
      ·subst hq;rw[tA,hs]
      ·rw[kA _ _ _ _ hq]
     rw[this]
    by_cases M4:t=want
    ·subst M4
     have qV:(bif dG ((QB [] ops.toList).getD k 0) nx rs ⟨k,(ops[k]).dst,dj :: UI ops[k],(NF ops[k] {st with s:=cA st.s dj (.bool t)}).1,(NF ops[k] {st with s:=cA st.s dj (.bool t)}).2⟩then
       XD C (nx+128 *k) ops[k] (dj :: UI ops[k]) (NF ops[k] {st with s:=cA st.s dj (.bool t)}).1 (NF ops[k] {st with s:=cA st.s dj (.bool t)}).2 {st with s:=cA st.s dj (.bool t)} λst'=>
        lG C ops (QB [] ops.toList) nx (OD (k+1) (ops.toList.drop (k+1))) (⟨k,(ops[k]).dst,dj :: UI ops[k],(NF ops[k] {st with s:=cA st.s dj (.bool t)}).1,(NF ops[k] {st with s:=cA st.s dj (.bool t)}).2⟩ :: rs) st' K else none)=some r:=by
      cases t<;>exact qV
     rw[YW]at qV;cases EV:dG ((QB [] ops.toList).getD k 0) nx rs ⟨k,(ops[k]).dst,dj :: UI ops[k],(NF ops[k] st).1,(NF ops[k] st).2⟩
     case false=>rw[EV]at qV;cases qV
     simp only[EV,cond_true]at qV;unfold XD at qV;rw[MI]at qV;obtain⟨x,h1,h2⟩:=Option.bind_eq_some_iff.1 qV;exact more _ _ rfl EV ⟨_,ho,rfl, .inr ⟨j,t,dj,hg,tY,by simp, .inl ⟨hs,BS h1⟩⟩⟩ h2
    ·have jW:t= !want:=by cases t<;>cases want<;>simp_all
     have qV:(bif dG ((QB [] ops.toList).getD k 0) nx rs ⟨k,(ops[k]).dst,[dj],[],[]⟩then DA C (ops[k]).dst {st with s:=cA st.s dj (.bool t)} (.tup []) λst'=>
       lG C ops (QB [] ops.toList) nx (OD (k+1) (ops.toList.drop (k+1))) (⟨k,(ops[k]).dst,[dj],[],[]⟩ :: rs) st' K else none)=some r:=by
      subst jW;cases want<;>exact qV
     rw[YW]at qV;exact skip j want dj hg tY (.inr (by rw[hs,jW])) qV
   ·cases qV
def zhV(hC:VC C)(hΦ:cD C){id:Nat}{ops:Array Oper}{Q:Exit→Act→World→Prop}{K:St→Option R}{r:R}(hD:∀o∈ops,∀d,o.dst=some d→D d)
  (hr:AA C w0 outer own ρ st a w) (hf:∀q,st.nx≤q→ρ q=none)
  (qV:lG C ops (QB [] ops.toList) st.nx (OD 0 ops.toList) [] st (λst'=>K {st' with nx:=st.nx+128 *ops.size})=some r)
  (rV:∀st' a' w' ρ',mB C w0 outer own D st a ρ st' a' w' ρ'→K st'=some r→Q .normal a' w'):(Code.region id ops true).wp C.P Q a w:=by
 obtain⟨l,stf,k1,k2,k3,k4,k5,k6⟩:=zbg ops.size 0 [] st (by omega) qV;obtain⟨f1,f2,f3⟩:=k1.frame hD
 have mW:∀ i,i<ops.size↔∃ e ∈ l,e.i=i:=fun i=>by
  have : i ∈ l.map (·.i) ↔ i < ops.size := by rw [k3, List.mem_range']; constructor
                                              ·rintro⟨_,h,rfl⟩;omega
                                              ·intro h;exact⟨i,h,by omega⟩
  rw[←this,List.mem_map]
 have E3:∀i,i<ops.size→(Array.replicate ops.size false).getD i true=false:=λi hi=>by
  rw[Array.getD_eq_getD_getElem?,Array.getElem?_eq_getElem (by simpa using hi)];simp
 have F3:∀i,(Array.replicate ops.size false).getD i false=false:=λi=>by
  rw[Array.getD_eq_getD_getElem?];cases h:(Array.replicate ops.size false)[i]? with
  | none=>rfl
  | some b=>rw[Array.getElem?_replicate]at h;split at h<;>simp_all
 obtain⟨m1,m2⟩:=hr.heap.world (w':={w with drawn:=w.drawn+1}) ⟨rfl,rfl,rfl,Nat.le_refl _⟩ rfl;have tW:AA C w0 outer own ρ st a {w with drawn:=w.drawn+1}:=⟨m1,λi=>m2 _ _ (hr.slots i),hr.size,hr.defers,hr.glob⟩;refine wp_region_any hC.mixed ?_
 refine za7 hC hΦ (λi o ho=>k4 i o (Nat.zero_le _) ho) D hD ρ a (λa' w' ρ' h1 h2 h3 h4=>?_) ops.size l _ st a _ ρ ?_ k1 k6 (by simp) (λi hi=>⟨λ_=>(mW i).1 hi,λ_=>E3 i hi⟩) (λe he=>(mW e.i).2 ⟨e,he,rfl⟩)
  (λk o hk=>by rw[F3]at hk;cases hk) tW (λe he q hq=>hf _ (by omega)) (λq hq=>hf q (by omega)) (λ_ _ h=>h) (λ_ _=>rfl)
 ·refine rV {stf with nx:=st.nx+128 *ops.size} a' w' ρ' ⟨⟨h1.heap,h1.slots,h1.size,h1.defers,h1.glob⟩,h2,f1,f2,Nat.le_add_right _ _,h3,h4⟩ k2
 ·have:=congrArg List.length k3;simpa using this
end
end Go.D
namespace Go.D
variable [aA]
def OF:Ex→Exit
 | .normal=> .normal
 | .exit id=> .exit id
 | .ret=> .ret
section
variable {C:Cx} {w0:World} {outer D:Nat→Prop} {own:Ow} {R:Type} {st st1 st2:St} {ρ ρ1 ρ2:Nat→Option RI} {a a1 a2:Act} {w w1 w2:World}
def mB.refl(hr:AA C w0 outer own ρ st a w)(hf:∀q,st.nx≤q→ρ q=none):mB C w0 outer own D st a ρ st a w ρ:=
 ⟨hr,λ_ _ h=>h,λ_ _=>rfl,OB.refl _ _,Nat.le_refl _,hf,λ_ _=>rfl⟩
def mB.trans(h:mB C w0 outer own D st a ρ st1 a1 w1 ρ1)(k:mB C w0 outer own D st1 a1 ρ1 st2 a2 w2 ρ2):mB C w0 outer own D st a ρ st2 a2 w2 ρ2:=
 ⟨k.rel,λq qi hq=>k.ext _ _ (h.ext _ _ hq),λs hs=>(k.slots s hs).trans (h.slots s hs),h.keeps.trans (k.keeps.le h.nx),Nat.le_trans h.nx k.nx,k.fresh,λs hs=>(k.vals s hs).trans (h.vals s hs)⟩
def mB.mono{D':Nat→Prop}(h:mB C w0 outer own D st a ρ st1 a1 w1 ρ1)(hd:∀s,D s→D' s):mB C w0 outer own D' st a ρ st1 a1 w1 ρ1:=
 ⟨h.rel,h.ext,λs hs=>h.slots s λe=>hs (hd s e),h.keeps,h.nx,h.fresh,λs hs=>h.vals s λe=>hs (hd s e)⟩
omit [aA]in
def zd6{s:Nat}{ids:List Nat}(h:yT st s=some ids):iG st.h ids:=by
 unfold yT at h;cases hb:Nat.ble 1000000 s
 ·simp only[hb,cond_false]at h;split at h
  ·rename_i hf;cases h;exact TO hf
  ·cases h
 ·simp only[hb,cond_true]at h;split at h
  ·split at h
   ·split at h
    ·rename_i hf;cases h;exact bM hf
    ·cases h
   ·cases h
  ·cases h
def NI:∀(pre:List Nat) (st st1:St),PG pre st=some st1→AA C w0 outer own ρ st a w→AA C w0 outer own ρ st1 a w∧st1.s=st.s∧st1.nx=st.nx∧∀n,OB n st.h st1.h
 | [],st,st1,h,hr=>by simp[PG]at h;subst h;exact⟨hr,rfl,rfl,λn=>OB.refl n _⟩
 | s :: pre,st,st1,h,hr=>by
  simp only[PG]at h;split at h
  case h_2=>cases h
  rename_i ids hf;obtain⟨m1,m2⟩:=hr.heap.mark ids;have tW:AA C w0 outer own ρ {st with h:=eB st.h ids} a w:=hr.turn m1 m2;obtain⟨k1,k2,k3,k4⟩:=NI pre _ st1 h tW;exact⟨k1,k2,k3,λn=>(FI _ (zd6 hf)).trans (k4 n)⟩
def mB.pre{pre:List Nat}(hp:PG pre st=some st1)(hr:AA C w0 outer own ρ st a w)(h:mB C w0 outer own D st1 a ρ st2 a2 w2 ρ2):mB C w0 outer own D st a ρ st2 a2 w2 ρ2:=by
 obtain⟨_,k2,k3,k4⟩:=NI pre st st1 hp hr;exact⟨h.rel,h.ext,λs hs=>by rw[h.slots s hs,k2],(k4 _).trans (by rw[←k3];exact h.keeps),by rw[←k3];exact h.nx,h.fresh,h.vals⟩
def mB.unlock{j:JI}{b:St}(h:mB C w0 outer own D (LB j b) a ρ st1 a1 w1 ρ1):mB C w0 outer own D b a ρ (Go.D.unlock b st1) a1 w1 ρ1:=
 ⟨h.rel.unlock b,h.ext,h.slots,zeg h.keeps,h.nx,h.fresh,h.vals⟩
def mB.install{j:JI}{b:St}{k:iC j.cs→Option R}{r:R}(hb:AA C w0 outer own ρ b a w)(hf:∀q,b.nx≤q→ρ q=none)(h:mB C w0 outer own (λs=>j.has s=true) (LB j b) a ρ st1 a1 w1 ρ1)
  (zW:cL j=true) (he:HE j.cs st1 k=some r):∃x,k x=some r∧∃ρ2,mB C w0 outer own (λs=>j.has s=true) b a ρ (Go.D.install j b x) a1 w1 ρ2:=by
 obtain⟨x,h1,ρ2,h2,h3,h4,h5⟩:=PR hb hf h.rel h.fresh h.nx h.ext (λs hs=>h.slots s (by simp[hs])) h.keeps zW he;refine⟨x,h1,ρ2,h2,h4,λs hs=>rM j b x s (by simpa using hs),h5,?_,h3,h.vals⟩;simp only[Go.D.install];omega
def zbE(hC:VC C)(hΦ:cD C){id:Nat}{pre:List Nat}{d:Bool}{ops:Array Oper}{Q:Exit→Act→World→Prop}{K:St→Option R}{r:R}(hD:∀o∈ops,∀d,o.dst=some d→D d)
  (hr:AA C w0 outer own ρ st a w) (hf:∀q,st.nx≤q→ρ q=none) (qV:RN C pre d ops st K=some r)
  (rV:∀st' a' w' ρ',mB C w0 outer own D st a ρ st' a' w' ρ'→K st'=some r→Q .normal a' w'):(Code.region id ops d).wp C.P Q a w:=by
 cases d with
 | true=>
  simp only[RN,iB,zcG]at qV;split at qV
  ·cases qV
  rename_i st0 hp;obtain⟨p1,p2,p3,p4⟩:=NI _ _ _ hp hr;exact zhV hC hΦ hD p1 (by rw[←p3]at hf;exact hf) qV λst' a' w' ρ' h1 h2=>rV st' a' w' ρ' (mB.pre hp hr h1) h2
 | false=>
  simp only[RN,aG]at qV;refine wp_region ?_;rw[List.range_eq_range'];refine aT hC hΦ st.nx hD ops.size 0 st a w ρ (by omega) hr (λq hq=>hf q (by omega)) qV λst' a' w' ρ' h1 h2 h3 h4 h5 h6 h8 h7=>?_;exact rV {st' with nx:=st.nx+128 *ops.size} a' w' ρ' ⟨⟨h1.heap,h1.slots,h1.size,h1.defers,h1.glob⟩,h3,h4,h5,Nat.le_add_right _ _,h2,h8⟩ h7
end
end Go.D
namespace Go.D
variable [aA]
section
variable {C:Cx} {w0:World} {outer D:Nat→Prop} {own:Ow} {R:Type} {st st1 st2:St} {ρ ρ1 ρ2:Nat→Option RI} {a a1 a2:Act} {w w1 w2:World} {j:JI}
omit [aA]in
def zfA(t:TN)(x:El t):∀c∈enc t x,jF c=none:=by
 intro c hc;cases t<;>(simp[enc,mN,JT,ES,tT,iT,pT,HT,TS,hQ,tS,lQ,sT,TK,kS,vS,kN,wP,bQ,qQ,nS,oT,zT,lN,QS]at hc;rcases hc with rfl | hc<;>(repeat (first | rfl | (rcases hc with rfl | hc))))
omit [aA]in
def EU(ow:List Nat)(base:Nat):∀(es:List V) (p r:Nat),(∀c∈es,jF c=none)→∀c∈zA ow base p es,jF c=some r→base≤r
 | [],p,r,_,c,hc,_=>by simp[zA]at hc
 | e :: es,p,r,he,c,hc,h=>by
  have ih:=EU ow base es (p+1) r (λc hc=>he c (by simp[hc]));have h0:=he e (by simp);cases e<;>(simp only[zA,List.mem_cons]at hc;rcases hc with rfl | hc)<;>first | exact ih c hc h | (rw[h0]at h;cases h) | skip
  cases hb:ow.any (Nat.beq p)
  ·simp[hb,jF]at h
  ·simp[hb,jF]at h;omega
def zcr(sl:Nat→V)(cs:List rB)(id:Nat)(h:Nat→Option gA)(q:Nat)(row:gA):Prop:=
 h q=some row∨(id≤q∧∃t l,row.c= .arr t l)∨(∃s t ow es, .box s t ow∈cs∧sl s= .bp q 0∧row=⟨.box es, .own⟩∧∀c∈es,∀r,jF c=some r→id≤r)
omit [aA]in
def LR(sl:Nat→V):∀(cs:List rB) (id:Nat) (x:iC cs) (h:Nat→Option gA) (q:Nat) (row:gA),oJ sl cs id x h q=some row→zcr sl cs id h q row:=by
 have one:∀(c:rB) (id:Nat) (x:c.T) (h:Nat→Option gA) (q:Nat) (row:gA),NG sl c id x h q=some row→zcr sl [c] id h q row:=by
  intro c id x h q row hq;cases c with
  | drop s=>exact .inl hq
  | slot s ty=>exact .inl hq
  | own s t=>
   simp only[NG]at hq
   by_cases OX:q=id
   ·subst OX;rw[tA]at hq;cases hq;exact .inr (.inl ⟨Nat.le_refl _,_,_,rfl⟩)
   ·rw[kA _ _ _ _ OX]at hq;exact .inl hq
  | box s t ow=>
   simp only[NG]at hq;generalize hs:sl s=v at hq;cases v with
   | bp r off=>
    cases off with
    | zero=>
     simp only at hq
     by_cases zV:q=r
     ·subst zV;rw[tA]at hq;cases hq;exact .inr (.inr ⟨s,t,ow,_,by simp,hs,rfl,λc hc r hr=>EU ow id _ 0 r (zfA t x) c hc hr⟩)
     ·rw[kA _ _ _ _ zV,PA]at hq;split at hq
      ·rename_i y hy;cases hq;obtain⟨_,_,he,h1,h2⟩:=UB _ _ _ _ _ _ hy;exact .inr (.inl ⟨by omega,_,_,congrArg gA.c he⟩)
      ·exact .inl hq
    | succ n=>exact .inl hq
   | _=>exact .inl hq
 intro cs;induction cs with
 | nil=>intro id x h q row hq;exact .inl hq
 | cons c cs ih=>
  intro id x h q row hq;cases cs with
  | nil=>exact one c id x h q row hq
  | cons d r=>
   rcases one c id x.1 _ q row hq with h1 | h1 | ⟨s,t,ow,es,h1,h2,h3,h4⟩
   ·rcases ih (id+128) x.2 h q row h1 with h2 | ⟨h2,h3⟩ | ⟨s,t,ow,es,h3,h4,h5,h6⟩
    ·exact .inl h2
    ·exact .inr (.inl ⟨by omega,h3⟩)
    ·exact .inr (.inr ⟨s,t,ow,es,List.mem_cons_of_mem _ h3,h4,h5,λc hc r hr=>by have:=h6 c hc r hr;omega⟩)
   ·exact .inr (.inl h1)
   ·exact .inr (.inr ⟨s,t,ow,es,by simp at h1;simp[h1],h2,h3,h4⟩)
omit [aA]in
def zhn(f:Nat→V)(s:Nat)(t:TN)(tr:Bool):∀(cs:List rB) (id:Nat) (x:iC cs),oF cs=true→ .own s t tr∈cs→∃r,GE cs id x f s= .ow r∧id≤r:=by
 intro cs;induction cs with
 | nil=>intro id x _ h;simp at h
 | cons c cs ih=>
  intro id x hn hm
  have key:∀(y:c.T) (g:Nat→V),c= .own s t tr→∃r,zF c id y g s= .ow r∧id≤r:=by
   intro y g hc;subst hc;exact⟨id,tA _ _ _,Nat.le_refl _⟩
  rcases List.mem_cons.1 hm with he | hm
  ·cases cs with
   | nil=>exact key x f he.symm
   | cons d r=>exact key x.1 _ he.symm
  ·cases cs with
   | nil=>simp at hm
   | cons d r=>
    have SY:oF (d :: r)=true∧∀y g,zF c id y g s=g s:=by
     have hs:zC (d :: r) s=true:=by
      clear ih;generalize d :: r=l at hm;induction l with
      | nil=>simp at hm
      | cons e l ih=>
       rcases List.mem_cons.1 hm with h | h
       ·subst h;simp[zC]
       ·cases e<;>simp[zC,ih h]
     cases c with
     | slot s' ty=>
      simp only[oF,Bool.and_eq_true,Bool.not_eq_true']at hn;refine⟨hn.2,λy g=>kA _ _ _ _ ?_⟩;rintro rfl;rw[hs]at hn;exact absurd hn.1 (by simp)
     | own s' ty=>
      simp only[oF,Bool.and_eq_true,Bool.not_eq_true']at hn;refine⟨hn.2,λy g=>kA _ _ _ _ ?_⟩;rintro rfl;rw[hs]at hn;exact absurd hn.1 (by simp)
     | box s' ty ow=>exact⟨hn,λy g=>rfl⟩
     | drop s'=>exact⟨hn,λy g=>rfl⟩
    obtain⟨q,h1,h2⟩:=ih (id+128) x.2 SY.1 hm;exact⟨q,by simp only[GE];rw[SY.2];exact h1,by omega⟩
omit [aA]in
def zdd {b:St} {x:iC j.cs} (zW:cL j=true) (hn:oF j.cs=true) (hk:OB b.nx b.h (install j b x).h):
  OB b.nx (LB j b).h (LB j (install j b x)).h:=by
 intro q row hq hr hm;have nZ:=hr;simp only[LB]at hr;split at hr
 case h_2=>cases hr
 rename_i c m hc;cases ho:m.isOwn
 case false=>
  simp only[ho,cond_false]at hr;have h1:=hk q row hq (hc.trans hr) hm;simp only[LB,h1,hm,cond_false]
 ·simp only[ho,cond_true]at hr;cases hi:tH j.cs b q
  case true=>simp only[hi,cond_true,Option.some.injEq]at hr;subst hr;rw[ho]at hm;cases hm
  simp only[hi,cond_false,Option.some.injEq]at hr;subst hr
  have G3:∀s t ow,rB.box s t ow∈j.cs→(install j b x).s s=b.s s:=λs t ow hm=>rM j b x s (by
   have:=List.all_eq_true.1 zW _ hm;simpa using this)
  have uY:∀s,rB.drop s∈j.cs→(install j b x).s s=b.s s:=λs hm=>rM j b x s (by
   have:=List.all_eq_true.1 zW _ hm;simpa using this)
  have nW:∀c∈j.cs,cG b q c=false:=λc hc=>by
   have h0:(j.cs.any (cG b q))=false:=hi;cases h1:cG b q c with
   | false=>rfl
   | true=>rw[List.any_eq_true.2 ⟨c,hc,h1⟩]at h0;cases h0
  have wY:∀s t ow,rB.box s t ow∈j.cs→b.s s≠ .bp q 0:=λs t ow hm h=>by
   have:=nW _ hm;simp[cG,h]at this
  have N1:∀s,rB.drop s∈j.cs→b.s s≠ .bp q 0:=λs hm h=>by
   have:=nW _ hm;simp[cG,h]at this
  have AV:kF j b q=some ⟨c,m⟩:=by simp[kF,hc,hi,ho]
  have h1:(install j b x).h q=some ⟨c,m⟩:=by
   obtain⟨row',h2⟩:=zax b.s j.cs b.nx x _ q _ AV
   rcases LR b.s j.cs b.nx x _ q _ h2 with h3 | ⟨h3,_⟩ | ⟨s,t,ow,es,h3,h4,_⟩
   ·rw[AV]at h3;cases h3;exact h2
   ·omega
   ·exact absurd h4 (wY s t ow h3)
  have h2:tH j.cs (install j b x) q=false:=by
   cases h3:tH j.cs (install j b x) q with
   | false=>rfl
   | true=>
    exfalso;obtain⟨cm,h4,h5⟩:=List.any_eq_true.1 h3;cases cm with
    | slot s ty=>cases h5
    | own s t tr=>
     obtain⟨r,h6,h7⟩:=zhn (λi=>bif dJ j.kill i then .undef else b.s i) s t tr j.cs b.nx x hn h4;have h8:(install j b x).s s= .ow r:=h6;simp only[cG,h8,jF]at h5;have:=Nat.eq_of_beq_eq_true h5;omega
    | box s t ow=>
     have h6:=G3 s t ow h4;simp only[cG,h6]at h5;split at h5
     ·rename_i bb O0;simp only[Bool.or_eq_true]at h5
      rcases h5 with h5 | h5
      ·have:=Nat.eq_of_beq_eq_true h5;subst this;exact wY s t ow h4 O0
      ·split at h5
       ·rename_i cs m z3;obtain⟨cc,h7,h8⟩:=List.any_eq_true.1 h5;split at h8
        ·rename_i r' wW;have:=Nat.eq_of_beq_eq_true h8;subst this
         rcases LR b.s j.cs b.nx x _ bb _ z3 with h9 | ⟨_,_,_,h9⟩ | ⟨s',t',ow',es,_,_,h9,iX⟩
         ·have jX:∃m',b.h bb=some ⟨.box cs,m'⟩:=by
           unfold kF at h9;split at h9
           ·rename_i c' m' bX;cases WZ:m'.isOwn
            ·simp only[WZ,cond_false,Option.some.injEq]at h9;cases h9;exact⟨_,bX⟩
            ·simp only[WZ,cond_true]at h9;cases BW:tH j.cs b bb
             ·simp only[BW,cond_false,Option.some.injEq]at h9;cases h9;exact⟨_,bX⟩
             ·simp[BW]at h9
           ·cases h9
          obtain⟨m',jX⟩:=jX;have LX:=nW _ h4;simp only[cG,O0,jX,Bool.or_eq_false_iff]at LX;have dY:=List.any_eq_false.1 LX.2 cc h7;rw[wW]at dY;exact dY h8
         ·cases h9
         ·cases h9;have:=iX cc h7 _ wW;omega
        ·cases h8
       ·cases h5
     ·cases h5
    | drop s=>
     have h6:=uY s h4;simp only[cG,h6]at h5;split at h5
     ·rename_i bb O0;simp only[Bool.or_eq_true]at h5
      rcases h5 with h5 | h5
      ·have:=Nat.eq_of_beq_eq_true h5;subst this;exact N1 s h4 O0
      ·split at h5
       ·rename_i cs m z3;obtain⟨cc,h7,h8⟩:=List.any_eq_true.1 h5;split at h8
        ·rename_i r' wW;have:=Nat.eq_of_beq_eq_true h8;subst this
         rcases LR b.s j.cs b.nx x _ bb _ z3 with h9 | ⟨_,_,_,h9⟩ | ⟨s',t',ow',es,_,_,h9,iX⟩
         ·have jX:∃m',b.h bb=some ⟨.box cs,m'⟩:=by
           unfold kF at h9;split at h9
           ·rename_i c' m' bX;cases WZ:m'.isOwn
            ·simp only[WZ,cond_false,Option.some.injEq]at h9;cases h9;exact⟨_,bX⟩
            ·simp only[WZ,cond_true]at h9;cases BW:tH j.cs b bb
             ·simp only[BW,cond_false,Option.some.injEq]at h9;cases h9;exact⟨_,bX⟩
             ·simp[BW]at h9
           ·cases h9
          obtain⟨m',jX⟩:=jX;have LX:=nW _ h4;simp only[cG,O0,jX,Bool.or_eq_false_iff]at LX;have dY:=List.any_eq_false.1 LX.2 cc h7;rw[wW]at dY;exact dY h8
         ·cases h9
         ·cases h9;have:=iX cc h7 _ wW;omega
        ·cases h8
       ·cases h5
     ·cases h5
  simp only[LB,h1,h2,cond_false,ho,cond_true]
def mB.round{b:St}{x:iC j.cs}{k:iC j.cs→Option R}{r:R}(hb:AA C w0 outer own ρ b a w)(hf:∀q,b.nx≤q→ρ q=none)
  (h0:mB C w0 outer own (λs=>j.has s=true) b a ρ (Go.D.install j b x) a1 w1 ρ1)
  (h:mB C w0 outer own (λs=>j.has s=true) (LB j (Go.D.install j b x)) a1 ρ1 st2 a2 w2 ρ2)
  (zW:cL j=true) (hn:oF j.cs=true) (he:HE j.cs st2 k=some r):∃y,k y=some r∧∃ρ3,mB C w0 outer own (λs=>j.has s=true) b a ρ (Go.D.install j b y) a2 w2 ρ3:=by
 have D8:b.nx≤st2.nx:=Nat.le_trans h0.nx h.nx
 obtain⟨y,h1,ρ3,h2,h3,h4,h5⟩:=PR (ρ':=ρ2) hb hf h.rel h.fresh D8 (λq qi hq=>h.ext _ _ (h0.ext _ _ hq)) (λs hs=>by
   have I8:¬(j.has s=true):=by simp[hs]
   have e1:=h.slots s I8;have e2:=h0.slots s I8;exact e1.trans e2)
  ((zdd zW hn h0.keeps).trans (h.keeps.le h0.nx)) zW he
 refine⟨y,h1,ρ3,h2,h4,λs hs=>rM j b y s (by simpa using hs),h5,?_,h3,λs hs=>(h.vals s hs).trans (h0.vals s hs)⟩;simp only[Go.D.install];omega
def zbV{an:An}{c:Code}{b:St}{K:Ex→St→Option R}{r:R}{Q:Exit→Act→World→Prop}(hb:AA C w0 outer own ρ b a w)(hf:∀q,b.nx≤q→ρ q=none)
  (zW:cL j=true) (hn:oF j.cs=true)
  (body:∀ (st:St) (a:Act) (w:World) (ρ:Nat→Option RI) (K:Ex→St→Option R) (Q:Exit→Act→World→Prop),AA C w0 outer own ρ st a w→(∀ q,st.nx≤q→ρ q=none)→mD C an c st K=some r→
   (∀e st' a' w' ρ',mB C w0 outer own (λs=>j.has s=true) st a ρ st' a' w' ρ'→K e st'=some r→Q (OF e) a' w')→c.wp C.P Q a w)
  (rV:∀e st' a' w' ρ',mB C w0 outer own (λs=>j.has s=true) b a ρ st' a' w' ρ'→K e st'=some r→Q (OF e) a' w'):
  ∀(n:Nat) (x:iC j.cs) (a1:Act) (w1:World) (ρ1:Nat→Option RI),mB C w0 outer own (λs=>j.has s=true) b a ρ (Go.D.install j b x) a1 w1 ρ1→
   yA n (λ(x : iC j.cs) (k : iC j.cs→Option R) => mD C an c (LB j (Go.D.install j b x)) λe st' => match e with
        | .normal=>HE j.cs st' k
        | e=>K e (Go.D.unlock (Go.D.install j b x) st')) x=some r→Code.rounds C.P c Q n a1 w1
 | 0,x,a1,w1,ρ1,h0,h=>by simp[yA]at h
 | n+1,x,a1,w1,ρ1,h0,h=>by
  rw[rounds_succ];simp only[yA]at h;refine body _ a1 w1 ρ1 _ _ (h0.rel.lock j) h0.fresh h λe st' a' w' ρ' hg hk=>?_;cases e with
  | normal=>
   obtain⟨y,k1,ρ3,k2⟩:=h0.round hb hf hg zW hn hk;exact zbV hb hf zW hn body rV n y a' w' ρ3 k2 k1
  | exit id=>exact rV (.exit id) _ a' w' ρ' (h0.trans hg.unlock) hk
  | ret=>exact rV .ret _ a' w' ρ' (h0.trans hg.unlock) hk
def zbx(hC:VC C)(hΦ:cD C)(an:An):∀(c:Code) (D:Nat→Prop),gF an D c→∀(st:St) (a:Act) (w:World) (ρ:Nat→Option RI) (K:Ex→St→Option R) (r:R) (Q:Exit→Act→World→Prop),
  AA C w0 outer own ρ st a w→(∀q,st.nx≤q→ρ q=none)→mD C an c st K=some r→
  (∀e st' a' w' ρ',mB C w0 outer own D st a ρ st' a' w' ρ'→K e st'=some r→Q (OF e) a' w')→c.wp C.P Q a w:=by
 intro c;induction c with
 | skip=>
  intro D hT st a w ρ K r Q hr hf qV rV;exact wp_skip (rV .normal st a w ρ (mB.refl hr hf) qV)
 | region id ops d=>
  intro D hT st a w ρ K r Q hr hf qV rV;simp only[mD]at qV;split at qV
  ·exact zbE hC hΦ hT.1 hr hf qV λst' a' w' ρ' h1 h2=>rV .normal st' a' w' ρ' h1 h2
  ·rename_i j hj;split at qV
   ·cases qV
   rename_i st0 hp;obtain⟨p1,p2,p3,p4⟩:=NI _ _ _ hp hr;cases fW:LE an j (.region id ops d)
   case false=>simp[fW]at qV
   simp only[fW,iB,fA]at qV;simp only[LE,Bool.and_eq_true]at fW;have hw:=IE an j _ fW.1.1;refine zbE (D:=λs=>j.has s=true) hC hΦ hw.1 (p1.lock j) (by rw[←p3]at hf;exact hf) qV λst' a' w' ρ' h1 h2=>?_;obtain⟨x,k1,ρ2,k2⟩:=mB.install p1 (by rw[←p3]at hf;exact hf) h1 fW.1.2 h2;have hD:∀s,j.has s=true→D s:=by have:=hT.2;rw[hj]at this;exact this
   exact rV .normal _ a' w' ρ2 (mB.pre hp hr (k2.mono hD)) k1
 | seq x y ihx ihy=>
  intro D hT st a w ρ K r Q hr hf qV rV;simp only[mD]at qV;refine wp_seq (ihx D hT.1 st a w ρ _ r _ hr hf qV λe st' a' w' ρ' h1 h2=>?_);cases e with
  | normal=>exact ihy D hT.2 st' a' w' ρ' _ r _ h1.rel h1.fresh h2 λe st2 a2 w2 ρ2 h3 h4=>rV e st2 a2 w2 ρ2 (h1.trans h3) h4
  | exit id=>exact rV (.exit id) st' a' w' ρ' h1 h2
  | ret=>exact rV .ret st' a' w' ρ' h1 h2
 | cond c x y ihx ihy=>
  intro D hT st a w ρ K r Q hr hf qV rV;cases c with
  | tmp t=>
   simp only[mD]at qV;split at qV
   case h_2=>cases qV
   rename_i b hb;have hv:=hr.slots t;rw[hb]at hv
   have hc:a.eval (.tmp t)= .bool b:=by
    show a.tmps.getD t undef=_
    generalize a.tmps.getD t undef=v at hv;cases hv;rfl
   refine wp_cond hc ?_;split at qV
   ·cases b with
    | true=>exact ihx D hT.1 st a w ρ K r Q hr hf qV rV
    | false=>exact ihy D hT.2.1 st a w ρ K r Q hr hf qV rV
   ·rename_i j hj;split at qV
    ·cases qV
    rename_i st0 hp;obtain⟨p1,p2,p3,p4⟩:=NI _ _ _ hp hr;cases fW:LE an j x&&LE an j y
    case false=>simp[fW]at qV
    simp only[fW,iB,fA]at qV;simp only[LE,Bool.and_eq_true]at fW;have hD:∀s,j.has s=true→D s:=by have:=hT.2.2;rw[hj]at this;exact this
    have eX:∀q,st0.nx≤q→ρ q=none:=by rw[←p3]at hf;exact hf
    have aB:∀(e:Ex) (st':St) (a':Act) (w':World) (ρ':Nat→Option RI),mB C w0 outer own (λs=>j.has s=true) (LB j st0) a ρ st' a' w' ρ'→
      (match e with
       | .normal=>HE j.cs st' λy=>K .normal (Go.D.install j st0 y)
       | e=>K e (Go.D.unlock st0 st'))=some r→Q (OF e) a' w':=by
     intro e st' a' w' ρ' h1 h2;cases e with
     | normal=>
      obtain⟨x,k1,ρ2,k2⟩:=mB.install p1 eX h1 fW.1.1.2 h2;exact rV .normal _ a' w' ρ2 (mB.pre hp hr (k2.mono hD)) k1
     | exit id=>exact rV (.exit id) _ a' w' ρ' (mB.pre hp hr (h1.unlock.mono hD)) h2
     | ret=>exact rV .ret _ a' w' ρ' (mB.pre hp hr (h1.unlock.mono hD)) h2
    cases b with
    | true=>exact ihx _ (IE an j _ fW.1.1.1) (LB j st0) a w ρ _ r Q (p1.lock j) eX qV aB
    | false=>exact ihy _ (IE an j _ fW.2.1.1) (LB j st0) a w ρ _ r Q (p1.lock j) eX qV aB
  | _=>simp[mD]at qV
 | block id x ih=>
  intro D hT st a w ρ K r Q hr hf qV rV;refine wp_block ?_;simp only[mD]at qV;split at qV
  ·refine ih D hT.1 st a w ρ _ r _ hr hf qV λe st' a' w' ρ' h1 h2=>?_;cases e with
   | normal=>exact rV .normal st' a' w' ρ' h1 h2
   | ret=>exact rV .ret st' a' w' ρ' h1 h2
   | exit id'=>
    simp only[OF,Exit.inBlock];simp only at h2;cases hb:Nat.beq id' id
    ·have iW:¬id'=id:=λe=>by subst e;simp at hb
     rw[if_neg iW];rw[hb]at h2;exact rV (.exit id') st' a' w' ρ' h1 h2
    ·have iW:=Nat.eq_of_beq_eq_true hb;rw[if_pos iW];rw[hb]at h2;exact rV .normal st' a' w' ρ' h1 h2
  ·rename_i j hj;split at qV
   ·cases qV
   rename_i st0 hp;obtain⟨p1,p2,p3,p4⟩:=NI _ _ _ hp hr;cases fW:LE an j x
   case false=>simp[fW]at qV
   simp only[fW,iB,fA]at qV;simp only[LE,Bool.and_eq_true]at fW;have hD:∀s,j.has s=true→D s:=by have:=hT.2;rw[hj]at this;exact this
   have eX:∀q,st0.nx≤q→ρ q=none:=by rw[←p3]at hf;exact hf
   refine ih _ (IE an j _ fW.1.1) (LB j st0) a w ρ _ r _ (p1.lock j) eX qV λe st' a' w' ρ' h1 h2=>?_;cases e with
   | normal=>
    obtain⟨x,k1,ρ2,k2⟩:=mB.install p1 eX h1 fW.1.2 h2;exact rV .normal _ a' w' ρ2 (mB.pre hp hr (k2.mono hD)) k1
   | ret=>exact rV .ret _ a' w' ρ' (mB.pre hp hr (h1.unlock.mono hD)) h2
   | exit id'=>
    simp only[OF,Exit.inBlock];simp only at h2;cases hb:Nat.beq id' id
    ·have iW:¬id'=id:=λe=>by subst e;simp at hb
     rw[if_neg iW];rw[hb]at h2;exact rV (.exit id') _ a' w' ρ' (mB.pre hp hr (h1.unlock.mono hD)) h2
    ·have iW:=Nat.eq_of_beq_eq_true hb;rw[if_pos iW];rw[hb]at h2;obtain⟨x,k1,ρ2,k2⟩:=mB.install p1 eX h1 fW.1.2 h2;exact rV .normal _ a' w' ρ2 (mB.pre hp hr (k2.mono hD)) k1
 | loop x ih=>
  intro D hT st a w ρ K r Q hr hf qV rV;simp only[mD]at qV;split at qV
  ·cases qV
  rename_i rid d7;split at qV
  ·cases qV
  rename_i j hj;split at qV
  ·cases qV
  rename_i st0 hp;obtain⟨p1,p2,p3,p4⟩:=NI _ _ _ hp hr;cases fW:LE an j x
  case false=>simp[fW]at qV
  simp only[fW,iB]at qV;simp only[LE,Bool.and_eq_true]at fW;have hD:∀s,j.has s=true→D s:=by have:=hT.2;simp only[d7,hj]at this;exact this
  have eX:∀q,st0.nx≤q→ρ q=none:=by rw[←p3]at hf;exact hf
  obtain⟨x0,h1,ρ2,h2,h3,h4,h5⟩:=PR (b:=st0) (st':=LB j st0) p1 eX (p1.lock j) eX (Nat.le_refl _) (λ_ _ h=>h) (λ_ _=>rfl) (OB.refl _ _) fW.1.2 qV
  refine wp_loop_rounds FU (zbV (j:=j) p1 eX fW.1.2 fW.2 (λst a w ρ K Q hr hf qV rV=>ih _ (IE an j _ fW.1.1) st a w ρ K r Q hr hf qV rV)
    (λe st' a' w' ρ' hg hk=>rV e st' a' w' ρ' (mB.pre hp hr (hg.mono hD)) hk) FU x0 a w ρ2 ⟨h2,h4,λs hs=>rM j st0 x0 s (by simpa using hs),h5,?_,h3,λ_ _=>rfl⟩ h1)
  simp only[Go.D.install];omega
 | exit id=>
  intro D hT st a w ρ K r Q hr hf qV rV;exact wp_exit (rV (.exit id) st a w ρ (mB.refl hr hf) qV)
 | ret=>
  intro D hT st a w ρ K r Q hr hf qV rV;exact wp_ret (rV .ret st a w ρ (mB.refl hr hf) qV)
 | _=>
  intro D hT st a w ρ K r Q hr hf qV rV;simp[mD]at qV
end
end Go.D

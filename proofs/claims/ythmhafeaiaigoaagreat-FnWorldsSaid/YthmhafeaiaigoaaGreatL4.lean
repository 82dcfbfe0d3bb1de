/-
 One operation, continued: conversions, closures, what is made.
-/
import Derived.Test.YthmhafeaiaigoaaGreatL3
import Derived.Laws.IdiomStrings
import Derived.Laws.BytesArg
import Derived.Laws.MakeOwn
set_option linter.all false
namespace Go.D
variable [jA]
omit [jA]in
def zee(t:TN):sz t≤128:=by cases t<;>simp[sz]
section
variable {C:Cx} {w0:World} {outer own:Nat→Prop} {ρ:Nat→Option RI} {st st':St} {a:Act} {w:World} {h:Nat→Option uA}
omit [jA]in
def zjo:∀(parts:List (Nat×Operand)) (k:Nat) (vs:List V),qV st.s k parts=some vs→vs.length=parts.length∧
  ∀j (hj:j<parts.length),(parts[j]).1=k+j∧∃(h:j<vs.length),vs[j]=opd st.s (parts[j]).2
 | [],k,vs,h=>by simp[qV]at h;subst h;exact⟨rfl,λj hj=>by simp at hj⟩
 | (j,x) :: r,k,vs,h=>by
  simp only[qV]at h;cases hb:Nat.beq k j
  case false=>simp[hb]at h
  have hkj:=Nat.eq_of_beq_eq_true hb;simp only[hb,cond_true]at h;split at h
  ·cases h
  rename_i vs' hv;cases h;obtain⟨h1,h2⟩:=zjo r (k+1) vs' hv;refine⟨by simp[h1],λq hq=>?_⟩;cases q with
  | zero=>exact⟨by simp[hkj],by simp,rfl⟩
  | succ q=>
   grind
omit [jA]in
def zlu(off:Nat):∀(l:List (Value×Nat)) (k:Nat) (cs:Array Value),(∀j (hj:j<l.length),(l[j]).2=k+j)→
  (l.foldl (λcs (c,j)=>cs.setIfInBounds (off+j) c) cs).size=cs.size∧
  ∀p,p<cs.size→(l.foldl (λcs (c,j)=>cs.setIfInBounds (off+j) c) cs).getD p undef=if h:off+k≤p∧p<off+k+l.length then(l[p - (off+k)]'(by omega)).1 else cs.getD p undef
 | [],k,cs,_=>⟨rfl,λp hp=>by simp;omega⟩
 | (c,j) :: l,k,cs,hl=>by
  have hj:j=k:=hl 0 (by simp);subst hj;obtain⟨h1,h2⟩:=zlu off l (j+1) (cs.setIfInBounds (off+j) c) (λq hq=>by have:=hl (q+1) (by simp;omega);simp at this;omega);refine⟨by simp only[List.foldl_cons];rw[h1];simp,λp hp=>?_⟩;simp only[List.foldl_cons];rw[h2 p (by simpa using hp)]
  by_cases NW:off+(j+1)≤p∧p<off+(j+1)+l.length
  ·grind
  ·rw[dif_neg NW]
   by_cases he:p=off+j
   ·subst he;rw[dif_pos ⟨Nat.le_refl _,by simp⟩];rw[Array.getD_eq_getD_getElem?,Array.getElem?_setIfInBounds];simp[hp]
   ·rw[dif_neg (by simp;omega)];rw[Array.getD_eq_getD_getElem?,Array.getElem?_setIfInBounds,if_neg (by omega),Array.getD_eq_getD_getElem?]
omit [jA]in
def zks(v:Value)(off:Nat)(cs:Array Value):(v.cells.zipIdx.foldl (λcs (c,j)=>cs.setIfInBounds (off+j) c) cs).size=cs.size∧
  ∀p,p<cs.size→(v.cells.zipIdx.foldl (λcs (c,j)=>cs.setIfInBounds (off+j) c) cs).getD p undef=if off≤p∧p<off+v.cells.size then v.cells.getD (p - off) undef else cs.getD p undef:=by
 rw[←Array.foldl_toList];obtain⟨h1,h2⟩:=zlu off v.cells.zipIdx.toList 0 cs (λj hj=>by simp);refine⟨h1,λp hp=>?_⟩;rw[h2 p hp]
 by_cases NW:off≤p∧p<off+v.cells.size
 ·rw[if_pos NW,dif_pos (by simpa using NW)];rw[Array.getD_eq_getD_getElem?,Array.getElem?_eq_getElem (by omega)];simp
 ·grind
omit [jA]in
def zls(size:Nat):∀(parts:List (Nat×Value)) (k:Nat) (cs:Array Value),(∀j (hj:j<parts.length),(parts[j]).1=k+j∧(parts[j]).2.cells.size=size)→
  (k+parts.length) *size≤cs.size→∃ cs',Instr.fill (fun i=>some (i *size,size)) cs parts=some cs'∧cs'.size=cs.size∧
   (∀j (hj:j<parts.length) q,q<size→cs'.getD ((k+j) *size+q) undef=(parts[j]).2.cells.getD q undef)∧∀p,p<k *size→cs'.getD p undef=cs.getD p undef
 | [],k,cs,_,_=>⟨cs,rfl,rfl,λj hj=>by simp at hj,λ_ _=>rfl⟩
 | (i,v) :: r,k,cs,hp,hs=>by
  obtain⟨h1,h2⟩:=hp 0 (by simp);simp only[List.getElem_cons_zero,Nat.add_zero]at h1 h2;subst h1;simp only[List.length_cons]at hs;have K5:(i+1+r.length) *size=i *size+size+r.length *size:=by rw[Nat.add_mul,Nat.add_mul,Nat.one_mul]
  have hs3:(i+(r.length+1)) *size=i *size+size+r.length *size:=by rw[Nat.add_mul,Nat.add_mul,Nat.one_mul];omega
  obtain⟨h3,h4⟩:=zks v (i *size) cs;obtain⟨cs',h5,h6,h7,h8⟩:=zls size r (i+1) _ (λj hj=>by have:=hp (j+1) (by simp;omega);simpa[Nat.add_assoc,Nat.add_comm 1 j]using this) (by rw[h3];omega);have YV:∀j,j<r.length→(i+1+j) *size≥i *size+size:=λj _=>by rw[Nat.add_mul,Nat.add_mul,Nat.one_mul];omega
  refine⟨cs',?_,by rw[h6,h3],λj hj q hq=>?_,λp V9=>?_⟩
  ·simp only[Instr.fill]
   grind
  ·cases j with
   | zero=>
    grind
   | succ j=>
    grind
  grind
omit [jA]in
def zkG(t:TN):∀(css:List (List V)) (l:List (El t)),zaq t css=some l→l.length=css.length∧∀j (hj:j<css.length) (sX:j<l.length),aC css[j] (enc t l[j])
 | [],l,h=>by simp[zaq]at h;subst h;exact⟨rfl,λj hj=>by simp at hj⟩
 | cs :: css,l,h=>by
  simp only[zaq]at h;split at h
  ·cases h
  rename_i x hx;split at h
  ·cases h
  rename_i l' hl;cases h;obtain⟨h1,h2⟩:=zkG t css l' hl;refine⟨by simp[h1],λj hj sX=>?_⟩;cases j with
  | zero=>exact JF t hx
  | succ j=>simpa using h2 j (by simpa using hj) (by simpa using sX)
variable {o:Oper} {i:Nat} (hr:ZA C w0 outer own ρ st a w)
include hr
def zrV(xs:List Operand):∀j (hj:j<(xs.map (opd st.s)).length),VR w ρ (tA outer ρ st.h) ((xs.map a.eval).getD j undef) (xs.map (opd st.s))[j]:=λj hj=>by
 have sX:j<xs.length:=by simpa using hj
 rw[List.getD_eq_getElem?_getD,List.getElem?_map,List.getElem?_eq_getElem sX,List.getElem_map];exact hr.opd xs[j]
def zrU(f:Nat)(first captured:Array Operand)(ho:o.op= .makeFunc (.func f) first captured)(hk:qB C i o st some=some st'):NC C.P o a w (JC C w0 outer own i ρ st'):=by
 simp only[qB,ho]at hk;cases he:first.isEmpty
 case false=>simp[he]at hk
 simp only[he,aD]at hk;split at hk
 case h_2=>cases hk
 rename_i cs ids FZ;have he:first= #[]:=by simpa using he
 subst he;obtain⟨h1,h2⟩:=hr.heap.mark ids;obtain⟨h3,h4⟩:=zfB hr.heap (zrV hr captured.toList) FZ;have PV:ZA C w0 outer own ρ {st with h:=DC st.h ids} a w:=hr.turn h1 h2;refine nC (v:= .func (.func f) #[] (captured.map a.eval)) (w':=w) (by simp[execOp,ho,Instr.makeFunc]) (PV.after (.fn f cs _ (by simp[h3]) λj hj=>?_) hk);have:=(h4 j hj).1;rw[Array.getD_eq_getD_getElem?]
 grind
def zrd(hC:UF C)(t:TypeId)(len:Nat)(parts:Array (Nat×Operand))(ho:o.op= .buildSlice t len parts)(hi:ρ i=none)(hk:qB C i o st some=some st'):
  NC C.P o a w (JC C w0 outer own i ρ st'):=by
 simp only[qB,ho]at hk;split at hk
 ·cases hk
 rename_i tn dX;obtain⟨e,he,K3⟩:=Option.bind_eq_some_iff.1 dX
 have hu:C.P.underlying t=some (.slice e):=by
  unfold HO at he
  grind
 obtain⟨info,z,pZ,hi2,M5,E4,m6⟩:=hC.ok e tn K3;split at hk
 ·cases hk
 rename_i vs I4;cases hb:(Nat.beq vs.length len&&Nat.ble len 1000)
 case false=>simp[hb]at hk
 simp only[hb,aD]at hk;simp only[Bool.and_eq_true]at hb;have MV:=Nat.eq_of_beq_eq_true hb.1;have yW:=Nat.le_of_ble_eq_true hb.2;split at hk
 ·cases hk
 rename_i vs' ids FZ;obtain⟨l,hl,hk⟩:=Option.bind_eq_some_iff.1 ((fT _ _).symm.trans hk);obtain⟨o6,W9⟩:=zjo parts.toList 0 vs I4;have IZ:parts.toList.length=len:=by omega
 have hps:parts.size=len:=by rw[←Array.length_toList];exact IZ
 have JX:∀j (hj:j<vs.length),VR w ρ (tA outer ρ st.h) (a.eval ((parts.toList.map (·.2)).getD j (.const undef))) vs[j]:=λj hj=>by
  obtain⟨_,h4,h5⟩:=W9 j (by omega);rw[h5,List.getD_eq_getElem?_getD,List.getElem?_map,List.getElem?_eq_getElem (by omega)];exact hr.opd _
 obtain⟨h1,h2⟩:=hr.heap.mark ids;obtain⟨h3,h4⟩:=zfB hr.heap JX FZ;obtain⟨h5,h6⟩:=zkG tn _ l hl;have PV:ZA C w0 outer own ρ {st with h:=DC st.h ids} a w:=hr.turn h1 h2
 -- the cells
 let pv:List (Nat×Value):=parts.toList.map λp=>(p.1,a.eval p.2);have X9:pv.length=len:=by simp[pv];omega
 have Q8:l.length=len:=by rw[h5,List.length_map];omega
 have Y9:∀j (hj:j<pv.length),(pv[j]).1=0+j∧(pv[j]).2.cells.size=sz tn∧∀q,q<sz tn→∃(sX:j<l.length),VR w ρ (tA outer ρ (DC st.h ids)) ((pv[j]).2.cells.getD q undef) ((enc tn l[j]).getD q .undef):=λj hj=>by
  have hjv:j<vs'.length:=by omega
  have F0:j<l.length:=by omega
  obtain⟨e1,e2,e3⟩:=W9 j (by omega);obtain⟨g1,g2⟩:=h4 j hjv
  have tZ:(parts.toList.map (·.2)).getD j (.const undef)=(parts.toList[j]'(by omega)).2:=by
   grind
  rw[tZ]at g1;have EW:=h6 j (by simpa using hjv) F0;rw[List.getElem_map]at EW;have U0:(cellsOf vs'[j]).length=sz tn:=by rw[EW.len,oD]
  have Z9:pv[j]=((parts.toList[j]'(by omega)).1,a.eval (parts.toList[j]'(by omega)).2):=by simp[pv]
  rw[Z9]
  have s6:jH (cellsOf vs'[j])=true:=by
   rw[jH,List.all_eq_true];intro c hc;obtain⟨q,hq,rfl⟩:=List.mem_iff_getElem.1 hc;have hs:=EW.get q hq (by rw[←EW.len];exact hq);have lZ:=ziO tn l[j] q (by omega);rw[VS _ _ _ (by rw[oD];omega)]at lZ;generalize (cellsOf vs'[j])[q]=c at hs;generalize (enc tn l[j])[q]'_=d at hs lZ;cases hs<;>first | exact lZ | rfl
  obtain⟨f1,f2,f3⟩:=zcR g1 s6;refine⟨e1,by rw[f1,U0],λq hq=>⟨F0,?_⟩⟩;have:=VR.sub (EW.get q (by omega) (by rw[oD];exact hq)) (f2 q (by omega))
  grind
 obtain⟨cs',c1,c2,c3,_⟩:=zls (sz tn) pv 0 ((Array.range (len *sz tn)).map (λk=>(if len *sz tn=0 then(#[]:Array Value)else z.cells)[k % (if len *sz tn=0 then(#[]:Array Value)else z.cells).size]!))
  (λj hj=>⟨(Y9 j hj).1,(Y9 j hj).2.1⟩) (by simp[X9])
 have aAA:cs'.size=len *sz tn:=by rw[c2];simp
 have bAA:¬(2^24<len *sz tn):=by
  have h1:=zee tn;have:len *sz tn≤1000 *128:=Nat.mul_le_mul yW h1;omega
 have IV:(execOp a.eval o).run C.P w= .ok (.value (.slice (some ⟨w.heap.size,0,none⟩) len len)) (w.alloc (.cells cs' e)):=by
  have hpm:(parts.map λx=>(x.1,a.eval x.2)).toList=pv:=by simp[pv]
  simp only[execOp,ho,Instr.buildSlice,Sem.run_bind,xF hu,Result.andThen_ok,sizeOf,typeInfo,run_program,pZ,Sem.run_pure,hi2,gt_iff_lt,bAA,if_false]
  by_cases h0:len *sz tn=0
  ·simp only[h0,if_true]at c1⊢;simp only[Sem.run_bind,Sem.run_pure,Result.andThen_ok,hpm,c1];rfl
  ·simp only[h0,if_false]at c1⊢;simp only[Sem.run_bind,Sem.run_pure,Result.andThen_ok,zeroValue,typeInfo,run_program,pZ,E4,hpm,c1];rfl
 refine nC IV (PV.newRow hi ⟨w.heap.size,len,len,false⟩ (λ_=>rfl) _ (zV _ _) (λb hb=>uU _ _ _ hb) (λ_=>by simp) (c:= .arr tn l) (λbad KV=>?_) (λbad=>?_) hk)
 ·refine⟨Q8.symm, .inr ⟨rfl,zf7 (hC.tys e tn K3),Nat.le_refl _,by unfold maxLen;simp;omega,λj hj=>⟨World.frozen?_alloc_new _ _ _ _,?_⟩,λi' rW j hj=>?_⟩⟩
  ·have sX:j<len *sz tn:=hj;rw[cO w cs' e j (by omega)];rfl
  ·have hip:i'<pv.length:=by omega
   have OV:i' *sz tn+j<cs'.size:=by
    rw[aAA];have:(i'+1) *sz tn≤len *sz tn:=Nat.mul_le_mul_right _ (by omega)
    grind
   obtain⟨_,_,g3⟩:=Y9 i' hip;obtain⟨_,g4⟩:=g3 j hj;refine⟨_,cO w cs' e _ OV,?_⟩
   grind
 ·exact .ow i ⟨w.heap.size,len,len,false⟩ (RA _ _ _) (Nat.le_refl _) (by unfold maxLen;simp;omega) rfl
end
end Go.D
namespace Go.D
variable [jA]
section
variable {C:Cx} {w0:World} {outer own:Nat→Prop} {ρ:Nat→Option RI} {st st':St} {a:Act} {w:World}
def zkk(hr:ZA C w0 outer own ρ st a w)(pl:List (Nat×Nat)):∀(parts:List (Nat×Operand)) (cs cs':List V) (vs:Array Value),
  zaa pl st.s cs parts=some cs'→vs.size=cs.length→(∀j (hj:j<cs.length),VR w ρ (tA outer ρ st.h) (vs.getD j undef) cs[j])→
  ∃vs',Instr.fill (λi=>pl[i]?) vs (parts.map λp=>(p.1,a.eval p.2))=some vs'∧vs'.size=cs'.length∧∀j (hj:j<cs'.length),VR w ρ (tA outer ρ st.h) (vs'.getD j undef) cs'[j]
 | [],cs,cs',vs,hf,hs,hv=>by simp[zaa]at hf;subst hf;exact⟨vs,rfl,hs,hv⟩
 | (f,x) :: r,cs,cs',vs,hf,hs,hv=>by
  simp only[zaa]at hf;split at hf
  ·cases hf
  rename_i off n hp;cases hb:(Nat.beq n (cellsOf (opd st.s x)).length&&jH (cellsOf (opd st.s x))&&Nat.ble (off+n) cs.length)
  case false=>simp[hb]at hf
  simp only[hb,cond_true]at hf;simp only[Bool.and_eq_true]at hb;obtain⟨⟨N3,N2⟩,hb3⟩:=hb;have hn:=Nat.eq_of_beq_eq_true N3;have yW:=Nat.le_of_ble_eq_true hb3;obtain⟨g1,g2,_⟩:=zcR (hr.opd x) N2;obtain⟨k1,k2⟩:=zks (a.eval x) off vs;obtain⟨s1,s2⟩:=zfO cs off (cellsOf (opd st.s x)) (by omega)
  obtain⟨vs',h1,h2,h3⟩:=zkk hr pl r _ cs' _ hf (by rw[k1,s1,hs]) (λj hj=>by
   rw[s2 j (by omega) hj,k2 j (by omega)]
   by_cases NW:off≤j∧j<off+(cellsOf (opd st.s x)).length
   ·rw[dif_pos NW,if_pos (by omega)];exact g2 _ (by omega)
   ·rw[dif_neg NW,if_neg (by omega)];exact hv j (by omega))
  refine⟨vs',?_,h2,h3⟩;simp only[List.map_cons,Instr.fill,hp];rw[if_neg]
  ·exact h1
  ·simp;omega
omit [jA]in
def zkP{f g:Nat→Option (Nat×Nat)}(hfg:∀k p,f k=some p→g k=some p):∀(cs:Array Value) (l:List (Nat×Value)) (r:Array Value),Instr.fill f cs l=some r→Instr.fill g cs l=some r
 | cs,[],r,h=>h
 | cs,(i,v) :: l,r,h=>by
  simp only[Instr.fill]at h⊢;cases hf:f i with
  | none=>rw[hf]at h;cases h
  | some p=>
   obtain⟨off,n⟩:=p;rw[hf]at h;rw[hfg i _ hf];simp only at h⊢;split at h
   ·cases h
   ·rename_i hc;rw[if_neg hc];exact zkP hfg _ l r h
variable {o:Oper} {i:Nat} (hr:ZA C w0 outer own ρ st a w)
include hr
def zup(t:TypeId)(parts:Array (Nat×Operand))(ho:o.op= .build t parts)(hk:qB C i o st some=some st'):NC C.P o a w (JC C w0 outer own i ρ st'):=by
 simp only[qB,ho]at hk;split at hk
 case h_2=>cases hk
 rename_i cs pl hz IZ;obtain⟨cs',hf,KV⟩:=Option.bind_eq_some_iff.1 ((fT _ _).symm.trans hk);unfold zeroCells at hz;split at hz
 case h_2=>cases hz
 rename_i z oZ;cases hb:jH (z.cells.toList.map PO)<;>simp[hb]at hz
 subst hz;obtain⟨info,pZ,hi2⟩:=Option.bind_eq_some_iff.1 oZ
 obtain⟨vs',h1,h2,h3⟩:=zkk hr pl parts.toList _ cs' z.cells hf (by simp) (λj hj=>by
  rw[List.getElem_map];have sX:j<z.cells.size:=by simpa using hj
  rw[Array.getD_eq_getD_getElem?,Array.getElem?_eq_getElem sX];exact zdG _)
 have J4:C.P.built t (parts.map λ(i,x)=>(i,a.eval x)).toList=some vs':=by
  unfold zmd at IZ;split at IZ
  ·rename_i fs hu;simp only[Program.built,pZ,hu,hi2,IZ,Array.toList_map];simpa using h1
  ·rename_i n e hu;split at IZ
   case h_2=>cases IZ
   rename_i ie t6;cases hb:Nat.ble n 128<;>simp[hb]at IZ
   subst IZ;simp only[Program.built,pZ,hu,hi2,t6,Array.toList_map];refine zkP (λk p hp=>?_) _ _ _ h1;simp only[List.getElem?_map]at hp;cases hk:(List.range n)[k]? with
   | none=>simp[hk]at hp
   | some y=>
    simp[hk]at hp
    have:y=k:=by
     obtain⟨OV,hy⟩:=List.getElem?_eq_some_iff.1 hk;simpa using hy.symm
    subst this;rw[←hp]
  ·cases IZ
 refine nC (v:= .agg vs') (w':=w) ?_ (hr.after (.agg cs' vs' h2 h3) KV);simp only[execOp,ho,Sem.run_bind,run_build w t _ vs' J4,Result.andThen_ok];rfl
def zrs(hC:UF C)(t:TypeId)(x y:Operand)(ho:o.op= .makeSlice t x y)(hi:ρ i=none)(hk:qB C i o st some=some st'):NC C.P o a w (JC C w0 outer own i ρ st'):=by
 simp only[qB,ho]at hk;split at hk
 case h_2=>cases hk
 rename_i tn z dX hz;obtain⟨e,he,K3⟩:=Option.bind_eq_some_iff.1 dX
 have hu:C.P.underlying t=some (.slice e):=by
  unfold HO at he;split at he
  ·rename_i h1;cases he;exact h1
  ·cases he
 obtain⟨info,z',pZ,hi2,M5,E4,m6⟩:=hC.ok e tn K3;rw[he,Option.bind_some]at hz;unfold zeroCells at hz;rw[pZ,Option.bind_some,E4]at hz;simp only at hz;cases hb:jH (z'.cells.toList.map PO)<;>simp[hb]at hz
 subst hz;split at hk
 case h_2=>cases hk
 rename_i n c hn hc;cases JZ:(decide (0≤n)&&decide (n≤(bA:Int))&&(n==c))
 case false=>simp[JZ]at hk
 simp only[JZ,cond_true]at hk;simp only[Bool.and_eq_true,decide_eq_true_eq,beq_iff_eq]at JZ;obtain⟨⟨h0,RW⟩,rfl⟩:=JZ;obtain⟨x0,nY,hk⟩:=Option.bind_eq_some_iff.1 ((fT _ _).symm.trans hk);have hx:=hr.opd x;rw[hn]at hx;have hy:=hr.opd y;rw[hc]at hy;generalize G0:a.eval x=vx at hx;generalize H0:a.eval y=vy at hy;cases hx;cases hy
 have IV:=run_make (P:=C.P) w t e info z' hu pZ E4 .i64 .i64 n n h0 (Int.le_refl _) (by
  have h1:info.bytes *n≤1024 *n:=Int.mul_le_mul_of_nonneg_right (by omega) h0;unfold bA at RW;omega) (by unfold bA at RW;omega)
 have v6:(execOp a.eval o).run C.P w= .ok (.value (.slice (some ⟨w.heap.size,0,none⟩) n.toNat n.toNat)) (w.alloc (.cells (madeCells z'.cells (n.toNat *info.size)) e)):=by
  simp only[execOp,ho,G0,H0,Sem.run_bind,IV,Result.andThen_ok];rfl
 have hnm:n.toNat≤maxLen:=by unfold maxLen;unfold bA at RW;omega
 have YV:(madeCells z'.cells (n.toNat *info.size)).size=n.toNat *sz tn:=by rw[size_madeCells,hi2]
 refine nC v6 (hr.newRow hi ⟨w.heap.size,n.toNat,n.toNat,false⟩ (λ_=>rfl) _ (zV _ _) (λb hb=>uU _ _ _ hb) (λ_=>by simp) (c:= .arr tn (List.replicate n.toNat x0)) (λbad KV=>?_) (λbad=>?_) hk)
 ·refine⟨by simp, .inr ⟨rfl,zf7 (hC.tys e tn K3),Nat.le_refl _,hnm,λj hj=>⟨World.frozen?_alloc_new _ _ _ _,?_⟩,λi' rW j hj=>?_⟩⟩
  ·have sX:j<n.toNat *sz tn:=hj;rw[cO w _ e j (by omega)];rfl
  ·have NW:i'<n.toNat:=by simpa using rW
   have OV:i' *sz tn+j<(madeCells z'.cells (n.toNat *info.size)).size:=by
    rw[YV];have:(i'+1) *sz tn≤n.toNat *sz tn:=Nat.mul_le_mul_right _ NW;rw[Nat.add_mul,Nat.one_mul]at this;omega
   refine⟨_,cO w _ e _ OV,?_⟩;have aX:j<z'.cells.size:=by omega
   have tZ:(madeCells z'.cells (n.toNat *info.size)).getD (i' *sz tn+j) undef=z'.cells.getD j undef:=by
    rw[Array.getD_eq_getD_getElem?,Array.getElem?_eq_getElem OV,Array.getD_eq_getD_getElem?,Array.getElem?_eq_getElem aX];simp only[madeCells,Array.getElem_map,Array.getElem_range,Option.getD_some]
    have cAA:(i' *sz tn+j) % z'.cells.size=j:=by
     rw[m6,Nat.add_comm,Nat.mul_comm,Nat.add_mul_mod_self_left,Nat.mod_eq_of_lt hj]
    rw[cAA,getElem!_pos z'.cells j aX]
   rw[tZ,List.getElem_replicate];have hs:=JF tn nY;have K5:=hs.get j (by simpa using aX) (by rw[oD];exact hj);rw[VS _ _ _ (by rw[oD];exact hj)];refine KV _ _ (VR.sub K5 ?_);rw[List.getElem_map,Array.getD_eq_getD_getElem?,Array.getElem?_eq_getElem aX];simpa using zdG z'.cells[j]
 ·exact .ow i ⟨w.heap.size,n.toNat,n.toNat,false⟩ (RA _ _ _) (Nat.le_refl _) hnm rfl
def zsY(hC:UF C)(src d:TypeId)(x:Operand)(ho:o.op= .convert src d x)(hi:ρ i=none)(hk:qB C i o st some=some st'):NC C.P o a w (JC C w0 outer own i ρ st'):=by
 simp only[qB,ho]at hk;have hx:=hr.opd x
 have fW:∀v w',(convert src d (a.eval x)).run C.P w= .ok v w'→(execOp a.eval o).run C.P w= .ok (.value v) w':=λv w' h1=>by
  simp[execOp,ho,h1]
 split at hk
 ·rename_i k0 k k1 n h1 h2 h3;rw[h3]at hx;generalize hv:a.eval x=v at hx fW;cases hx;refine nC (fW (.int k (k.wrap n)) w ?_) (hr.after (.int _ _ (iS _ _)) hk);simp[convert,run_underlying h1,run_underlying h2,Conv.intToInt]
 ·rename_i e s h1 h2 h3;split at hk
  case h_2=>cases hk
  rename_i h4 h5;rw[h3]at hx;cases RW:Nat.ble s.length bA
  case false=>simp[RW]at hk
  simp only[RW,cond_true]at hk;have RW:=Nat.le_of_ble_eq_true RW;generalize hv:a.eval x=v at hx fW;cases hx with
  | str _ hs=>
  obtain⟨info,z,pZ,hi2,M5,E4,m6⟩:=hC.ok e .byte h4;have IV:=run_bytes_of_string (P:=C.P) w src d e ⟨s.toArray⟩ h1 h2 h5;have hss:(ByteArray.mk s.toArray).size=s.length:=by simp[ByteArray.size]
  rw[hss]at IV;have zY:=grownCap_ge w s.length 0 e;have N5:grownCap w s.length 0 e≤maxLen:=grownCap_le_maxLen w s.length 0 e hs;generalize M0:grownCap w s.length 0 e=cap at IV zY N5;have K4:(bytesRow ⟨s.toArray⟩ cap).size=cap:=by simp[bytesRow,hss];omega
  refine nC (fW _ _ IV) (hr.newRow hi ⟨w.heap.size,s.length,cap,false⟩ (λ_=>rfl) _ (Wx.trans (zl0 w) (zV _ _))
   (λb hb=>uU w.drew _ b hb) (λ_=>by simp) (c:= .arr .byte s) (λbad KV=>?_) (λbad=>?_) hk)
  ·have eW:∀j,j<cap→(w.drew.alloc (.cells (bytesRow ⟨s.toArray⟩ cap) e ((bytesRow ⟨s.toArray⟩ cap).size,(bytesRow ⟨s.toArray⟩ cap).size+1))).cell? (at_ w.heap.size j)=(bytesRow ⟨s.toArray⟩ cap)[j]?:=λj hj=>by
    have hh:(w.drew.alloc (.cells (bytesRow ⟨s.toArray⟩ cap) e ((bytesRow ⟨s.toArray⟩ cap).size,(bytesRow ⟨s.toArray⟩ cap).size+1))).heap[w.heap.size]?=some (.cells (bytesRow ⟨s.toArray⟩ cap) e ((bytesRow ⟨s.toArray⟩ cap).size,(bytesRow ⟨s.toArray⟩ cap).size+1)):=by
     show(w.heap.push _)[w.heap.size]?=_
     simp
    unfold World.cell? at_;rw[hh];rfl
   refine⟨rfl, .inr ⟨rfl,⟨_,e,_,by show(w.heap.push _)[w.heap.size]?=_;rw[Array.getElem?_push_size],hC.tys e .byte h4⟩,zY,N5,λj hj=>?_,λi' rW j hj=>?_⟩⟩
   ·have sX:j<cap:=by simpa[sz]using hj
    refine⟨?_,?_⟩
    ·have:=World.frozen?_alloc_mark w.drew (bytesRow ⟨s.toArray⟩ cap) e (bytesRow ⟨s.toArray⟩ cap).size ((bytesRow ⟨s.toArray⟩ cap).size+1) j;rw[World.size_drew]at this;show World.frozen? _ ⟨w.heap.size,j,none⟩=false
     rw[this,K4];simp;omega
    ·rw[eW j sX,Array.getElem?_eq_getElem (by omega)];rfl
   ·have z6:j=0:=by simp[sz]at hj;exact hj
    subst z6;have J3:i'<s.length:=rW;refine⟨.int .u8 (s[i'].toNat:Int),?_,?_⟩
    ·simp only[sz,Nat.mul_one,Nat.add_zero];rw[eW i' (by omega),bytesRow_at _ _ _ (by simpa using J3)];simp
    ·have:=s[i'].toNat_lt;exact .int _ _ ⟨by simp[IntKind.min,IntKind.signed],by simp[IntKind.max,IntKind.signed,IntKind.bits];omega⟩
  ·exact .ow i ⟨w.heap.size,s.length,cap,false⟩ (RA _ _ _) zY N5 rfl
 ·rename_i e h1 h2;split at hk
  case h_2=>cases hk
  rename_i l h5 h4;cases RW:Nat.ble l.length bA
  case false=>simp[RW]at hk
  simp only[RW,cond_true]at hk;have RW:=Nat.le_of_ble_eq_true RW;obtain⟨ao,cap,hv,V0⟩:=zln hr hx h4;refine nC (fW (.string ⟨l.toArray⟩) w ?_) (hr.after (.str l (by unfold bA at RW;unfold maxLen;omega)) hk);rw[hv]
  have empty:∀(ao:Option Addr) (c:Nat),(convert src d (.slice ao 0 c)).run C.P w= .ok (.string ⟨#[]⟩) w:=λao c=>by
   cases ao with
   | none=>exact run_convert_bytes_nil w src e h1 h5 0 c d h2
   | some ad=>exact run_convert_bytes_back w src d e ad c [] h1 h5 h2 (λj hj=>by simp at hj)
  rcases V0 with rfl | ⟨b,off,rfl,hc⟩
  ·exact empty ao cap
  ·refine run_convert_bytes_back w src d e (at_ b off) cap l h1 h5 h2 λj hj=>?_;obtain⟨u,c1,c2⟩:=hc j hj 0 (by simp[sz]);simp only[sz,Nat.mul_one,Nat.add_zero]at c1;rw[vG,c1];have:(enc .byte l[j]).getD 0 .undef= .int .u8 (l[j].toNat:Int):=rfl;rw[this]at c2;cases c2;rfl
 ·rename_i e0 e r h1 h2 h3;split at hk
  case h_2=>cases hk
  rename_i y l hsd h5 h4;have hsd:=Nat.eq_of_beq_eq_true hsd;subst hsd;have he:e0=e:=by rw[h1]at h2;cases h2;rfl
  subst he;rw[h3]at hx;obtain⟨ri,hρ,ZV,m4⟩:=hr.heap.rows r _ h4;obtain⟨MV,V0⟩:=ZV;generalize hv:a.eval x=v at hx fW;cases hx with
  | owN _ ri' ao W0 hn lW=>
   rw[hρ]at W0;cases W0;rw[hn]at MV;simp at MV
  | ow _ ri' W0 hn hc lW=>
  rw[hρ]at W0;cases W0
  rcases V0 with⟨A6,_⟩ | ⟨_,ce,_,_,PX,QX⟩
  ·rw[lW]at A6;cases A6
  have L3:0<ri.cap *sz .byte:=by
   have:0<ri.n:=by rw[MV];simp
   simp[sz];omega
  obtain⟨c,elem,lo,rW,O2⟩:∃c elem lo rW,w.heap[ri.b]?=some (.cells c elem (lo,rW)):=by
   have:=(PX 0 L3).2;unfold World.cell? at_ at this;simp only at this;split at this
   ·rename_i c elem fr hb;exact⟨c,elem,fr.1,fr.2,hb⟩
   ·cases this
  have lX:(w.freeze ⟨ri.b,c.size,none⟩ 1).heap=w.heap.modify ri.b fun
    | .cells c' elem (lo,hi)=> .cells c' elem (if lo==hi then(c.size,c.size+1)else(min lo c.size,max hi (c.size+1)))
    | o=>o:=by
   unfold World.freeze;rw[if_neg (by decide)];rfl
  generalize hW:w.freeze ⟨ri.b,c.size,none⟩ 1=W at lX
  have L4:∀b,b≠ri.b→W.heap[b]?=w.heap[b]?:=λb hb=>by
   rw[lX,Array.getElem?_modify,if_neg (Ne.symm hb)]
  have eW:∀j,W.cell? (at_ ri.b j)=w.cell? (at_ ri.b j):=λj=>by
   unfold World.cell? at_;simp only[lX,Array.getElem?_modify,O2,if_true,Option.map_some]
  have ceW:MF W ri.b .byte:=by
   obtain⟨c',e',z',k1,k2⟩:=ce;rw[O2]at k1;cases k1;exact⟨c,elem,_,by rw[lX,Array.getElem?_modify,if_pos rfl,O2];rfl,k2⟩
  have IV:(convert src src (.slice (some (at_ ri.b 0)) ri.n ri.cap)).run C.P w= .ok (.slice (some (at_ ri.b 0)) ri.n ri.cap) W:=by
   have hsh:w.shape? ri.b=some (elem,c.size):=by simp[World.shape?,O2]
   simp[convert,run_underlying h1,run_underlying h5,markStringish,at_,hsh];exact hW
  have EZ:Wx w W:=by
   rw[←hW];unfold World.freeze;rw[if_neg (by decide)];exact⟨rfl,rfl,rfl,by simp⟩
  have cX:=hr.heap.write h4 hρ lW W EZ (by rw[lX];simp) L4 (.box []) (λ_=>⟨lW,λj hj=>by simp at hj⟩)
  have gW:=cX.1.less (h':=CA st.h r none) (λq row' hq=>by
   by_cases mW:q=r
   ·subst mW;rw[RA]at hq;cases hq
   ·rw[DA _ _ _ _ mW]at hq;exact⟨row',by rw[DA _ _ _ _ mW];exact hq,rfl,λh=>h⟩)
  have uZ:=hr.turn gW.1 (λu d hu=>gW.2 _ _ (cX.2 u d hu))
  have R8:¬tA outer ρ (CA st.h r none) ri.b:=by
   rintro(hb | ⟨q,row,qi,q1,q2,q3,q4,q5⟩)
   ·exact(m4 lW).1.1 hb
   ·by_cases mW:q=r
    ·subst mW;rw[RA]at q1;cases q1
    ·rw[DA _ _ _ _ mW]at q1;exact mW (hr.heap.inj q r row _ qi ri q1 h4 q3 hρ q4 lW q5)
  refine nC (fW _ _ IV) (uZ.after ?_ hk);have M4:ri.n=(y :: l).length:=MV;rw[M4];rw[M4]at hn;refine .slC .byte (y :: l) ri.b 0 ri.cap (λi _=> .int .u8 ((((y :: l).getD i 0:UInt8).toNat:Nat):Int)) R8 hn hc (λ_=> .inr ceW) (λi hi j hj=>?_) (λi hi j hj=>?_)
  ·have z6:j=0:=by simp[sz]at hj;exact hj
   subst z6;obtain⟨u,c1,c2⟩:=QX i hi 0 (by simp[sz]);rw[eW];simp only[Nat.zero_add];rw[c1];have e2:(enc .byte (y :: l)[i]).getD 0 .undef= .int .u8 ((y :: l)[i].toNat:Int):=rfl;rw[e2]at c2;cases c2;have e3:(y :: l).getD i (0:UInt8)=(y :: l)[i]:=by rw[List.getD_eq_getElem?_getD,List.getElem?_eq_getElem hi];rfl
   rw[e3]
  ·have z6:j=0:=by simp[sz]at hj;exact hj
   subst z6;have e3:(y :: l).getD i (0:UInt8)=(y :: l)[i]:=by rw[List.getD_eq_getElem?_getD,List.getElem?_eq_getElem hi];rfl
   rw[e3];have:=UInt8.toNat_lt (y :: l)[i];show VR _ _ _ _ (.int .u8 ((((y :: l)[i]:UInt8).toNat:Nat):Int))
   exact .int _ _ ⟨by simp[IntKind.min,IntKind.signed],by simp[IntKind.max,IntKind.signed,IntKind.bits];omega⟩
 ·cases hk
end
end Go.D
namespace Go.D
variable [jA]
section
variable {C:Cx} {w0:World} {outer own:Nat→Prop} {ρ:Nat→Option RI} {st st':St} {a:Act} {w:World} {h:Nat→Option uA}
def Out(base N r:Nat):Prop:=¬(base≤r∧r<base+N)
omit [jA]in
def xC(ow:List Nat)(base:Nat)(h:Nat→Option uA):∀(es:List V) (p r:Nat),cB ow base h p es r=match cB ow base (λ_=>none) p es r with | some x=>some x | none=>h r
 | [],p,r=>rfl
 | e :: es,p,r=>by
  have ih:=xC ow base h es (p+1) r;cases e<;>simp only[cB]<;>try exact ih
  cases hb:ow.any (Nat.beq p)
  ·simpa using ih
  ·simp only[cond_true]
   by_cases hr:r=base+p
   ·subst hr;simp[RA]
   ·simp only[DA _ _ _ _ hr];exact ih
omit [jA]in
def dE(ow:List Nat)(base:Nat):∀(es:List V) (p r:Nat),(r<base+p∨base+p+es.length≤r)→cB ow base (λ_=>none) p es r=none
 | [],p,r,_=>rfl
 | e :: es,p,r,hr=>by
  have ih:=dE ow base es (p+1) r (by simp at hr;omega);cases e<;>simp only[cB]<;>try exact ih
  cases hb:ow.any (Nat.beq p)
  ·simpa using ih
  ·simp only[cond_true];rw[DA _ _ _ _ (by simp at hr;omega)];exact ih
omit [jA]in
def DF(ow:List Nat)(base:Nat):∀(es:List V) (p:Nat),(SA ow base p es).length=es.length
 | [],p=>rfl
 | e :: es,p=>by cases e<;>simp[SA,DF ow base es (p+1)]
def mH(h g:Nat→Option uA):Prop:=∀r row,h r=some row→g r=some row
omit [jA]in
def zfc{c:V}{h g:Nat→Option uA}{x:V×List Nat}(hg:mH h g)(hf:IG h c=some x):IG g c=some x∧∀r∈x.2,∃row,h r=some row:=by
 unfold IG at hf;split at hf
 ·rename_i r;split at hf
  ·rename_i t l m hr;refine⟨by simp only[IG,hg _ _ hr];exact hf,?_⟩;cases hm:m.isLock<;>simp[hm]at hf
   subst hf;intro q hq;simp at hq;subst hq;exact⟨_,hr⟩
  ·cases hf
 ·rename_i r t off len;split at hf
  ·rename_i t' l m hr;refine⟨by simp only[IG,hg _ _ hr];exact hf,?_⟩;cases hm:m.isLock
   ·simp only[hm,cond_false]at hf;split at hf
    ·simp at hf;subst hf;intro q hq;simp at hq;subst hq;exact⟨_,hr⟩
    ·cases hf
   ·simp[hm]at hf
  ·cases hf
 ·cases hb:wG 8 c<;>simp[hb]at hf
  subst hf;refine⟨?_,by simp⟩;unfold IG;split
  ·simp[wG]at hb
  ·simp[wG]at hb
  ·simp[hb]
omit [jA]in
def zfe{h g:Nat→Option uA}(hg:mH h g):∀{cs:List V} {x:List V×List Nat},bG h cs=some x→bG g cs=some x∧∀r∈x.2,∃row,h r=some row
 | [],x,hf=>by simp[bG]at hf;subst hf;simp[bG]
 | c :: cs,x,hf=>by
  simp only[bG]at hf;split at hf
  ·cases hf
  rename_i c' i h1;split at hf
  ·cases hf
  rename_i cs' j h2;cases hf;obtain⟨k1,k2⟩:=zfc hg h1;obtain⟨k3,k4⟩:=zfe hg h2;refine⟨by simp[bG,k1,k3],λr hr=>?_⟩
  rcases List.mem_append.1 hr with hr | hr
  ·exact k2 r hr
  ·exact k4 r hr
omit [jA]in
def zli{c:V}{h g:Nat→Option uA}{x:V×List Nat}(hg:mH h g)(hf:rH h c=some x):rH g c=some x∧∀r∈x.2,∃row,h r=some row:=by
 unfold rH at hf;split at hf
 ·split at hf
  ·rename_i cs cs' i h1;cases hf;obtain⟨k1,k2⟩:=zfe hg h1;exact⟨by simp[rH,k1],k2⟩
  ·cases hf
 ·rename_i r off;split at hf
  ·rename_i cs m hr;cases hb:(m.isLock||cs.isEmpty)
   case true=>simp[hb]at hf
   simp only[hb,cond_false]at hf;split at hf
   ·rename_i cs' i h1;cases hf;obtain⟨k1,k2⟩:=zfe hg h1;refine⟨by simp[rH,hg _ _ hr,hb,k1],λq hq=>?_⟩
    rcases List.mem_cons.1 hq with rfl | hq
    ·exact⟨_,hr⟩
    ·exact k2 q hq
   ·cases hf
  ·cases hf
 ·rename_i h1 h2;obtain⟨k1,k2⟩:=zfc hg hf;refine⟨?_,k2⟩;unfold rH;split
  ·exact absurd rfl (h1 _)
  ·exact absurd rfl (h2 _ _)
  ·exact k1
omit [jA]in
def zfZ{h g:Nat→Option uA}(hg:mH h g)(ids:List Nat):mH (DC h ids) (DC g ids):=by
 intro r row hr;rw[AF]at hr⊢
 by_cases hm:r∈ids
 ·simp only[hm,if_true,Option.map_eq_some_iff]at hr⊢;obtain⟨row',h1,rfl⟩:=hr;exact⟨row',hg _ _ h1,rfl⟩
 ·simp only[hm,if_false]at hr⊢;exact hg _ _ hr
def zfW{bad bad':Nat→Prop}{ri:RI}{ρ':Nat→Option RI}{t:TN}{l:List (El t)}(hr:gE w ρ bad ri (.arr t l))
  (hv:∀u d,VR w ρ bad u d→VR w ρ' bad' u d):gE w ρ' bad' ri (.arr t l):=hr.keep (λ_=>rfl) hv
def rB.rename(hh:rB w0 outer own ρ h w){r i:Nat}{t:TN}{l:List (El t)}{ri:RI}(hr:h r=some ⟨.arr t l, .own⟩)(hρ:ρ r=some ri)(hi:ρ i=none):
  rB w0 outer own (CA ρ i (some ri)) (CA (CA h r none) i (some ⟨.arr t l, .own⟩)) w∧
   ∀u d,VR w ρ (tA outer ρ h) u d→VR w (CA ρ i (some ri)) (tA outer (CA ρ i (some ri)) (CA (CA h r none) i (some ⟨.arr t l, .own⟩))) u d:=by
 obtain⟨ri',h1,h2,h3⟩:=hh.rows r _ hr;rw[hρ]at h1;cases h1;cases hn:ri.nl
 ·exact hh.move hr hρ hn hi rfl hn w (Wx.refl _) rfl (λ_ _=>rfl) _ λbad hv=>zfW h2 hv
 ·obtain⟨k1,k2⟩:=hh.less (h':=CA h r none) (λq row' hq=>by
   by_cases mW:q=r
   ·subst mW;rw[RA]at hq;cases hq
   ·rw[DA _ _ _ _ mW]at hq;exact⟨row',hq,rfl,id⟩)
  obtain⟨k3,k4⟩:=k1.alloc i hi ri (λh=>by rw[hn]at h;cases h) w (Wx.refl _) (λ_ _=>rfl) (λh=>by rw[hn]at h;cases h) (.arr t l)
   λhv=>zfW (zfW h2 k2) hv
  exact⟨k3,λu d hu=>k4 _ _ (k2 _ _ hu)⟩
def rB.empty(hh:rB w0 outer own ρ h w){i:Nat}(t:TN)(hi:ρ i=none):
  rB w0 outer own (CA ρ i (some ⟨0,0,0,true⟩)) (CA h i (some ⟨.arr t [], .own⟩)) w∧
   ∀u d,VR w ρ (tA outer ρ h) u d→VR w (CA ρ i (some ⟨0,0,0,true⟩)) (tA outer (CA ρ i (some ⟨0,0,0,true⟩)) (CA h i (some ⟨.arr t [], .own⟩))) u d:=
 hh.alloc i hi ⟨0,0,0,true⟩ (λh=>by cases h) w (Wx.refl _) (λ_ _=>rfl) (λh=>by cases h) (.arr t []) λ_=>⟨rfl, .inl ⟨rfl,rfl⟩⟩
def rB.cut(hh:rB w0 outer own ρ h w){r i len:Nat}{t:TN}{l:List (El t)}{v:Value}(hr:h r=some ⟨.arr t l, .own⟩)(hi:ρ i=none)(hv:VR w ρ (tA outer ρ h) v (.ov r t 0 len)):
  ∃ri',rB w0 outer own (CA ρ i (some ri')) (CA (CA h r none) i (some ⟨.arr t (l.take len), .own⟩)) w∧
   (∀u d,VR w ρ (tA outer ρ h) u d→VR w (CA ρ i (some ri')) (tA outer (CA ρ i (some ri')) (CA (CA h r none) i (some ⟨.arr t (l.take len), .own⟩))) u d)∧
   VR w (CA ρ i (some ri')) (tA outer (CA ρ i (some ri')) (CA (CA h r none) i (some ⟨.arr t (l.take len), .own⟩))) v (.ow i):=by
 obtain⟨ri,hρq,ZV,_⟩:=hh.rows r _ hr;have jZ:ri.n=l.length:=ZV.1;obtain⟨ao,cap,h1,h2,h3,h4,h5⟩:=hv.ov_inv hρq
 rcases h3 with⟨rfl,rfl⟩ | ⟨rfl,lW,hc⟩
 ·obtain⟨k1,k2⟩:=hh.less (h':=CA h r none) (λq row' hq=>by
   by_cases mW:q=r
   ·subst mW;rw[RA]at hq;cases hq
   ·rw[DA _ _ _ _ mW]at hq;exact⟨row',hq,rfl,id⟩)
  obtain⟨n1,n2⟩:=k1.empty t hi;rw[List.take_zero];exact⟨⟨0,0,0,true⟩,n1,λu d hu=>n2 _ _ (k2 _ _ hu),by rw[h1];exact .owN _ ⟨0,0,0,true⟩ ao (RA _ _ _) rfl rfl⟩
 ·rw[Nat.zero_mul]at h1
  rcases ZV.2 with h6 | ⟨_,ce,c1,c2,c3,c4⟩
  ·rw[lW]at h6;cases h6.1
  obtain⟨n1,n2⟩:=hh.move hr hρq lW hi (ri':=⟨ri.b,len,cap,false⟩) rfl rfl w (Wx.refl _) rfl (λ_ _=>rfl) (.arr t (l.take len)) λbad KV=>by
   refine⟨by simp;omega, .inr ⟨rfl,ce,h4,h5,λj hj=>c3 j ?_,λi hi j hj=>?_⟩⟩
   ·have:cap *sz t≤ri.cap *sz t:=Nat.mul_le_mul_right _ (by omega);have hj:j<cap *sz t:=hj;omega
   ·obtain⟨u,f1,f2⟩:=c4 i (by simp at hi;omega) j hj;refine⟨u,f1,?_⟩;rw[List.getElem_take];exact KV _ _ f2
  exact⟨_,n1,n2,by rw[h1];exact .ow _ ⟨ri.b,len,cap,false⟩ (RA _ _ _) h4 h5 rfl⟩
structure zmJ(w0:World)(outer own:Nat→Prop)(w:World)(ow:List Nat)(base N p:Nat)(ρ:Nat→Option RI)(g h h':Nat→Option uA)(es:List V)(u:Nat→Value)
  (ρ':Nat→Option RI) (g':Nat→Option uA):Prop where
 heap:rB w0 outer own ρ' g' w
 lies:mH h' g'
 out:∀r,Out base N r→ρ' r=ρ r∧(h r=none→g' r=g r)
 less:∀r,h r=none→h' r=none
 before:∀q,q<p→g' (base+q)=g (base+q)∧ρ' (base+q)=ρ (base+q)
 new:∀q,p≤q→q<N→g' (base+q)=cB ow base (λ_=>none) p es (base+q)
 ext:∀r ri,ρ r=some ri→ρ' r=some ri
 keep:∀v d,VR w ρ (tA outer ρ g) v d→VR w ρ' (tA outer ρ' g') v d
 vals:∀j (hj:j<(SA ow base p es).length),VR w ρ' (tA outer ρ' g') (u j) (SA ow base p es)[j]
 closed:∀j (hj:j<es.length),mD es[j]∧(es[j]).leaf=true
omit [jA]in
def aC.closed1{c e:V}(hs:XH c e)(h:mD c∧c.leaf=true):mD e∧e.leaf=true:=by
 cases hs with
 | refl=>exact h
 | byte n=>exact⟨λ_=> .int _ _,rfl⟩
 | nil t=>exact⟨EM _ _,rfl⟩
def mV(ow:List Nat)(base N:Nat):∀(cs:List V) (p:Nat) (h h':Nat→Option uA) (cs' es:List V) (ρ:Nat→Option RI) (g:Nat→Option uA) (u:Nat→Value),
  bE ow p cs h=some (cs',h')→aC cs' es→p+cs.length≤N→rB w0 outer own ρ g w→
  (∀j (hj:j<cs.length),VR w ρ (tA outer ρ g) (u j) cs[j])→mH h g→(∀q,q<N→h (base+q)=none)→
  (∀q,p≤q→q<N→ρ (base+q)=none)→∃ρ' g',zmJ w0 outer own w ow base N p ρ g h h' es u ρ' g'∧es.length=cs.length
 | [],p,h,h',cs',es,ρ,g,u,ht,hs,hN,hh,hv,hg,OW,hf=>by
  simp only[bE,Option.some.injEq,Prod.mk.injEq]at ht;obtain⟨rfl,rfl⟩:=ht;cases hs;refine⟨ρ,g,⟨hh,hg,λr hr=>⟨rfl,λ_=>rfl⟩,λ_ h=>h,λq hq=>⟨rfl,rfl⟩,λq h1 h2=>?_,λ_ _ h=>h,λ_ _ h=>h,λj hj=>by simp[SA]at hj,λj hj=>by simp at hj⟩,rfl⟩;cases O5:g (base+q)with
  | none=>rfl
  | some row=>obtain⟨ri,h3,_⟩:=hh.rows _ _ O5;rw[hf q h1 h2]at h3;cases h3
 | c :: cs,p,h,h',cs',es,ρ,g,u,ht,hs,hN,hh,hv,hg,OW,hf=>by
  simp only[List.length_cons]at hN;have NW:¬Out base N (base+p):=λho=>ho ⟨by omega,by omega⟩
  have X0:∀r row,h r=some row→Out base N r:=λr row hr=>by
   rintro⟨h1,h2⟩;have:=OW (r - base) (by omega);rw[show base+(r - base)=r by omega,hr]at this;cases this
  -- behind a step
  have go:∀(ρ1:Nat→Option RI) (g1 h1:Nat→Option uA) (cs1 es1:List V) (e:V),bE ow (p+1) cs h1=some (cs1,h')→aC cs1 es1→es=e :: es1→rB w0 outer own ρ1 g1 w→
    (∀v d,VR w ρ (tA outer ρ g) v d→VR w ρ1 (tA outer ρ1 g1) v d)→mH h1 g1→(∀r,Out base N r→ρ1 r=ρ r∧(h r=none→g1 r=g r))→(∀r,h r=none→h1 r=none)→(∀q,q<p→g1 (base+q)=g (base+q)∧ρ1 (base+q)=ρ (base+q))→
    (∀q,p+1≤q→q<N→ρ1 (base+q)=ρ (base+q))→(∀r ri,ρ r=some ri→ρ1 r=some ri)→(mD e∧e.leaf=true)→
    (∀ (ρ':Nat→Option RI) (g':Nat→Option uA),(∀ v d,VR w ρ1 (tA outer ρ1 g1) v d→VR w ρ' (tA outer ρ' g') v d)→
     ∃(hl:0<(SA ow base p (e :: es1)).length),VR w ρ' (tA outer ρ' g') (u 0) (SA ow base p (e :: es1))[0])→
    cB ow base (λ_=>none) p (e :: es1) (base+p)=g1 (base+p)→(∀q,q≠p→cB ow base (λ_=>none) p (e :: es1) (base+q)=cB ow base (λ_=>none) (p+1) es1 (base+q))→
    (∀j (hj:j<(SA ow base (p+1) es1).length),∃(hl:j+1<(SA ow base p (e :: es1)).length),(SA ow base p (e :: es1))[j+1]=(SA ow base (p+1) es1)[j])→
    ∃ρ' g',zmJ w0 outer own w ow base N p ρ g h h' es u ρ' g'∧es.length=(c :: cs).length:=by
   rintro ρ1 g1 h1 cs1 es1 e X1 IX rfl D3 XZ C3 ho1 vZ N3 T8 Y1 he BX U1 jZ hgl1
   obtain⟨ρ',g',T,MV⟩:=mV ow base N cs (p+1) h1 h' cs1 es1 ρ1 g1 (λj=>u (j+1)) X1 IX (by omega) D3
    (λj hj=>XZ _ _ (hv (j+1) (by simp;omega))) C3 (λq hq=>vZ _ (OW q hq))
    (λq h1 h2=>by rw[T8 q h1 h2];exact hf q (by omega) h2)
   refine⟨ρ',g',⟨T.heap,T.lies,λr hr=>⟨(T.out r hr).1.trans (ho1 r hr).1,λhn=>((T.out r hr).2 (vZ r hn)).trans ((ho1 r hr).2 hn)⟩,λr hr=>T.less r (vZ r hr),λq hq=>?_,λq h1 h2=>?_,λr ri hr=>T.ext _ _ (Y1 r ri hr),λv d hd=>T.keep _ _ (XZ _ _ hd),λj hj=>?_,λj hj=>?_⟩,by simp[MV]⟩
   ·obtain⟨b1,b2⟩:=T.before q (by omega);exact⟨b1.trans (N3 q hq).1,b2.trans (N3 q hq).2⟩
   ·by_cases hq:q=p
    ·subst hq;rw[(T.before q (by omega)).1];exact U1.symm
    ·rw[T.new q (by omega) h2,jZ q hq]
   ·cases j with
    | zero=>exact(BX ρ' g' T.keep).2
    | succ j=>
     have sX:j<(SA ow base (p+1) es1).length:=by
      rw[DF]at hj⊢;simpa using hj
     obtain⟨_,h2⟩:=hgl1 j sX;rw[h2];exact T.vals j sX
   ·cases j with
    | zero=>exact he
    | succ j=>exact T.closed j (by simpa using hj)
  simp only[bE]at ht;have N4:ρ (base+p)=none:=hf p (Nat.le_refl _) (by omega)
  have hgp:g (base+p)=none:=by
   cases O5:g (base+p)with
   | none=>rfl
   | some row=>obtain⟨ri,h3,_⟩:=hh.rows _ _ O5;rw[N4]at h3;cases h3
  have YZ:=hv 0 (by simp);simp only[List.getElem_cons_zero]at YZ;cases hb:ow.any (Nat.beq p)
  ·simp only[hb,cond_false]at ht;split at ht
   case h_2=>cases ht
   rename_i c' ids FZ;split at ht
   case h_2=>cases ht
   rename_i cs1 h1 X1;simp only[Option.some.injEq,Prod.mk.injEq]at ht;obtain⟨rfl,rfl⟩:=ht;cases hs with
   | cons OY IX=>
   rename_i e es1;obtain⟨hfz',qZ⟩:=zfc hg FZ;simp only at qZ;obtain⟨k1,k2⟩:=hh.mark ids;have k3:=zfE hh YZ hfz';have Z1:∀r,h r=none→r∉ids:=λr hn hm=>by obtain⟨row,h5⟩:=qZ r hm;rw[hn]at h5;cases h5
   have he:=aC.closed1 OY k3.2;have hl:SA ow base p (e :: es1)=e :: SA ow base (p+1) es1:=by cases e<;>simp[SA,hb]
   have B6:∀q,cB ow base (λ_=>none) p (e :: es1) q=cB ow base (λ_=>none) (p+1) es1 q:=λq=>by cases e<;>simp[cB,hb]
   refine go ρ (DC g ids) (DC h ids) cs1 es1 e X1 IX rfl k1 k2 (zfZ hg ids) (λr hr=>⟨rfl,λhn=>?_⟩) (λr hn=>?_) (λq hq=>⟨?_,rfl⟩) (λ_ _ _=>rfl) (λ_ _ h=>h) he (λρ' g' hk=>?_) ?_ (λq hq=>B6 _) (λj hj=>?_)
   ·rw[AF,if_neg (Z1 r hn)]
   ·rw[AF,if_neg (Z1 r hn)];exact hn
   ·rw[AF,if_neg (Z1 _ (OW q (by omega)))]
   ·simp only[hl];exact⟨by simp,(VR.sub OY (hk _ _ k3.1))⟩
   ·rw[B6,dE _ _ _ _ _ (by omega),AF,if_neg (Z1 _ (OW p (by omega))),hgp]
   ·simp only[hl];exact⟨by simpa using hj,by simp⟩
  ·simp only[hb,cond_true]at ht;split at ht
   ·rename_i r;split at ht
    case h_2=>cases ht
    rename_i t l JV;split at ht
    case h_2=>cases ht
    rename_i cs1 h1 X1;simp only[Option.some.injEq,Prod.mk.injEq]at ht;obtain⟨rfl,rfl⟩:=ht;cases hs with
    | cons OY IX=>
    rename_i e es1;cases OY;have ZV:=X0 r _ JV;have U8:g r=some ⟨.arr t l, .own⟩:=hg _ _ JV;obtain⟨ri,hρr,_,_⟩:=hh.rows r _ U8;obtain⟨k1,k2⟩:=hh.rename U8 hρr N4;have hrne:r≠base+p:=by rintro rfl;exact NW ZV
    have hl:SA ow base p (.sl t l :: es1)= .ow (base+p) :: SA ow base (p+1) es1:=by simp[SA,hb]
    refine go _ _ (CA h r none) cs1 es1 (.sl t l) X1 IX rfl k1 k2 (λq row hq=>?_) (λq hq=>⟨DA _ _ _ _ ?_,λhn=>?_⟩) (λq hn=>?_) (λq hq=>⟨?_,DA _ _ _ _ (by omega)⟩) (λq h1 _=>DA _ _ _ _ (by omega))
     (λq qi hq=>by rw[DA];exact hq;rintro rfl;rw[N4]at hq;cases hq) ⟨EM _ _,rfl⟩ (λρ' g' hk=>?_) ?_ (λq hq=>?_) (λj hj=>?_)
    ·by_cases mW:q=r
     ·subst mW;rw[RA]at hq;cases hq
     ·rw[DA _ _ _ _ mW]at hq;have:q≠base+p:=by rintro rfl;exact NW (X0 _ _ hq)
      rw[DA _ _ _ _ this,DA _ _ _ _ mW];exact hg _ _ hq
    ·rintro rfl;exact NW hq
    ·have C6:q≠base+p:=by rintro rfl;exact NW hq
     have mW:q≠r:=by rintro rfl;rw[JV]at hn;cases hn
     rw[DA _ _ _ _ C6,DA _ _ _ _ mW]
    ·by_cases mW:q=r
     ·subst mW;exact RA _ _ _
     ·rw[DA _ _ _ _ mW];exact hn
    ·rw[DA _ _ _ _ (by omega),DA];rintro rfl;exact ZV ⟨by omega,by omega⟩
    ·simp only[hl];refine⟨by simp,?_⟩
     have:VR w (CA ρ (base+p) (some ri)) (tA outer (CA ρ (base+p) (some ri)) (CA (CA g r none) (base+p) (some ⟨.arr t l, .own⟩))) (u 0) (.ow (base+p)):=by
      rcases YZ.ow_inv hρr with⟨e1,e2,e3,e4⟩ | ⟨ao,e1,e2,e3⟩
      ·rw[e1];exact .ow _ ri (RA _ _ _) e3 e4 e2
      ·rw[e1];exact .owN _ ri ao (RA _ _ _) e3 e2
     exact hk _ _ this
    ·simp only[cB,hb,cond_true,RA]
    ·simp only[cB,hb,cond_true];rw[DA _ _ _ _ (by omega)]
    ·simp only[hl];exact⟨by simpa using hj,by simp⟩
   ·split at ht
    case h_2=>cases ht
    rename_i cs1 h1 X1;simp only[Option.some.injEq,Prod.mk.injEq]at ht;obtain⟨rfl,rfl⟩:=ht;have I0:u 0= .slice none 0 0:=by generalize u 0=x at YZ;cases YZ;rfl
    cases hs with
    | cons OY IX=>
    rename_i e es1;cases OY with
    | refl=>
     have hl:SA ow base p (.nil :: es1)= .nil :: SA ow base (p+1) es1:=by simp[SA]
     have B6:∀q,cB ow base (λ_=>none) p (.nil :: es1) q=cB ow base (λ_=>none) (p+1) es1 q:=λq=>by simp[cB]
     refine go ρ g h cs1 es1 .nil X1 IX rfl hh (λ_ _ h=>h) hg (λr hr=>⟨rfl,λ_=>rfl⟩) (λ_ h=>h) (λq hq=>⟨rfl,rfl⟩) (λ_ _ _=>rfl) (λ_ _ h=>h) ⟨λ_=> .nil,rfl⟩ (λρ' g' hk=>?_) ?_ (λq hq=>B6 _) (λj hj=>?_)
     ·simp only[hl];exact⟨by simp,by rw[I0];exact .nil⟩
     ·rw[B6,dE _ _ _ _ _ (by omega),hgp]
     ·simp only[hl];exact⟨by simpa using hj,by simp⟩
    | nil t=>
     have hl:SA ow base p (.sl t [] :: es1)= .ow (base+p) :: SA ow base (p+1) es1:=by simp[SA,hb]
     obtain⟨k1,k2⟩:=hh.empty t N4
     refine go _ _ h cs1 es1 (.sl t []) X1 IX rfl k1 k2 (λq row hq=>?_) (λq hq=>⟨DA _ _ _ _ ?_,λhn=>DA _ _ _ _ ?_⟩) (λ_ h=>h) (λq hq=>⟨DA _ _ _ _ (by omega),DA _ _ _ _ (by omega)⟩) (λq h1 _=>DA _ _ _ _ (by omega))
      (λq qi hq=>by rw[DA];exact hq;rintro rfl;rw[N4]at hq;cases hq) ⟨EM _ _,rfl⟩ (λρ' g' hk=>?_) ?_ (λq hq=>?_) (λj hj=>?_)
     ·rw[DA _ _ _ _ (by rintro rfl;exact NW (X0 _ _ hq))];exact hg _ _ hq
     ·rintro rfl;exact NW hq
     ·rintro rfl;exact NW hq
     ·simp only[hl];refine⟨by simp,hk _ _ ?_⟩;rw[I0];exact .owN _ ⟨0,0,0,true⟩ none (RA _ _ _) rfl rfl
     ·simp only[cB,hb,cond_true,RA]
     ·simp only[cB,hb,cond_true];rw[DA _ _ _ _ (by omega)]
     ·simp only[hl];exact⟨by simpa using hj,by simp⟩
   ·rename_i r t0 len;split at ht
    case h_2=>cases ht
    rename_i t l JV;split at ht
    case h_2=>cases ht
    rename_i cs1 h1 hd X1;have hd:=of_decide_eq_true hd;subst hd;simp only[Option.some.injEq,Prod.mk.injEq]at ht;obtain⟨rfl,rfl⟩:=ht;cases hs with
    | cons OY IX=>
    rename_i e es1;cases OY;have ZV:=X0 r _ JV;have U8:g r=some ⟨.arr t l, .own⟩:=hg _ _ JV;obtain⟨ri,k1,k2,k3⟩:=hh.cut U8 N4 YZ;have hrne:r≠base+p:=by rintro rfl;exact NW ZV
    have hl:SA ow base p (.sl t (l.take len) :: es1)= .ow (base+p) :: SA ow base (p+1) es1:=by simp[SA,hb]
    refine go _ _ (CA h r none) cs1 es1 (.sl t (l.take len)) X1 IX rfl k1 k2 (λq row hq=>?_) (λq hq=>⟨DA _ _ _ _ ?_,λhn=>?_⟩) (λq hn=>?_) (λq hq=>⟨?_,DA _ _ _ _ (by omega)⟩) (λq h1 _=>DA _ _ _ _ (by omega))
     (λq qi hq=>by rw[DA];exact hq;rintro rfl;rw[N4]at hq;cases hq) ⟨EM _ _,rfl⟩ (λρ' g' hk=>?_) ?_ (λq hq=>?_) (λj hj=>?_)
    ·by_cases mW:q=r
     ·subst mW;rw[RA]at hq;cases hq
     ·rw[DA _ _ _ _ mW]at hq;have:q≠base+p:=by rintro rfl;exact NW (X0 _ _ hq)
      rw[DA _ _ _ _ this,DA _ _ _ _ mW];exact hg _ _ hq
    ·rintro rfl;exact NW hq
    ·have C6:q≠base+p:=by rintro rfl;exact NW hq
     have mW:q≠r:=by rintro rfl;rw[JV]at hn;cases hn
     rw[DA _ _ _ _ C6,DA _ _ _ _ mW]
    ·by_cases mW:q=r
     ·subst mW;exact RA _ _ _
     ·rw[DA _ _ _ _ mW];exact hn
    ·rw[DA _ _ _ _ (by omega),DA];rintro rfl;exact ZV ⟨by omega,by omega⟩
    ·simp only[hl];refine⟨by simp,?_⟩;exact hk _ _ k3
    ·simp only[cB,hb,cond_true,RA]
    ·simp only[cB,hb,cond_true];rw[DA _ _ _ _ (by omega)]
    ·simp only[hl];exact⟨by simpa using hj,by simp⟩
   ·cases ht
def ZU{bad bad2:Nat→Prop}{ρ2:Nat→Option RI}(ow:List Nat)(B B2:Nat):∀(es:List V) (p:Nat) (u:Nat→Value),
  (∀q,p≤q→q<p+es.length→ow.any (Nat.beq q)=true→(∃t l,es[q - p]?=some (.sl t l))→ρ2 (B2+q)=ρ (B+q))→(∀j (hj:j<es.length),mD es[j])→(∀b,bad2 b→bad b)→
  (∀j (hj:j<(SA ow B p es).length),VR w ρ bad (u j) (SA ow B p es)[j])→∀j (hj:j<(SA ow B2 p es).length),VR w ρ2 bad2 (u j) (SA ow B2 p es)[j]
 | [],p,u,hρ,hc,hb,hv,j,hj=>by simp[SA]at hj
 | e :: es,p,u,hρ,hc,hb,hv,j,hj=>by
  have split1:∀(B:Nat),∃e',SA ow B p (e :: es)=e' :: SA ow B (p+1) es∧(e'=e∨e'= .ow (B+p))∧((∃t l,e= .sl t l∧ow.any (Nat.beq p)=true)→e'= .ow (B+p))∧
    ((¬∃t l,e= .sl t l∧ow.any (Nat.beq p)=true)→e'=e):=λB=>by
   cases e<;>simp only[SA]<;>try exact⟨_,rfl, .inl rfl,λ⟨_,_,h,_⟩=>(by cases h),λ_=>rfl⟩
   rename_i t l;cases hb:ow.any (Nat.beq p)
   ·exact⟨_,rfl, .inl rfl,λ⟨_,_,_,h⟩=>(by cases h),λ_=>rfl⟩
   ·exact⟨_,rfl, .inr rfl,λ_=>rfl,λh=>absurd ⟨t,l,rfl,rfl⟩ h⟩
  obtain⟨e1,s1,_,s2,s3⟩:=split1 B;obtain⟨e2,t1,_,t2,t3⟩:=split1 B2
  have ih:=ZU ow B B2 es (p+1) (λj=>u (j+1)) (λq h1 h2 h3 h4=>hρ q (by omega) (by simp;omega) h3 (by
    obtain⟨t,l,h4⟩:=h4;exact⟨t,l,by rw[show q - p=(q - (p+1))+1 by omega,List.getElem?_cons_succ];exact h4⟩)) (λj hj=>hc (j+1) (by simp;omega)) hb
   (fun j hj=>by
    have:=hv (j+1) (by rw[s1];simp;omega);simpa[s1]using this)
  simp only[t1]at hj⊢;cases j with
  | succ j=>exact ih j (by simpa using hj)
  | zero=>
   have BX:=hv 0 (by rw[s1];simp);simp only[s1,List.getElem_cons_zero]at BX⊢
   by_cases hs:∃t l,e= .sl t l∧ow.any (Nat.beq p)=true
   ·rw[s2 hs]at BX;rw[t2 hs];have hq:=hρ p (Nat.le_refl _) (by simp) (by obtain⟨_,_,_,h⟩:=hs;exact h) (by obtain⟨t,l,h,_⟩:=hs;exact⟨t,l,by simp[h]⟩);generalize u 0=u0 at BX;cases BX with
    | ow _ ri h1 h2 h3 h4=>exact .ow _ ri (by rw[hq];exact h1) h2 h3 h4
    | owN _ ri ao h1 h2 h3=>exact .owN _ ri ao (by rw[hq];exact h1) h2 h3
   ·rw[s3 hs]at BX;rw[t3 hs];exact(BX.noRef (hc 0 (by simp)) ρ2).mono (λ_ _ h=>h) (λ_ _ _=>rfl) λb h=> .inl (hb b h)
def rB.reread(hh:rB w0 outer own ρ h w){r:Nat}{cs es:List V}{m:oH}(hr:h r=some ⟨.box cs,m⟩)(MV:es.length=cs.length)
  (hv:∀ri,ρ r=some ri→∀j (hj:j<es.length),VR w ρ (tA outer ρ h) ((w.cell? (at_ ri.b j)).getD undef) es[j]):
  rB w0 outer own ρ (CA h r (some ⟨.box es,m⟩)) w∧∀u d,VR w ρ (tA outer ρ h) u d→VR w ρ (tA outer ρ (CA h r (some ⟨.box es,m⟩))) u d:=by
 have bW:∀b,tA outer ρ (CA h r (some ⟨.box es,m⟩)) b→tA outer ρ h b:=λb hb=>hb.mono λq row' h1 h2=>by
  by_cases hq:q=r
  ·subst hq;rw[RA]at h1;cases h1;exact⟨_,hr,h2⟩
  ·rw[DA _ _ _ _ hq]at h1;exact⟨row',h1,h2⟩
 have hk:∀u d,VR w ρ (tA outer ρ h) u d→VR w ρ (tA outer ρ (CA h r (some ⟨.box es,m⟩))) u d:=λu d hu=>hu.mono (λ_ _ h=>h) (λ_ _ _=>rfl) λb hb=> .inl (bW b hb)
 have old:∀q row,CA h r (some ⟨.box es,m⟩) q=some row→∃row',h q=some row'∧(q=r∧row=⟨.box es,m⟩∨row=row'):=λq row hq=>by
  by_cases mW:q=r
  ·subst mW;rw[RA]at hq;cases hq;exact⟨_,hr, .inl ⟨rfl,rfl⟩⟩
  ·rw[DA _ _ _ _ mW]at hq;exact⟨row,hq, .inr rfl⟩
 refine⟨⟨hh.wx,hh.old,hh.outLt,λq row hq=>?_,λq q' row row' qi qi' h1 h2 h3 h4=>?_⟩,hk⟩
 ·obtain⟨row',h1,h2⟩:=old q row hq;obtain⟨ri,h3,h4,h5⟩:=hh.rows q row' h1
  have P9:ri.nl=false→(¬outer ri.b∧(row.m.isRo=false→w0.heap.size≤ri.b∨own ri.b))∧ri.b<w.heap.size:=by
   rcases h2 with⟨rfl,rfl⟩ | rfl
   ·rw[hr]at h1;cases h1;exact h5
   ·exact h5
  refine⟨ri,h3,?_,P9⟩
  rcases h2 with⟨rfl,rfl⟩ | rfl
  ·rw[hr]at h1;cases h1;refine⟨h4.1,λj hj=>?_⟩;obtain⟨f1,u,f2,_⟩:=h4.2 j (by omega);refine⟨f1,u,f2,?_⟩;have:=hv ri h3 j hj;rw[f2]at this;exact hk _ _ this
  ·exact h4.keep (λ_=>rfl) hk
 ·obtain⟨_,g1,_⟩:=old q row h1;obtain⟨_,g2,_⟩:=old q' row' h2;exact hh.inj q q' _ _ qi qi' g1 g2 h3 h4
end
end Go.D
namespace Go.D
variable [jA]
def FA:List sB→Nat→List V→Nat→Option uA
 | .plain :: ks,k,_ :: as=>FA ks (k+1) as
 | .ptr ow :: ks,k, .agg cs :: as=>CA (cB ow (128 *k) (FA ks (k+1) as) 0 cs) (128 *k+127) (some ⟨.box (SA ow (128 *k) 0 cs), .own⟩)
 | .mv ow :: ks,k, .agg cs :: as=>cB ow (128 *k) (FA ks (k+1) as) 0 cs
 | _,_,_=>λ_=>none
def SB:List sB→Nat→List V→List V
 | .plain :: ks,k,v :: as=>v :: SB ks (k+1) as
 | .ptr _ :: ks,k,_ :: as=> .bp (128 *k+127) 0 :: SB ks (k+1) as
 | .mv ow :: ks,k, .agg cs :: as=> .agg (SA ow (128 *k) 0 cs) :: SB ks (k+1) as
 | _,_,_=>[]
def uB:List sB→Nat→List Nat→Nat→Option Nat
 | .plain :: ks,k,bs,q=>uB ks (k+1) bs q
 | .ptr _ :: ks,k,b :: bs,q=>if q=128 *k+127 then some b else uB ks (k+1) bs q
 | .mv _ :: ks,k,bs,q=>uB ks (k+1) bs q
 | _,_,_,_=>none
omit [jA]in
def FF:∀(ks:List sB) (k:Nat) (bs:List Nat) (q b:Nat),uB ks k bs q=some b→128 *k+127≤q∧q % 128=127∧b∈bs
 | [],k,bs,q,b,h=>by simp[uB]at h
 | .plain :: ks,k,bs,q,b,h=>by
  simp only[uB]at h;obtain⟨h1,h2,h3⟩:=FF ks (k+1) bs q b h;exact⟨by omega,h2,h3⟩
 | .mv ow :: ks,k,bs,q,b,h=>by
  simp only[uB]at h;obtain⟨h1,h2,h3⟩:=FF ks (k+1) bs q b h;exact⟨by omega,h2,h3⟩
 | .ptr ow :: ks,k,[],q,b,h=>by simp[uB]at h
 | .ptr ow :: ks,k,c :: bs,q,b,h=>by
  simp only[uB]at h;split at h
  ·cases h;exact⟨by omega,by omega,by simp⟩
  ·obtain⟨h1,h2,h3⟩:=FF ks (k+1) bs q b h;exact⟨by omega,h2,by simp[h3]⟩
omit [jA]in
def oV:∀(ks:List sB) (k:Nat) (bs:List Nat) (q q' b:Nat),bs.Nodup→uB ks k bs q=some b→uB ks k bs q'=some b→q=q'
 | [],k,bs,q,q',b,hn,h,h'=>by simp[uB]at h
 | .plain :: ks,k,bs,q,q',b,hn,h,h'=>oV ks (k+1) bs q q' b hn h h'
 | .mv ow :: ks,k,bs,q,q',b,hn,h,h'=>oV ks (k+1) bs q q' b hn h h'
 | .ptr ow :: ks,k,[],q,q',b,hn,h,h'=>by simp[uB]at h
 | .ptr ow :: ks,k,c :: bs,q,q',b,hn,h,h'=>by
  simp only[uB]at h h';simp only[List.nodup_cons]at hn;split at h<;>split at h'
  ·omega
  ·cases h;exact absurd (FF _ _ _ _ _ h').2.2 hn.1
  ·cases h';exact absurd (FF _ _ _ _ _ h).2.2 hn.1
  ·exact oV ks (k+1) bs q q' b hn.2 h h'
omit [jA]in
def zcT:∀(ks:List sB) (k:Nat) (bs:List Nat) (q b:Nat),uB ks k bs q=some b→q<128 *(k+ks.length)
 | [],k,bs,q,b,h=>by simp[uB]at h
 | .plain :: ks,k,bs,q,b,h=>by
  simp only[uB]at h;have:=zcT ks (k+1) bs q b h;simp;omega
 | .mv ow :: ks,k,bs,q,b,h=>by
  simp only[uB]at h;have:=zcT ks (k+1) bs q b h;simp;omega
 | .ptr ow :: ks,k,[],q,b,h=>by simp[uB]at h
 | .ptr ow :: ks,k,c :: bs,q,b,h=>by
  simp only[uB]at h;split at h
  ·simp;omega
  ·have:=zcT ks (k+1) bs q b h;simp;omega
omit [jA]in
def TU(ow:List Nat)(B B2:Nat):∀(es:List V) (p q:Nat),cB ow B (λ_=>none) p es (B+q)=cB ow B2 (λ_=>none) p es (B2+q)
 | [],p,q=>rfl
 | e :: es,p,q=>by
  have ih:=TU ow B B2 es (p+1) q;cases e<;>simp only[cB]<;>try exact ih
  cases hb:ow.any (Nat.beq p)
  ·simpa using ih
  ·simp only[cond_true]
   by_cases hq:q=p
   ·subst hq;rw[RA,RA]
   ·rw[DA _ _ _ _ (by omega),DA _ _ _ _ (by omega)];exact ih
omit [jA]in
def LE(ow:List Nat)(B:Nat):∀(es:List V) (p r:Nat) (row:uA),cB ow B (λ_=>none) p es r=some row→∃t l,row=⟨.arr t l, .own⟩∧B+p≤r∧r<B+p+es.length
 | [],p,r,row,h=>by simp[cB]at h
 | e :: es,p,r,row,h=>by
  have ih:=LE ow B es (p+1) r row
  have nx:cB ow B (λ_=>none) (p+1) es r=some row→∃t l,row=⟨.arr t l, .own⟩∧B+p≤r∧r<B+p+(e :: es).length:=λh=>by
   obtain⟨t,l,h1,h2,h3⟩:=ih h;exact⟨t,l,h1,by omega,by simp;omega⟩
  cases e<;>simp only[cB]at h<;>try exact nx h
  cases hb:ow.any (Nat.beq p)
  ·simp only[hb,cond_false]at h;exact nx h
  ·simp only[hb,cond_true]at h
   by_cases hr:r=B+p
   ·subst hr;rw[RA]at h;cases h;exact⟨_,_,rfl,Nat.le_refl _,by simp⟩
   ·rw[DA _ _ _ _ hr]at h;exact nx h
omit [jA]in
def zfJ(ow:List Nat)(B:Nat):∀(es:List V) (p q:Nat) (t:TN) (l:List (El t)),p≤q→es[q - p]?=some (.sl t l)→ow.any (Nat.beq q)=true→cB ow B (λ_=>none) p es (B+q)=some ⟨.arr t l, .own⟩
 | [],p,q,t,l,hp,he,ho=>by simp at he
 | e :: es,p,q,t,l,hp,he,ho=>by
  by_cases hq:q=p
  ·subst hq;simp at he;subst he;simp only[cB,ho,cond_true,RA]
  ·have ih:=zfJ ow B es (p+1) q t l (by omega) (by rw[show q - p=(q - (p+1))+1 by omega,List.getElem?_cons_succ]at he;exact he) ho;cases e<;>simp only[cB]<;>try exact ih
   cases hb:ow.any (Nat.beq p)
   ·simpa using ih
   ·simp only[cond_true];rw[DA _ _ _ _ (by omega)];exact ih
section
variable {C:Cx} {w0:World} {outer own:Nat→Prop} {ρ:Nat→Option RI} {st st':St} {a:Act} {w:World} {h:Nat→Option uA}
inductive yG(w:World)(ρ:Nat→Option RI)(bad:Nat→Prop)(g:Nat→Option uA)(N0:Nat):List sB→Nat→List V→List Nat→(Nat→Value)→Prop
 | nil (k:Nat) (u:Nat→Value):yG w ρ bad g N0 [] k [] [] u
 | plain {ks:List sB} {k:Nat} {v:V} {as:List V} {bs:List Nat} {u:Nat→Value} (hv:VR w ρ bad (u 0) v) (hn:mD v) (hr:yG w ρ bad g N0 ks (k+1) as bs λj=>u (j+1)):
   yG w ρ bad g N0 (.plain :: ks) k (v :: as) bs u
 | ptr {ow:List Nat} {ks:List sB} {k b:Nat} {cs as:List V} {bs:List Nat} {u:Nat→Value} (ri:RI) (hρ:ρ b=some ri) (lW:ri.nl=false) (hu:u 0= .pointer (some (at_ ri.b 0)))
   (hg:g b=some ⟨.box (SA ow (N0+128 *k) 0 cs), .own⟩) (hl:cs.length≤127) (hq:∀q,q<128→g (N0+128 *k+q)=cB ow (N0+128 *k) (λ_=>none) 0 cs (N0+128 *k+q))
   (hc:∀j (hj:j<cs.length),mD cs[j]∧(cs[j]).leaf=true) (hb:b<N0) (hr:yG w ρ bad g N0 ks (k+1) as bs λj=>u (j+1)):
   yG w ρ bad g N0 (.ptr ow :: ks) k (.agg cs :: as) (b :: bs) u
 | mv {ow:List Nat} {ks:List sB} {k:Nat} {cs as:List V} {bs:List Nat} {u:Nat→Value} (hv:VR w ρ bad (u 0) (.agg (SA ow (N0+128 *k) 0 cs)))
   (hl:cs.length≤127) (hq:∀q,q<128→g (N0+128 *k+q)=cB ow (N0+128 *k) (λ_=>none) 0 cs (N0+128 *k+q))
   (hc:∀j (hj:j<cs.length),mD cs[j]∧(cs[j]).leaf=true) (hr:yG w ρ bad g N0 ks (k+1) as bs λj=>u (j+1)):
   yG w ρ bad g N0 (.mv ow :: ks) k (.agg cs :: as) bs u
omit [jA]in
def aC.rfl':∀(cs:List V),aC cs cs
 | []=> .nil
 | c :: cs=> .cons (.refl c) (aC.rfl' cs)
omit [jA]in
def zfg{ow:List Nat}{ks:List sB}{v:V}{vs:List V}{x:List V×(Nat→Option uA)×List Nat}(ht:zC (.ptr ow :: ks) (v :: vs) h=some x):∃r,v= .bp r 0:=by
 unfold zC at ht;split at ht
 ·simp_all
 ·simp_all
 ·rename_i e1 e2;simp only[List.cons.injEq]at e2;exact⟨_,e2.1⟩
 ·simp_all
 ·cases ht
omit [jA]in
def zfy{ow:List Nat}{ks:List sB}{v:V}{vs:List V}{x:List V×(Nat→Option uA)×List Nat}(ht:zC (.mv ow :: ks) (v :: vs) h=some x):∃cs,v= .agg cs:=by
 unfold zC at ht;split at ht
 ·simp_all
 ·simp_all
 ·simp_all
 ·rename_i e1 e2;simp only[List.cons.injEq]at e2;exact⟨_,e2.1⟩
 ·cases ht
def zcO(N0:Nat):∀(ks:List sB) (as:List V) (h h':Nat→Option uA) (as':List V) (bs:List Nat) (k:Nat) (ρ:Nat→Option RI) (g:Nat→Option uA) (u:Nat→Value),
  zC ks as h=some (as',h',bs)→rB w0 outer own ρ g w→(∀j (hj:j<as.length),VR w ρ (tA outer ρ g) (u j) as[j])→mH h g→(∀r,N0+128 *k≤r→ρ r=none)→(∀r,N0≤r→h r=none)→
  ∃ρ' g',rB w0 outer own ρ' g' w∧mH h' g'∧(∀r,h r=none→h' r=none)∧(∀r,h r=none→r<N0+128 *k→g' r=g r)∧(∀r ri,ρ r=some ri→ρ' r=some ri)∧
   (∀v d,VR w ρ (tA outer ρ g) v d→VR w ρ' (tA outer ρ' g') v d)∧yG w ρ' (tA outer ρ' g') g' N0 ks k as' bs u∧
   (∀b∈bs,h' b=none∧h b≠none)∧bs.Nodup∧as.length=ks.length∧(∀r,r<N0→ρ' r=ρ r)
 | [],[],h,h',as',bs,k,ρ,g,u,ht,hh,hv,hg,hf,hN=>by
  simp only[zC,Option.some.injEq,Prod.mk.injEq]at ht;obtain⟨rfl,rfl,rfl⟩:=ht;exact⟨ρ,g,hh,hg,λ_ h=>h,λ_ _ _=>rfl,λ_ _ h=>h,λ_ _ h=>h, .nil _ _,λb hb=>by simp at hb,by simp,rfl,λ_ _=>rfl⟩
 | [],_ :: _,h,h',as',bs,k,ρ,g,u,ht,hh,hv,hg,hf,hN=>by simp[zC]at ht
 | .plain :: ks,[],h,h',as',bs,k,ρ,g,u,ht,hh,hv,hg,hf,hN=>by simp[zC]at ht
 | .ptr _ :: ks,[],h,h',as',bs,k,ρ,g,u,ht,hh,hv,hg,hf,hN=>by simp[zC]at ht
 | .mv _ :: ks,[],h,h',as',bs,k,ρ,g,u,ht,hh,hv,hg,hf,hN=>by simp[zC]at ht
 | .plain :: ks,v :: vs,h,h',as',bs,k,ρ,g,u,ht,hh,hv,hg,hf,hN=>by
  simp only[zC]at ht;split at ht
  ·cases ht
  rename_i v' ids FZ;split at ht
  ·cases ht
  rename_i as2 h2 bs2 D6;simp only[Option.some.injEq,Prod.mk.injEq]at ht;obtain⟨rfl,rfl,rfl⟩:=ht;obtain⟨k1,k2⟩:=zli hg FZ;have k2:∀r∈ids,∃row,h r=some row:=k2;obtain⟨m1,m2⟩:=hh.mark ids;obtain⟨f1,f2⟩:=zg9 hh (hv 0 (by simp)) k1;have Z1:∀r,h r=none→r∉ids:=λr hn hm=>by obtain⟨row,h5⟩:=k2 r hm;rw[hn]at h5;cases h5
  have V8:∀r,h r=none→DC h ids r=none:=λr hn=>by rw[AF,if_neg (Z1 r hn)];exact hn
  obtain⟨ρ',g',c1,c2,c3,c4,c5,c6,c7,c8,c9,CG,lG⟩:=zcO N0 ks vs (DC h ids) h2 as2 bs2 (k+1) ρ (DC g ids) (λj=>u (j+1)) D6 m1
   (λj hj=>m2 _ _ (hv (j+1) (by simp;omega))) (zfZ hg ids) (λr hr=>hf r (by omega)) (λr hr=>V8 r (hN r hr))
  refine⟨ρ',g',c1,c2,λr hr=>c3 r (V8 r hr),λr hr hk=>?_,c5,λv d hd=>c6 _ _ (m2 _ _ hd), .plain (c6 _ _ f1) f2 c7,λb hb=>?_,c9,by simp[CG],lG⟩
  ·rw[c4 r (V8 r hr) (by omega),AF,if_neg (Z1 r hr)]
  ·obtain⟨d1,d2⟩:=c8 b hb;exact⟨d1,λhn=>d2 (V8 b hn)⟩
 | .ptr ow :: ks,v :: vs,h,h',as',bs,k,ρ,g,u,ht,hh,hv,hg,hf,hN=>by
  obtain⟨r,rfl⟩:=zfg ht;simp only[zC]at ht;split at ht
  case h_2=>cases ht
  rename_i cs JV;cases yW:Nat.ble cs.length 127
  case false=>simp[yW]at ht
  simp only[yW,cond_true]at ht;have yW:=Nat.le_of_ble_eq_true yW;split at ht
  ·cases ht
  rename_i cs' h1 P2;split at ht
  ·cases ht
  rename_i as2 h2 bs2 D6;simp only[Option.some.injEq,Prod.mk.injEq]at ht;obtain⟨rfl,rfl,rfl⟩:=ht
  have hrN:r<N0:=by
   rcases Nat.lt_or_ge r N0 with h3 | h3
   ·exact h3
   ·rw[hN r h3]at JV;cases JV
  have hgr:=hg _ _ JV;have BX:=hv 0 (by simp);simp only[List.getElem_cons_zero]at BX;obtain⟨ri,hρ,ZV,_⟩:=hh.rows r _ hgr
  have I0:u 0= .pointer (some (at_ ri.b 0))∧ri.nl=false:=by
   generalize u 0=x at BX;cases BX with
   | bp _ _ ri' h3 h4=>rw[hρ]at h3;cases h3;exact⟨rfl,h4⟩
  have gW:∀q,h q=none→CA h r none q=none:=λq hq=>by
   by_cases mW:q=r
   ·subst mW;exact RA _ _ _
   ·rw[DA _ _ _ _ mW];exact hq
  obtain⟨ρ1,g1,T,MV⟩:=mV ow (N0+128 *k) 128 cs 0 (CA h r none) h1 cs' cs' ρ g (λj=>(w.cell? (at_ ri.b j)).getD undef) P2 (aC.rfl' _) (by omega) hh
   (λj hj=>by obtain⟨_,x,f1,f2⟩:=ZV.2 j hj;rw[f1];exact f2)
   (fun q row hq=>by
    by_cases mW:q=r
    ·subst mW;rw[RA]at hq;cases hq
    ·rw[DA _ _ _ _ mW]at hq;exact hg _ _ hq)
   (λq hq=>gW _ (hN _ (by omega))) (λq _ _=>hf _ (by omega))
  have E6:Out (N0+128 *k) 128 r:=λh3=>by omega
  have hg1r:g1 r=some ⟨.box cs, .own⟩:=by rw[(T.out r E6).2 (RA _ _ _)];exact hgr
  have hρ1:ρ1 r=some ri:=T.ext _ _ hρ;obtain⟨n1,n2⟩:=T.heap.reread hg1r (es:=SA ow (N0+128 *k) 0 cs') (by rw[DF];exact MV) (λri' h3 j hj=>by rw[hρ1]at h3;cases h3;exact T.vals j hj);have Q2:h1 r=none:=T.less r (RA _ _ _)
  obtain⟨ρ',g',c1,c2,c3,c4,c5,c6,c7,c8,c9,CG,lG⟩:=zcO N0 ks vs h1 h2 as2 bs2 (k+1) ρ1 _ (λj=>u (j+1)) D6 n1
   (λj hj=>n2 _ _ (T.keep _ _ (hv (j+1) (by simp;omega))))
   (fun q row hq=>by
    have mW:q≠r:=by rintro rfl;rw[Q2]at hq;cases hq
    rw[DA _ _ _ _ mW];exact T.lies _ _ hq)
   (λq hq=>by rw[(T.out q (λh3=>by omega)).1];exact hf q (by omega)) (λq hq=>T.less q (gW q (hN q hq)))
  have FX:∀q,h q=none→q<N0+128 *k→Out (N0+128 *k) 128 q:=λq _ h3 h4=>by omega
  refine⟨ρ',g',c1,c2,λq hq=>c3 q (T.less q (gW q hq)),λq hq hk=>?_,λq qi hq=>c5 _ _ (T.ext _ _ hq),λv d hd=>c6 _ _ (n2 _ _ (T.keep _ _ hd)),
   .ptr ri (c5 _ _ hρ1) I0.2 I0.1 ?_ (by omega) (λq hq=>?_) T.closed hrN c7,λb hb=>?_,?_,by simp[CG],λq hq=>?_⟩
  ·have mW:q≠r:=by rintro rfl;rw[JV]at hq;cases hq
   rw[c4 q (T.less q (gW q hq)) (by omega),DA _ _ _ _ mW,(T.out q (FX q hq hk)).2 (gW q hq)]
  ·rw[c4 r Q2 (by omega),RA]
  ·rw[c4 _ (T.less _ (gW _ (hN _ (by omega)))) (by omega),DA _ _ _ _ (by omega),T.new q (by omega) hq]
  ·rcases List.mem_cons.1 hb with rfl | hb
   ·exact⟨c3 _ Q2,by rw[JV];simp⟩
   ·obtain⟨d1,d2⟩:=c8 b hb;exact⟨d1,λhn=>d2 (T.less b (gW b hn))⟩
  ·refine List.nodup_cons.2 ⟨λhm=>(c8 r hm).2 Q2,c9⟩
  ·rw[lG q hq,(T.out q (λh3=>by omega)).1]
 | .mv ow :: ks,v :: vs,h,h',as',bs,k,ρ,g,u,ht,hh,hv,hg,hf,hN=>by
  obtain⟨cs,rfl⟩:=zfy ht;simp only[zC]at ht;cases yW:Nat.ble cs.length 127
  case false=>simp[yW]at ht
  simp only[yW,cond_true]at ht;have yW:=Nat.le_of_ble_eq_true yW;split at ht
  ·cases ht
  rename_i cs' h1 P2;split at ht
  ·cases ht
  rename_i as2 h2 bs2 D6;simp only[Option.some.injEq,Prod.mk.injEq]at ht;obtain⟨rfl,rfl,rfl⟩:=ht;have BX:=hv 0 (by simp);simp only[List.getElem_cons_zero]at BX
  obtain⟨vsA,I0,YV,hcv⟩:∃vsA:Array Value,u 0= .agg vsA∧vsA.size=cs.length∧∀j (hj:j<cs.length),VR w ρ (tA outer ρ g) (vsA.getD j undef) cs[j]:=by
   generalize u 0=x at BX;cases BX with
   | agg _ vsA h1 h2=>exact⟨vsA,rfl,h1,h2⟩
  obtain⟨ρ1,g1,T,MV⟩:=mV ow (N0+128 *k) 128 cs 0 h h1 cs' cs' ρ g (λj=>vsA.getD j undef) P2 (aC.rfl' _) (by omega) hh hcv hg
   (λq hq=>hN _ (by omega)) (λq _ _=>hf _ (by omega))
  obtain⟨ρ',g',c1,c2,c3,c4,c5,c6,c7,c8,c9,CG,lG⟩:=zcO N0 ks vs h1 h2 as2 bs2 (k+1) ρ1 g1 (λj=>u (j+1)) D6 T.heap
   (λj hj=>T.keep _ _ (hv (j+1) (by simp;omega))) T.lies
   (λq hq=>by rw[(T.out q (λh3=>by omega)).1];exact hf q (by omega)) (λq hq=>T.less q (hN q hq))
  have FX:∀q,h q=none→q<N0+128 *k→Out (N0+128 *k) 128 q:=λq _ h3 h4=>by omega
  refine⟨ρ',g',c1,c2,λq hq=>c3 q (T.less q hq),λq hq hk=>?_,λq qi hq=>c5 _ _ (T.ext _ _ hq),λv d hd=>c6 _ _ (T.keep _ _ hd),
   .mv ?_ (by omega) (λq hq=>?_) T.closed c7,λb hb=>?_,c9,by simp[CG],λq hq=>?_⟩
  ·rw[c4 q (T.less q hq) (by omega),(T.out q (FX q hq hk)).2 hq]
  ·rw[I0];refine .agg _ _ (by rw[DF,YV,MV]) λj hj=>?_;exact c6 _ _ (T.vals j hj)
  ·rw[c4 _ (T.less _ (hN _ (by omega))) (by omega),T.new q (by omega) hq]
  ·obtain⟨d1,d2⟩:=c8 b hb;exact⟨d1,λhn=>d2 (T.less b hn)⟩
  ·rw[lG q hq,(T.out q (λh3=>by omega)).1]
end
end Go.D
namespace Go.D
variable [jA]
def zxz(P:Program)(f:Nat)(args:Array Value)(w:World)(post:Value→World→Prop):Prop:=
 ((callFunc f args).run P w= .ok (.enter f args) w∧Calls P f args w λe w'=>∃v,e= .returned v∧post v w')∨
 ∃v w',(callFunc f args).run P w= .ok (.value v) w'∧post v w'
def mF(ks:List sB)(as:List V)(bs:List Nat)(ow:List Nat)(base:Nat)(shape:List (Bool×Nat))(rs:List V):Nat→Option uA:=
 WB ks as bs ((SA ow base 0 rs).drop (kL shape)) (cB ow base (λ_=>none) 0 rs)
def rE(ci:bB)(as:List V)(bs:List Nat)(base:Nat)(rs:List V):Nat→Option uA:=
 bif ci.pb then CA (λ_=>none) base (some ⟨.box rs, .own⟩)else mF ci.ks as bs ci.own base ci.shape rs
def BB(P:Program)(f:Nat)(ci:bB)(g:Gl:=IL):Prop:=
 ∀(w:World) (args:Array Value) (as:List V) (outer own:Nat→Prop) (ρ:Nat→Option RI) (a:ci.A) (r:ci.R) (base:Nat) (bs:List Nat),
  args.size=ci.ks.length→(SB ci.ks 0 as).length=ci.ks.length→rB w outer own ρ (FA ci.ks 0 as) w→
  (∀j (hj:j<(SB ci.ks 0 as).length),VR w ρ (tA outer ρ (FA ci.ks 0 as)) (args.getD j undef) (SB ci.ks 0 as)[j])→(∀q,FA ci.ks 0 as q=none→ρ q=none)→
  bs.Nodup→(∀b∈bs,Out base 128 b)→ci.dA as=some a→ci.F a=some r→(ci.eR r).length≤128→znW g own w→
  zxz P f args w λv w'=>∃ρ',rB w outer own ρ' (rE ci as bs base (ci.eR r)) w'∧
   VR w' ρ' (tA outer ρ' (rE ci as bs base (ci.eR r))) v (CJ ci base (ci.eR r))∧
   (∀q b,uB ci.ks 0 bs q=some b→ρ' b=ρ q)∧(∀r,ρ' r≠none→(base≤r∧r<base+128)∨r∈bs)
omit [jA]in
def Calls.mono'{P:Program}{f:Nat}{args:Array Value}{w:World}{R R':Ending→World→Prop}(h:Calls P f args w R)(hr:∀e w',R e w'→R' e w'):Calls P f args w R':=
 λcs=>let ⟨e,w',fr,h1,h2⟩:=h cs;⟨e,w',fr,hr _ _ h1,h2⟩
omit [jA]in
def mM:∀(ks:List sB) (as:List V) (bs:List Nat) (vs:List V) (h:Nat→Option uA) (r:Nat),
  WB ks as bs vs h r=match WB ks as bs vs (λ_=>none) r with | some x=>some x | none=>h r
 | [],as,bs,vs,h,r=>by cases as<;>rfl
 | .plain :: ks,[],bs,vs,h,r=>rfl
 | .plain :: ks,a :: as,bs,vs,h,r=>by simp only[WB];exact mM ks as bs vs h r
 | .mv ow :: ks,[],bs,vs,h,r=>rfl
 | .mv ow :: ks,a :: as,bs,vs,h,r=>by simp only[WB];exact mM ks as bs vs h r
 | .ptr ow :: ks,[],bs,vs,h,r=>rfl
 | .ptr ow :: ks,a :: as,[],vs,h,r=>by cases a<;>rfl
 | .ptr ow :: ks,a :: as,b :: bs,vs,h,r=>by
  cases a<;>try rfl
  simp only[WB]
  by_cases hr:r=b
  ·subst hr;simp[RA]
  ·rw[DA _ _ _ _ hr,DA _ _ _ _ hr];exact mM ks as bs _ h r
omit [jA]in
def zbl:∀(ks:List sB) (as:List V) (bs:List Nat) (vs:List V) (r:Nat) (row:uA),WB ks as bs vs (λ_=>none) r=some row→r∈bs
 | [],as,bs,vs,r,row,h=>by cases as<;>simp[WB]at h
 | .plain :: ks,[],bs,vs,r,row,h=>by simp[WB]at h
 | .plain :: ks,a :: as,bs,vs,r,row,h=>by simp only[WB]at h;exact zbl ks as bs vs r row h
 | .mv ow :: ks,[],bs,vs,r,row,h=>by simp[WB]at h
 | .mv ow :: ks,a :: as,bs,vs,r,row,h=>by simp only[WB]at h;exact zbl ks as bs vs r row h
 | .ptr ow :: ks,[],bs,vs,r,row,h=>by simp[WB]at h
 | .ptr ow :: ks,a :: as,[],vs,r,row,h=>by cases a<;>simp[WB]at h
 | .ptr ow :: ks,a :: as,b :: bs,vs,r,row,h=>by
  cases a<;>try (simp[WB]at h;done)
  simp only[WB]at h
  by_cases hr:r=b
  ·subst hr;simp
  ·rw[DA _ _ _ _ hr]at h;exact List.mem_cons_of_mem _ (zbl ks as bs _ r row h)
omit [jA]in
def zws{ks:List sB}{as:List V}{bs ow:List Nat}{base:Nat}{shape:List (Bool×Nat)}{rs:List V}{r:Nat}{row:uA}(hl:rs.length≤128)
  (h:mF ks as bs ow base shape rs r=some row):r∈bs∨(base≤r∧r<base+128):=by
 unfold mF at h;rw[mM]at h;split at h
 ·rename_i x hx;exact .inl (zbl _ _ _ _ _ _ hx)
 ·obtain⟨_,_,_,h1,h2⟩:=LE _ _ _ _ _ _ h
  grind
omit [jA]in
def zba:∀(ks:List sB) (as:List V) (bs:List Nat) (vs:List V) (r:Nat) (row:uA),WB ks as bs vs (λ_=>none) r=some row→row.m= .own
 | [],as,bs,vs,r,row,h=>by cases as<;>simp[WB]at h
 | .plain :: ks,[],bs,vs,r,row,h=>by simp[WB]at h
 | .plain :: ks,a :: as,bs,vs,r,row,h=>by simp only[WB]at h;exact zba ks as bs vs r row h
 | .mv ow :: ks,[],bs,vs,r,row,h=>by simp[WB]at h
 | .mv ow :: ks,a :: as,bs,vs,r,row,h=>by simp only[WB]at h;exact zba ks as bs vs r row h
 | .ptr ow :: ks,[],bs,vs,r,row,h=>by simp[WB]at h
 | .ptr ow :: ks,a :: as,[],vs,r,row,h=>by cases a<;>simp[WB]at h
 | .ptr ow :: ks,a :: as,b :: bs,vs,r,row,h=>by
  cases a<;>try (simp[WB]at h;done)
  simp only[WB]at h
  by_cases hr:r=b
  ·subst hr;rw[RA]at h;cases h;rfl
  ·rw[DA _ _ _ _ hr]at h;exact zba ks as bs _ r row h
omit [jA]in
def zvz{ks:List sB}{as:List V}{bs ow:List Nat}{base:Nat}{shape:List (Bool×Nat)}{rs:List V}{r:Nat}{row:uA}(hl:rs.length≤128)
  (h:mF ks as bs ow base shape rs r=some row):row.m= .own:=by
 unfold mF at h;rw[mM]at h;split at h
 ·rename_i x hx;cases h;exact zba _ _ _ _ _ _ hx
 ·obtain⟨_,_,h0,_,_⟩:=LE _ _ _ _ _ _ h;rw[h0]
omit [jA]in
def zxg(ks:List sB)(as:List V)(bs ow:List Nat)(base:Nat)(shape:List (Bool×Nat))(rs:List V)(h:Nat→Option uA)(r:Nat):
  WB ks as bs ((SA ow base 0 rs).drop (kL shape)) (cB ow base h 0 rs) r=match mF ks as bs ow base shape rs r with | some x=>some x | none=>h r:=by
 unfold mF;rw[mM ks as bs _ (cB ow base h 0 rs),mM ks as bs _ (cB ow base (λ_=>none) 0 rs),xC ow base h];cases WB ks as bs ((SA ow base 0 rs).drop (kL shape)) (λ_=>none) r<;>rfl
omit [jA]in
def zmf{ci:bB}{as:List V}{bs:List Nat}{base:Nat}{rs:List V}{r:Nat}{row:uA}(hl:rs.length≤128)(h:rE ci as bs base rs r=some row):r∈bs∨(base≤r∧r<base+128):=by
 unfold rE at h;cases hp:ci.pb
 ·rw[hp]at h;exact zws hl h
 ·rw[hp]at h;simp only[cond_true]at h
  by_cases hr:r=base
  ·grind
  ·rw[DA _ _ _ _ hr]at h;cases h
omit [jA]in
def zgE{ci:bB}{as:List V}{bs:List Nat}{base:Nat}{rs:List V}{r:Nat}{row:uA}(hl:rs.length≤128)(h:rE ci as bs base rs r=some row):row.m= .own:=by
 unfold rE at h;cases hp:ci.pb
 ·rw[hp]at h;exact zvz hl h
 ·rw[hp]at h;simp only[cond_true]at h
  by_cases hr:r=base
  ·subst hr;rw[RA]at h;cases h;rfl
  ·rw[DA _ _ _ _ hr]at h;cases h
omit [jA]in
def DO(ci:bB)(as:List V)(bs:List Nat)(base:Nat)(rs:List V)(h:Nat→Option uA)(r:Nat):
  qH ci as bs base rs h r=match rE ci as bs base rs r with | some x=>some x | none=>h r:=by
 unfold rE qH;cases hp:ci.pb
 ·exact zxg _ _ _ _ _ _ _ _ _
 ·simp only[cond_true]
  by_cases hr:r=base
  ·subst hr;rw[RA,RA]
  ·rw[DA _ _ _ _ hr,DA _ _ _ _ hr]
def PF(h' h:Nat→Option uA):Prop:=∀r row',h' r=some row'→∃row,h r=some row∧row.c=row'.c∧(row'.m.isRo=false→row.m.isRo=false)
omit [jA]in
def PF.refl(h:Nat→Option uA):PF h h:=λ_ row' h=>⟨row',h,rfl,id⟩
omit [jA]in
def PF.trans{a b c:Nat→Option uA}(h:PF a b)(k:PF b c):PF a c:=λr row' hr=>by
 obtain⟨row,h1,h2,h3⟩:=h r row' hr;obtain⟨row2,k1,k2,k3⟩:=k r row h1
 grind
omit [jA]in
def nV(h:Nat→Option uA)(r:Nat):PF (CA h r none) h:=λq row' hq=>by
 by_cases mW:q=r
 ·subst mW;rw[RA]at hq;cases hq
 ·rw[DA _ _ _ _ mW]at hq;exact⟨row',hq,rfl,id⟩
omit [jA]in
def ML(ow:List Nat):∀(cs:List V) (p:Nat) (h:Nat→Option uA) (x:List V×(Nat→Option uA)),bE ow p cs h=some x→PF x.2 h
 | [],p,h,x,ht=>by simp[bE]at ht;subst ht;exact PF.refl h
 | c :: cs,p,h,x,ht=>by
  simp only[bE]at ht;cases hb:ow.any (Nat.beq p)
  ·simp only[hb,cond_false]at ht;split at ht
   case h_2=>cases ht
   split at ht
   case h_2=>cases ht
   rename_i hr;cases ht;exact(ML ow cs _ _ _ hr).trans (OU h _)
  ·simp only[hb,cond_true]at ht;split at ht
   ·split at ht
    case h_2=>cases ht
    split at ht
    case h_2=>cases ht
    rename_i hr;cases ht;exact(ML ow cs _ _ _ hr).trans (nV h _)
   ·split at ht
    case h_2=>cases ht
    rename_i hr;cases ht;have:=ML ow cs _ _ _ hr;exact this
   ·split at ht
    case h_2=>cases ht
    split at ht
    case h_2=>cases ht
    rename_i hr;cases ht;exact(ML ow cs _ _ _ hr).trans (nV h _)
   ·cases ht
omit [jA]in
def hU:∀(ks:List sB) (as:List V) (h:Nat→Option uA) (x:List V×(Nat→Option uA)×List Nat),zC ks as h=some x→PF x.2.1 h
 | [],[],h,x,ht=>by simp[zC]at ht;subst ht;exact PF.refl h
 | [],_ :: _,h,x,ht=>by simp[zC]at ht
 | .plain :: ks,[],h,x,ht=>by simp[zC]at ht
 | .ptr _ :: ks,[],h,x,ht=>by simp[zC]at ht
 | .mv _ :: ks,[],h,x,ht=>by simp[zC]at ht
 | .mv ow :: ks,v :: vs,h,x,ht=>by
  obtain⟨cs,rfl⟩:=zfy ht;simp only[zC]at ht;cases hb:Nat.ble cs.length 127
  case false=>simp[hb]at ht
  simp only[hb,cond_true]at ht;split at ht
  ·cases ht
  rename_i hl;split at ht
  ·cases ht
  rename_i hr;cases ht;exact(hU ks vs _ _ hr).trans (ML _ _ _ _ _ hl)
 | .plain :: ks,v :: vs,h,x,ht=>by
  simp only[zC]at ht;split at ht
  ·cases ht
  split at ht
  ·cases ht
  rename_i hr;cases ht;exact(hU ks vs _ _ hr).trans (OU h _)
 | .ptr ow :: ks,v :: vs,h,x,ht=>by
  obtain⟨r,rfl⟩:=zfg ht;simp only[zC]at ht;split at ht
  case h_2=>cases ht
  rename_i cs _;cases hb:Nat.ble cs.length 127
  case false=>simp[hb]at ht
  simp only[hb,cond_true]at ht;split at ht
  ·cases ht
  rename_i hl;split at ht
  ·cases ht
  rename_i hr;cases ht;exact(hU ks vs _ _ hr).trans ((ML _ _ _ _ _ hl).trans (nV h r))
section
variable {C:Cx} {w0:World} {outer own:Nat→Prop} {ρ:Nat→Option RI} {st st':St} {a:Act} {w:World} {h:Nat→Option uA}
def rB.sub(hh:rB w0 outer own ρ h w){w1:World}{outer' own':Nat→Prop}{e:Nat→Option uA}{ρe:Nat→Option RI}(φ:Nat→Nat)(EZ:Wx w1 w)
  (ZZ:∀b,b<w1.heap.size→¬own' b→w.heap[b]?=w1.heap[b]?) (FX:∀b,outer' b→b<w1.heap.size∧¬own' b)
  (JV:∀q row,e q=some row→∃row' ri,h (φ q)=some row'∧ρe q=some ri∧ρ (φ q)=some ri∧gE w ρe (tA outer' ρe e) ri row.c∧(ri.nl=false→¬outer' ri.b∧(row.m.isRo=false→w1.heap.size≤ri.b∨own' ri.b)))
  (hinj:∀q q' row row',e q=some row→e q'=some row'→φ q=φ q'→q=q'):rB w1 outer' own' ρe e w:=by
 refine⟨EZ,ZZ,FX,λq row hq=>?_,λq q' row row' qi qi' h1 h2 h3 h4 h5 h6 h7=>?_⟩
 ·obtain⟨row',ri,h1,h2,h3,h4,h5⟩:=JV q row hq;obtain⟨ri',k1,_,k2⟩:=hh.rows _ _ h1
  grind
 ·obtain⟨r1,ri1,g1,g2,g3,_,_⟩:=JV q row h1;obtain⟨r2,ri2,g4,g5,g6,_,_⟩:=JV q' row' h2;rw[h3]at g2;cases g2;rw[h4]at g5;cases g5;exact hinj q q' row row' h1 h2 (hh.inj _ _ _ _ _ _ g1 g4 g3 g6 h5 h6 h7)
variable {bad:Nat→Prop} {g:Nat→Option uA} {N0:Nat}
def yG.row{ks:List sB}{k:Nat}{as:List V}{bs:List Nat}{u:Nat→Value}(he:yG w ρ bad g N0 ks k as bs u):∀{q:Nat} {row:uA},FA ks k as q=some row→
  128 *k≤q∧q<128 *(k+ks.length)∧
  ((∃ b ow k' cs ri,uB ks k bs q=some b∧q=128 *k'+127∧k≤k'∧k'<k+ks.length∧row=⟨.box (SA ow (128 *k') 0 cs), .own⟩∧g b=some ⟨.box (SA ow (N0+128 *k') 0 cs), .own⟩∧ρ b=some ri∧ri.nl=false∧
    cs.length≤127∧(∀j (hj:j<cs.length),mD cs[j])∧b<N0∧∀p t l,cs[p]?=some (.sl t l)→ow.any (Nat.beq p)=true→FA ks k as (128 *k'+p)=some ⟨.arr t l, .own⟩)∨
  (∃t l,row=⟨.arr t l, .own⟩∧g (N0+q)=some row∧q % 128≠127)):=by
 induction he with
 | nil=>intro q row h;simp[FA]at h
 | plain hv hn hr ih=>
  rename_i ks k v as bs u;intro q row h;simp only[FA]at h;obtain⟨h1,h2,h3⟩:=ih h;refine⟨by omega,by simp;omega,?_⟩
  rcases h3 with⟨b,ow,k',cs,ri,e1,e2,e3,e4,e5,e6,e7,e8,e9,e10,e11,e12⟩ | h3
  ·exact .inl ⟨b,ow,k',cs,ri,e1,e2,by omega,by simp;omega,e5,e6,e7,e8,e9,e10,e11,λp t l h4 h5=>by simp only[FA];exact e12 p t l h4 h5⟩
  ·exact .inr h3
 | ptr ri hρ lW hu hg hl hq hc hb hr ih=>
  rename_i ow ks k b cs as bs u;intro q row h;simp only[FA]at h
  by_cases wZ:q=128 *k+127
  ·subst wZ;rw[RA]at h;cases h
   exact⟨by omega,by simp;omega, .inl ⟨b,ow,k,cs,ri,by simp[uB],rfl,Nat.le_refl _,by simp,rfl,hg,hρ,lW,hl,λj hj=>(hc j hj).1,hb,λp t l h4 h5=>by
    have hp:p<cs.length:=by
     grind
    simp only[FA];rw[DA _ _ _ _ (by omega),xC,zfJ ow (128 *k) cs 0 p t l (Nat.zero_le _) h4 h5]⟩⟩
  ·rw[DA _ _ _ _ wZ,xC]at h;split at h
   ·rename_i x hx;cases h;obtain⟨t,l,e1,e2,e3⟩:=LE _ _ _ _ _ _ hx;refine⟨by omega,by simp;omega, .inr ⟨t,l,e1,?_,by omega⟩⟩;have h1:=hq (q - 128 *k) (by omega);have h2:=TU ow (128 *k) (N0+128 *k) cs 0 (q - 128 *k)
    grind
   ·obtain⟨h1,h2,h3⟩:=ih h;refine⟨by omega,by simp;omega,?_⟩
    rcases h3 with⟨b',ow',k',cs',ri',e1,e2,e3,e4,e5,e6,e7,e8,e9,e10,e11,e12⟩ | h3
    ·refine .inl ⟨b',ow',k',cs',ri',?_,e2,by omega,by simp;omega,e5,e6,e7,e8,e9,e10,e11,λp t l h4 h5=>?_⟩
     ·simp only[uB];rw[if_neg wZ];exact e1
     ·have hp:p<cs'.length:=by
       grind
      simp only[FA];rw[DA _ _ _ _ (by omega),xC,dE _ _ _ _ _ (by omega)];exact e12 p t l h4 h5
    ·exact .inr h3
 | mv hv hl hq hc hr ih=>
  rename_i ow ks k cs as bs u;intro q row h;simp only[FA]at h;rw[xC]at h;split at h
  ·rename_i x hx;cases h;obtain⟨t,l,e1,e2,e3⟩:=LE _ _ _ _ _ _ hx;refine⟨by omega,by simp;omega, .inr ⟨t,l,e1,?_,by omega⟩⟩;have h1:=hq (q - 128 *k) (by omega);have h2:=TU ow (128 *k) (N0+128 *k) cs 0 (q - 128 *k)
   grind
  ·obtain⟨h1,h2,h3⟩:=ih h;refine⟨by omega,by simp;omega,?_⟩
   rcases h3 with⟨b',ow',k',cs',ri',e1,e2,e3,e4,e5,e6,e7,e8,e9,e10,e11,e12⟩ | h3
   ·refine .inl ⟨b',ow',k',cs',ri',e1,e2,by omega,by simp;omega,e5,e6,e7,e8,e9,e10,e11,λp t l h4 h5=>?_⟩
    have hp:p<cs'.length:=by
     grind
    simp only[FA];rw[xC,dE _ _ _ _ _ (by omega)];exact e12 p t l h4 h5
   ·exact .inr h3
def yG.vals{ks:List sB}{k:Nat}{as:List V}{bs:List Nat}{u:Nat→Value}(he:yG w ρ bad g N0 ks k as bs u){ρc:Nat→Option RI}{badc:Nat→Prop}
  (hb:∀b,badc b→bad b) (hρ:∀q b,uB ks k bs q=some b→ρc q=ρ b) (hρ2:∀q row,FA ks k as q=some row→q % 128≠127→ρc q=ρ (N0+q)):
  (SB ks k as).length=ks.length∧∀j (hj:j<(SB ks k as).length),VR w ρc badc (u j) (SB ks k as)[j]:=by
 induction he with
 | nil=>exact⟨rfl,λj hj=>by simp[SB]at hj⟩
 | plain hv hn hr ih=>
  rename_i ks k v as bs u;obtain⟨h1,h2⟩:=ih (λq b h=>hρ q b h) λq row h=>hρ2 q row h;refine⟨by simp[SB,h1],λj hj=>?_⟩;cases j with
  | zero=>exact(hv.noRef hn ρc).mono (λ_ _ h=>h) (λ_ _ _=>rfl) λb h=> .inl (hb b h)
  | succ j=>exact h2 j (by simpa[SB]using hj)
 | ptr ri hρb lW hu hg hl hq hc hb0 hr ih=>
  rename_i ow ks k b cs as bs u
  obtain⟨h1,h2⟩:=ih (λq b' h=>hρ q b' (by
   obtain⟨h3,_⟩:=FF _ _ _ _ _ h;simp only[uB];rw[if_neg (by omega)];exact h)) λq row h h3=>hρ2 q row (by
   have:=(hr.row h).1;simp only[FA];rw[DA _ _ _ _ (by omega),xC,dE _ _ _ _ _ (by omega)];exact h) h3
  refine⟨by simp[SB,h1],λj hj=>?_⟩;cases j with
  | zero=>
   show VR w ρc badc (u 0) (.bp (128 *k+127) 0)
   rw[hu];exact .bp _ _ ri (by rw[hρ (128 *k+127) b (by simp[uB])];exact hρb) lW
  | succ j=>exact h2 j (by simpa[SB]using hj)
 | mv hv hl hq hc hr ih=>
  rename_i ow ks k cs as bs u
  obtain⟨h1,h2⟩:=ih (λq b h=>hρ q b h) λq row h h3=>hρ2 q row (by
   have:=(hr.row h).1;simp only[FA];rw[xC,dE _ _ _ _ _ (by omega)];exact h) h3
  refine⟨by simp[SB,h1],λj hj=>?_⟩;cases j with
  | zero=>
   show VR w ρc badc (u 0) (.agg (SA ow (128 *k) 0 cs))
   generalize u 0=u0 at hv;cases hv with
   | agg _ vs hs JX=>
   refine .agg _ vs (by rw[DF];rw[DF]at hs;exact hs) ?_;refine ZU ow (N0+128 *k) (128 *k) cs 0 (λj=>vs.getD j undef) (λq' h3 h4 h5 h6=>?_) (λj hj=>(hc j hj).1) hb (λj hj=>JX j hj);obtain⟨t,l,h6⟩:=h6
   have h0:FA (.mv ow :: ks) k (.agg cs :: as) (128 *k+q')=some ⟨.arr t l, .own⟩:=by
    simp only[FA];rw[xC,zfJ ow (128 *k) cs 0 q' t l (Nat.zero_le _) h6 h5]
   have:=hρ2 _ _ h0 (by omega);rw[this];congr 1;omega
  | succ j=>exact h2 j (by simpa[SB]using hj)
def yG.found{ks:List sB}{k:Nat}{as:List V}{bs:List Nat}{u:Nat→Value}(he:yG w ρ bad g N0 ks k as bs u):∀{q b:Nat},uB ks k bs q=some b→∃row,FA ks k as q=some row:=by
 induction he with
 | nil=>intro q b h;simp[uB]at h
 | plain hv hn hr ih=>intro q b h;simp only[uB]at h;simp only[FA];exact ih h
 | ptr ri hρ lW hu hg hl hq hc hb hr ih=>
  rename_i ow ks k b0 cs as bs u;intro q b h;simp only[uB]at h;simp only[FA]
  by_cases wZ:q=128 *k+127
  ·subst wZ;exact⟨_,RA _ _ _⟩
  ·rw[if_neg wZ]at h;obtain⟨row,h1⟩:=ih h;have:=(FF _ _ _ _ _ h).1;rw[DA _ _ _ _ wZ,xC,dE _ _ _ _ _ (by omega)];exact⟨row,h1⟩
 | mv hv hl hq hc hr ih=>
  rename_i ow ks k cs as bs u;intro q b h;simp only[uB]at h;simp only[FA];obtain⟨row,h1⟩:=ih h;have:=(FF _ _ _ _ _ h).1;rw[xC,dE _ _ _ _ _ (by omega)];exact⟨row,h1⟩
def yG.surj{ks:List sB}{k:Nat}{as:List V}{bs:List Nat}{u:Nat→Value}(he:yG w ρ bad g N0 ks k as bs u):∀b∈bs,∃q,uB ks k bs q=some b:=by
 induction he with
 | nil=>intro b hb;simp at hb
 | plain hv hn hr ih=>intro b hb;obtain⟨q,h⟩:=ih b hb;exact⟨q,h⟩
 | mv hv hl hq hc hr ih=>intro b hb;obtain⟨q,h⟩:=ih b hb;exact⟨q,h⟩
 | ptr ri hρb lW hu hg hl hq hc hb0 hr ih=>
  rename_i ow ks k b cs as bs u;intro b' LX
  rcases List.mem_cons.1 LX with rfl | LX
  ·exact⟨128 *k+127,by simp[uB]⟩
  ·obtain⟨q,h⟩:=ih b' LX;refine⟨q,?_⟩;have:=(FF _ _ _ _ _ h).1;simp only[uB];rw[if_neg (by omega)];exact h
def zbf{bad2:Nat→Prop}{ri:RI}{t:TN}{l:List (El t)}(hr:gE w ρ bad ri (.arr t l))(hb:∀b,bad2 b→bad b)(ρ2:Nat→Option RI):gE w ρ2 bad2 ri (.arr t l):=by
 refine⟨hr.1,?_⟩
 rcases hr.2 with h | ⟨h1,he,h2,h3,h4,h5⟩
 ·exact .inl h
 ·refine .inr ⟨h1,he,h2,h3,h4,λi hi j hj=>?_⟩;obtain⟨u,h6,h7⟩:=h5 i hi j hj;exact⟨u,h6,(h7.noRef (λS=>RM S t _ j) ρ2).mono (λ_ _ h=>h) (λ_ _ _=>rfl) λb h=> .inl (hb b h)⟩
end
end Go.D
namespace Go.D
variable [jA]
inductive Rk(m:Nat):V→Prop where
 | undef:Rk m .undef
 | bool (b:Bool):Rk m (.bool b)
 | int (k:IntKind) (n:Int):Rk m (.int k n)
 | str (s:List UInt8):Rk m (.str s)
 | nil:Rk m .nil
 | sl (t:TN) (l:List (El t)) (h:t.rank<m):Rk m (.sl t l)
 | ow (r:Nat):Rk m (.ow r)
 | bp (r off:Nat):Rk m (.bp r off)
 | agg (cs:List V) (h:∀c∈cs,Rk m c):Rk m (.agg cs)
 | tup (cs:List V) (h:∀c∈cs,Rk m c):Rk m (.tup cs)
 | nili:Rk m .nili
 | ifc (b:Bool):Rk m (.ifc b)
def zhn(m:Nat):V→Bool
 | .sl t _=>Nat.blt t.rank m
 | .bool _ | .int _ _ | .str _ | .nil | .undef | .nili | .ifc _=>true
 | _=>false
omit [jA]in
def Rk.of_low{m:Nat}{v:V}(h:zhn m v=true):Rk m v:=by
 cases v<;>simp only[zhn]at h<;>try (cases h;done)
 ·exact .undef
 ·exact .bool _
 ·exact .int _ _
 ·exact .str _
 ·exact .nil
 ·exact .sl _ _ (by simpa[Nat.blt_eq]using h)
 ·exact .nili
 ·exact .ifc _
omit [jA]in
def Rk.mono{m m':Nat}(hm:m≤m'){v:V}(h:Rk m v):Rk m' v:=by
 induction h with
 | undef=>exact .undef
 | bool=>exact .bool _
 | int=>exact .int _ _
 | str=>exact .str _
 | nil=>exact .nil
 | sl t l h=>exact .sl _ _ (Nat.lt_of_lt_of_le h hm)
 | ow=>exact .ow _
 | bp=>exact .bp _ _
 | agg cs h ih=>exact .agg _ ih
 | tup cs h ih=>exact .tup _ ih
 | nili=>exact .nili
 | ifc=>exact .ifc _
omit [jA]in
def zvR(t:TN)(x:El t):(enc t x).all (zhn t.rank)=true:=by cases t<;>rfl
omit [jA]in
def zlb(t:TN)(x:El t)(j:Nat):Rk t.rank ((enc t x).getD j .undef):=by
 rw[List.getD_eq_getElem?_getD]
 by_cases hj:j<(enc t x).length
 ·rw[List.getElem?_eq_getElem hj];exact .of_low (List.all_eq_true.1 (zvR t x) _ (List.getElem_mem hj))
 ·rw[List.getElem?_eq_none (by omega)];exact .undef
variable {w:World} {ρ:Nat→Option RI} {bad bad':Nat→Prop} {v:Value} {d:V}
def VR.widen(h:VR w ρ bad v d){m:Nat}(hd:Rk m d)(hb:∀b,bad' b→bad b∨(jA.base≤b∧∃t,MF w b t∧m≤t.rank)):VR w ρ bad' v d:=by
 induction h with
 | undef=>exact .undef _
 | bool=>exact .bool _
 | int k n h=>exact .int _ _ h
 | str s h=>exact .str _ h
 | nil=>exact .nil
 | slE t a cap h=>exact .slE _ _ _ h
 | slC t l b off cap u hb0 hl hc he hu hv ih=>
  cases hd with | sl _ _ hr=>
  by_cases E2:l.length=0
  ·obtain rfl:l=[]:=List.eq_nil_of_length_eq_zero E2;exact .slE _ _ _ hc
  ·refine .slC t l b off cap u (λh=>?_) hl hc he hu λi hi j hj=>ih i hi j hj ((zlb t l[i] j).mono (Nat.le_of_lt hr))
   rcases hb b h with h | ⟨h1,t',h2,h3⟩
   ·exact hb0 h
   ·rcases he (by rintro rfl;simp at E2)with h4 | h4
    ·omega
    ·have:=h4.uniq h2;subst this;omega
 | ow r ri h hn hc lW=>exact .ow _ _ h hn hc lW
 | owN r ri ao h hn lW=>exact .owN _ _ _ h hn lW
 | ov=>cases hd
 | bp r off ri h lW=>exact .bp _ _ _ h lW
 | ep=>cases hd
 | fp=>cases hd
 | fn=>cases hd
 | agg cs vs hs hv ih=>cases hd with | agg _ hd=>exact .agg _ _ hs λj hj=>ih j hj (hd _ (List.getElem_mem hj))
 | tup cs vs hs hv ih=>cases hd with | tup _ hd=>exact .tup _ _ hs λj hj=>ih j hj (hd _ (List.getElem_mem hj))
 | nili=>exact .nili
 | ifc=>exact .ifc _ _
 | ifn=>exact .ifn
def zef(m:Nat):uF→Prop
 | .box cs=>∀c∈cs,Rk m c
 | .arr t _=>t.rank≤m
def gE.keepR{w':World}{ρ':Nat→Option RI}{ri:RI}{c:uF}{m:Nat}(hr:gE w ρ bad ri c)(hc:zef m c)
  (hw:ri.nl=false→w'.heap[ri.b]?=w.heap[ri.b]?)
  (hv:∀u d,Rk m d→VR w ρ bad u d→VR w' ρ' bad' u d):gE w' ρ' bad' ri c:=by
 cases c with
 | box cs=>
  refine⟨hr.1,λj hj=>?_⟩;obtain⟨h1,u,h2,h3⟩:=hr.2 j hj;have hb:=hw hr.1;exact⟨by rw[←h1];simp[World.frozen?,at_,hb],u,by rw[←h2];exact YJ hb,hv _ _ (hc _ (List.getElem_mem hj)) h3⟩
 | arr t l=>
  refine⟨hr.1,?_⟩
  rcases hr.2 with h | ⟨h0,he,h1,h2,h3,h4⟩
  ·exact .inl h
  ·have hb:=hw h0;refine .inr ⟨h0,he.same hb,h1,h2,λj hj=>?_,λi hi j hj=>?_⟩
   ·have:=h3 j hj;exact⟨by rw[←this.1];simp[World.frozen?,at_,hb],by rw[←this.2];congr 1;exact YJ hb⟩
   ·obtain⟨u,h5,h6⟩:=h4 i hi j hj;exact⟨u,by rw[←h5];exact YJ hb,hv _ _ ((zlb t _ j).mono hc) h6⟩
omit [jA]in
def ztF{m:Nat}{v:V}(h:MM v=true):Rk m v:=by
 cases v<;>simp[MM]at h
 ·exact .bool _
 ·exact .int _ _
 ·exact .str _
omit [jA]in
def zdr(ow:List Nat)(base:Nat):∀(vs:List V) (p m m':Nat),TE ow p vs=some m→m≤m'→
  (∀v∈SA ow base p vs,Rk m' v)∧∀q t l,cB ow base (λ_=>none) p vs q=some ⟨.arr t l, .own⟩→t.rank≤m'
 | [],p,m,m',h,hm=>⟨λv hv=>by simp[SA]at hv,λq t l hq=>by simp[cB]at hq⟩
 | v :: vs,p,m,m',h,hm=>by
  cases v
  case sl t l=>
   simp only[TE]at h;split at h
   case h_2=>cases h
   rename_i m1 h1;cases h;have hm1:m1≤m':=Nat.le_trans (Nat.le_max_right _ _) hm;have A4:=Nat.le_trans (Nat.le_max_left _ _) hm;obtain⟨i1,i2⟩:=zdr ow base vs (p+1) m1 m' h1 hm1;cases ho:ow.any (Nat.beq p)
   ·simp only[ho,cond_false]at A4;simp only[SA,cB,ho,cond_false];refine⟨λv hv=>?_,i2⟩
    rcases List.mem_cons.1 hv with rfl | hv
    ·exact .sl _ _ (by omega)
    ·exact i1 v hv
   ·simp only[ho,cond_true]at A4;simp only[SA,cB,ho,cond_true];refine⟨λv hv=>?_,λq t' l' hq=>?_⟩
    ·rcases List.mem_cons.1 hv with rfl | hv
     ·exact .ow _
     ·exact i1 v hv
    ·by_cases O3:q=base+p
     ·subst O3;rw[RA]at hq;cases hq;exact A4
     ·rw[DA _ _ _ _ O3]at hq;exact i2 q t' l' hq
  case nil=>
   simp only[TE]at h;obtain⟨i1,i2⟩:=zdr ow base vs (p+1) m m' h hm;simp only[SA,cB];refine⟨λv hv=>?_,i2⟩
   rcases List.mem_cons.1 hv with rfl | hv
   ·exact .nil
   ·exact i1 v hv
  all_goals
   simp only[TE]at h
   first
   | (simp only[MM,cond_false]at h;cases h;done)
   | (simp only [MM,cond_true] at h
      obtain⟨i1,i2⟩:=zdr ow base vs (p+1) m m' h hm;simp only[SA,cB];refine⟨λv hv=>?_,i2⟩
      rcases List.mem_cons.1 hv with rfl | hv
      ·exact ztF rfl
      ·exact i1 v hv)
omit [jA]in
def zlc{m:Nat}:∀(sh:List (Bool×Nat)) (vs:List V),(∀v∈vs,Rk m v)→∀v∈UE sh vs,Rk m v
 | [],vs,h,v,hv=>by simp[UE]at hv
 | (ag,n) :: sh,vs,h,v,hv=>by
  simp only[UE]at hv
  rcases List.mem_cons.1 hv with rfl | hv
  ·cases ag
   ·cases vs with
    | nil=>exact .undef
    | cons x vs=>exact h x (by simp)
   ·exact .agg _ λc hc=>h c (List.mem_of_mem_take hc)
  ·exact zlc sh (vs.drop n) (λv hv=>h v (List.mem_of_mem_drop hv)) v hv
omit [jA]in
def zv7{m:Nat}(sh:List (Bool×Nat))(vs:List V)(h:∀v∈vs,Rk m v):Rk m (BI sh vs):=by
 have:=zlc sh vs h;unfold BI;split
 ·grind
 ·exact .tup _ this
omit [jA]in
def zcU{m:Nat}:∀(ks:List sB) (as:List V) (bs:List Nat) (vs:List V) (r:Nat) (row:uA),(∀v∈vs,Rk m v)→WB ks as bs vs (λ_=>none) r=some row→zef m row.c
 | [],as,bs,vs,r,row,hv,h=>by cases as<;>simp[WB]at h
 | .plain :: ks,[],bs,vs,r,row,hv,h=>by simp[WB]at h
 | .plain :: ks,a :: as,bs,vs,r,row,hv,h=>by simp only[WB]at h;exact zcU ks as bs vs r row hv h
 | .mv ow :: ks,[],bs,vs,r,row,hv,h=>by simp[WB]at h
 | .mv ow :: ks,a :: as,bs,vs,r,row,hv,h=>by simp only[WB]at h;exact zcU ks as bs vs r row hv h
 | .ptr ow :: ks,[],bs,vs,r,row,hv,h=>by simp[WB]at h
 | .ptr ow :: ks,a :: as,[],vs,r,row,hv,h=>by cases a<;>simp[WB]at h
 | .ptr ow :: ks,a :: as,b :: bs,vs,r,row,hv,h=>by
  cases a<;>try (simp[WB]at h;done)
  simp only[WB]at h
  by_cases hr:r=b
  ·subst hr;rw[RA]at h;cases h;exact λc hc=>hv c (List.mem_of_mem_take hc)
  ·rw[DA _ _ _ _ hr]at h;exact zcU ks as bs _ r row (λv F3=>hv v (List.mem_of_mem_drop F3)) h
omit [jA]in
def zwD{ci:bB}{as:List V}{bs:List Nat}{base:Nat}{rs:List V}{m:Nat}(hm:TE ci.own 0 rs=some m)(hp:ci.pb=false):
  (∀r row,rE ci as bs base rs r=some row→zef m row.c)∧Rk m (CJ ci base rs):=by
 obtain⟨h1,h2⟩:=zdr ci.own base rs 0 m m hm (Nat.le_refl _);refine⟨λr row h=>?_,?_⟩
 ·unfold rE mF at h;rw[hp,cond_false,mM]at h;split at h
  ·rename_i x hx;cases h;exact zcU _ _ _ _ _ _ (λv hv=>h1 v (List.mem_of_mem_drop hv)) hx
  ·obtain⟨t,l,h0,_,_⟩:=LE _ _ _ _ _ _ h;subst h0;exact h2 r t l h
 ·unfold CJ;rw[hp,cond_false];exact zv7 _ _ h1
end Go.D
namespace Go.D
variable [jA]
structure gG(C:Cx):Prop where
 ok:∀k ci,C.Φ k=some ci→BB C.P (k % 1048576) ci C.g
section
variable {C:Cx} {w0:World} {outer own:Nat→Prop} {ρ:Nat→Option RI} {st st':St} {a:Act} {w:World} {h:Nat→Option uA}
def ZA.grow(hr:ZA C w0 outer own ρ st a w){w1:World}(hx:Wx w w1)(ho:∀b,b<w.heap.size→w1.heap[b]?=w.heap[b]?):ZA C w0 outer own ρ st a w1:=by
 have hv:∀u d,VR w ρ (tA outer ρ st.h) u d→VR w1 ρ (tA outer ρ st.h) u d:=λu d hu=>hu.mono (λ_ _ h=>h) (λb _ hb=>ho b hb) λb hb=> .inl hb;refine⟨⟨hr.heap.wx.trans hx,λb hb hn=>(ho b (Nat.lt_of_lt_of_le hb hr.heap.wx.size)).trans (hr.heap.old b hb hn),hr.heap.outLt,λr row h=>?_,hr.heap.inj⟩,λi=>hv _ _ (hr.slots i),hr.size,hr.defers,hr.glob⟩;obtain⟨ri,h1,h2,h3⟩:=hr.heap.rows r row h;exact⟨ri,h1,h2.keep (λhn=>ho _ (h3 hn).2) hv,λhn=>⟨(h3 hn).1,Nat.lt_of_lt_of_le (h3 hn).2 hx.size⟩⟩
inductive Sc:V→Prop where
 | undef:Sc .undef
 | bool (b:Bool):Sc (.bool b)
 | int (k:IntKind) (n:Int):Sc (.int k n)
 | str (s:List UInt8):Sc (.str s)
 | nil:Sc .nil
 | ow (r:Nat):Sc (.ow r)
 | agg (cs:List V) (h:∀c∈cs,Sc c):Sc (.agg cs)
 | tup (cs:List V) (h:∀c∈cs,Sc c):Sc (.tup cs)
def VR.sc{ρ':Nat→Option RI}{bad bad':Nat→Prop}{w':World}{v:Value}{d:V}(h:VR w ρ bad v d)(hs:Sc d)(hρ:∀r ri,ρ r=some ri→ρ' r=some ri):VR w' ρ' bad' v d:=by
 induction h with
 | undef=>exact .undef _
 | bool=>exact .bool _
 | int k n h=>exact .int _ _ h
 | str s h=>exact .str _ h
 | nil=>exact .nil
 | ow r ri h h1 h2 h3=>exact .ow _ _ (hρ _ _ h) h1 h2 h3
 | owN r ri ao h h1 h2=>exact .owN _ _ _ (hρ _ _ h) h1 h2
 | agg cs vs YV hv ih=>
  cases hs with
  | agg _ hs=>exact .agg _ _ YV λj hj=>ih j hj (hs _ (List.getElem_mem hj))
 | tup cs vs YV hv ih=>
  cases hs with
  | tup _ hs=>exact .tup _ _ YV λj hj=>ih j hj (hs _ (List.getElem_mem hj))
 | _=>cases hs
omit [jA]in
def zd8{v:V}(h:MM v=true):Sc v:=by
 cases v<;>simp[MM]at h
 ·exact .bool _
 ·exact .int _ _
 ·exact .str _
omit [jA]in
def zwR{t:TN}(h:t.flat=true)(x:El t)(j:Nat):Sc ((enc t x).getD j .undef):=by
 have hall:∀c∈enc t x,Sc c:=by
  cases t<;>simp[TN.flat]at h<;>intro c hc<;>simp[enc]at hc<;>(try subst hc)<;>(try exact zd8 rfl)<;>(repeat' (rcases hc with rfl | hc))<;>(try subst hc)<;>first | exact zd8 rfl | skip
  all_goals (simp[zdj,zcI,zc8,zdg]at hc;repeat' (rcases hc with rfl | hc))<;>(try subst hc)<;>exact zd8 rfl
 rw[List.getD_eq_getElem?_getD]
 by_cases hj:j<(enc t x).length
 ·rw[List.getElem?_eq_getElem hj];exact hall _ (List.getElem_mem hj)
 ·rw[List.getElem?_eq_none (by omega)];exact .undef
omit [jA]in
def zk5:∀(sh:List (Bool×Nat)) (vs:List V),(∀v∈vs,Sc v)→∀v∈UE sh vs,Sc v
 | [],vs,h,v,hv=>by simp[UE]at hv
 | (ag,n) :: sh,vs,h,v,hv=>by
  simp only[UE]at hv
  rcases List.mem_cons.1 hv with rfl | hv
  ·cases ag
   ·cases vs with
    | nil=>exact .undef
    | cons x vs=>exact h x (by simp)
   ·exact .agg _ λc hc=>h c (List.mem_of_mem_take hc)
  ·exact zk5 sh (vs.drop n) (λv hv=>h v (List.mem_of_mem_drop hv)) v hv
omit [jA]in
def zv9(sh:List (Bool×Nat))(vs:List V)(h:∀v∈vs,Sc v):Sc (BI sh vs):=by
 have:=zk5 sh vs h;unfold BI;split
 ·rename_i v hv;exact this v (by rw[hv];simp)
 ·exact .tup _ this
omit [jA]in
def zgv(ow:List Nat)(base:Nat):∀(vs:List V) (p:Nat),zar ow p vs=true→(∀v∈SA ow base p vs,Sc v)∧∀q t l,cB ow base (λ_=>none) p vs q=some ⟨.arr t l, .own⟩→t.flat=true
 | [],p,h=>⟨λv hv=>by simp[SA]at hv,λq t l hq=>by simp[cB]at hq⟩
 | v :: vs,p,h=>by
  cases v<;>simp only[zar,Bool.and_eq_true]at h
  case sl t l=>
   obtain⟨⟨h1,h2⟩,h3⟩:=h;obtain⟨i1,i2⟩:=zgv ow base vs (p+1) h3;simp only[SA,cB,h1,cond_true];refine⟨λv hv=>?_,λq t' l' hq=>?_⟩
   ·rcases List.mem_cons.1 hv with rfl | hv
    ·exact .ow _
    ·exact i1 v hv
   ·by_cases O3:q=base+p
    ·subst O3;rw[RA]at hq;cases hq;exact h2
    ·rw[DA _ _ _ _ O3]at hq;exact i2 q t' l' hq
  all_goals
   obtain⟨h1,h3⟩:=h;obtain⟨i1,i2⟩:=zgv ow base vs (p+1) h3;simp only[SA,cB];refine⟨λv hv=>?_,i2⟩
   rcases List.mem_cons.1 hv with rfl | hv
   ·exact zd8 h1
   ·exact i1 v hv
omit [jA]in
def ziI:∀(ks:List sB) (as:List V) (bs:List Nat) (vs:List V) (h:Nat→Option uA),ks.all sB.isPlain=true→WB ks as bs vs h=h
 | [],as,bs,vs,h,hp=>by cases as<;>rfl
 | .plain :: ks,[],bs,vs,h,hp=>rfl
 | .plain :: ks,a :: as,bs,vs,h,hp=>by
  simp only[List.all_cons,Bool.and_eq_true]at hp;show WB ks as bs vs h=h
  exact ziI ks as bs vs h hp.2
 | .ptr _ :: ks,as,bs,vs,h,hp=>by simp[sB.isPlain]at hp
 | .mv _ :: ks,as,bs,vs,h,hp=>by simp[sB.isPlain]at hp
omit [jA]in
def zjC:∀(ks:List sB) (k:Nat) (as:List V),ks.all sB.isPlain=true→FA ks k as=λ_=>none
 | [],k,as,h=>by cases as<;>rfl
 | .plain :: ks,k,[],h=>rfl
 | .plain :: ks,k,a :: as,h=>by
  simp only[List.all_cons,Bool.and_eq_true]at h;show FA ks (k+1) as=_
  exact zjC ks (k+1) as h.2
 | .ptr _ :: ks,k,as,h=>by simp[sB.isPlain]at h
 | .mv _ :: ks,k,as,h=>by simp[sB.isPlain]at h
omit [jA]in
def zkI(h:Nat→Option uA):PF (LO h) h:=λr row' hr=>by
 unfold LO at hr;split at hr
 ·rename_i c h1;cases hr;exact⟨_,h1,rfl,λ_=>rfl⟩
 ·exact⟨row',hr,rfl,id⟩
omit [jA]in
def ztc(h:Nat→Option uA):PF h (LO h):=λr row hr=>by
 unfold LO;obtain⟨c,m⟩:=row;cases m
 ·exact⟨_,by rw[hr],rfl,λ_=>rfl⟩
 ·exact⟨_,by rw[hr],rfl,λh=>h⟩
 ·exact⟨⟨c, .own⟩,by rw[hr],rfl,λ_=>rfl⟩
def ZA.less(hr:ZA C w0 outer own ρ st a w){h':Nat→Option uA}(hl:PF h' st.h):ZA C w0 outer own ρ {st with h:=h'} a w:=
 ⟨(hr.heap.less hl).1,λi=>(hr.heap.less hl).2 _ _ (hr.slots i),hr.size,hr.defers,hr.glob⟩
variable {o:Oper} {i:Nat} (hr:ZA C w0 outer own ρ st a w)
include hr
def zlz(pY:∃N,∀r,N≤r→ρ r=none)(OW:∀q,q<128→ρ (i+q)=none)(f:Nat)(args:Array Value)(as:List V)(YV:args.size=as.length)
  (FW:∀j (hj:j<as.length),VR w ρ (tA outer ρ st.h) (args.getD j undef) as[j]) (fW:(execOp a.eval o).run C.P w=(callFunc f args).run C.P w)
  {ci:bB} (X8:BB C.P f ci C.g) {as':List V} {h':Nat→Option uA} {bs:List Nat} (m0:zC ci.ks as st.h=some (as',h',bs)) {x:ci.A} (KZ:ci.dA as'=some x) {r:ci.R} (hF:ci.F x=some r)
  (yW:(ci.eR r).length≤128) (hk:VA C o.dst {st with h:=qH ci as' bs i (ci.eR r) (vL ci (ci.eR r) st.h h')} (CJ ci i (ci.eR r)) some=some st'):
  NC C.P o a w (JC C w0 outer own i ρ st'):=by
 obtain⟨N,hN⟩:=pY
 -- the arguments
 have hhN:∀q,N≤q→st.h q=none:=λq hq=>by
  cases hg:st.h q with
  | none=>rfl
  | some row=>obtain⟨ri,h3,_⟩:=hr.heap.rows _ _ hg;rw[hN q hq]at h3;cases h3
 obtain⟨ρ',g',c1,c2,c3,c4,c5,c6,c7,c8,c9,CG,lG⟩:=zcO N ci.ks as st.h h' as' bs 0 ρ st.h (λj=>args.getD j undef) m0 hr.heap FW (λ_ _ h=>h) (λr hr=>hN r (by omega)) hhN;have gW:=hU _ _ _ _ m0;simp only at gW;let φ:Nat→Nat:=λq=>(uB ci.ks 0 bs q).getD (N+q);let E:=FA ci.ks 0 as';let ρc:Nat→Option RI:=λq=>if(E q).isSome=true then ρ' (φ q)else none
 let ownc:Nat→Prop:=λb=>∃q row ri,E q=some row∧ρc q=some ri∧ri.nl=false∧ri.b=b;let outc:Nat→Prop:=tA outer ρ' h'
 have hbN:∀b∈bs,b<N:=λb hb=>by
  rcases Nat.lt_or_ge b N with h3 | h3
  ·exact h3
  ·exact absurd (hhN b h3) (c8 b hb).2
 have hφbox:∀q b,uB ci.ks 0 bs q=some b→φ q=b:=λq b h=>by simp[φ,h]
 have hφarr:∀q,q % 128≠127→φ q=N+q:=λq hq=>by
  have:uB ci.ks 0 bs q=none:=by
   cases hb:uB ci.ks 0 bs q with
   | none=>rfl
   | some b=>exact absurd (FF _ _ _ _ _ hb).2.1 hq
  simp[φ,this]
 -- the rows of the entry
 have hE:∀q row,E q=some row→∃row' ri,g' (φ q)=some row'∧row'.m= .own∧h' (φ q)=none∧ρc q=some ri∧ρ' (φ q)=some ri:=λq row hq=>by
  obtain⟨h1,h2,h3⟩:=c7.row hq;have OV:(E q).isSome=true:=by show(FA ci.ks 0 as' q).isSome=true;have h0:FA ci.ks 0 as' q=some row:=hq;rw[h0];rfl
  rcases h3 with⟨b,ow,k',cs,ri,e1,e2,e3,e4,e5,e6,e7,e8⟩ | ⟨t,l,e1,e2,e3⟩
  ·refine⟨_,ri,by rw[hφbox q b e1];exact e6,rfl,by rw[hφbox q b e1];exact(c8 b (FF _ _ _ _ _ e1).2.2).1,?_,by rw[hφbox q b e1];exact e7⟩;simp only[ρc,OV,if_true,hφbox q b e1,e7]
  ·obtain⟨ri,f1,_⟩:=c1.rows _ _ e2;subst e1;refine⟨_,ri,by rw[hφarr q e3];exact e2,rfl,by rw[hφarr q e3];exact c3 _ (hhN _ (by omega)),?_,by rw[hφarr q e3];exact f1⟩;simp only[ρc,OV,if_true,hφarr q e3,f1]
 have O4:∀b,ownc b→∃q row ri,g' q=some row∧row.m= .own∧h' q=none∧ρ' q=some ri∧ri.nl=false∧ri.b=b:=by
  rintro b ⟨q,row,ri,h1,h2,h3,h4⟩;obtain⟨row',ri',f1,f2,f3,f4,f5⟩:=hE q row h1;rw[h2]at f4;cases f4;exact⟨_,row',ri,f1,f2,f3,f5,h3,h4⟩
 have XV:∀q row,h' q=some row→∃ri,ρ' q=some ri∧(ri.nl=false→¬ownc ri.b∧ri.b<w.heap.size∧(¬outer ri.b∧(row.m.isRo=false→w0.heap.size≤ri.b∨own ri.b))):=λq row hq=>by
  obtain⟨ri,f1,_,f2⟩:=c1.rows q row (c2 q row hq);refine⟨ri,f1,λhn=>⟨λho=>?_,(f2 hn).2,(f2 hn).1⟩⟩;obtain⟨q',row',ri',e1,e2,e3,e4,e5,e6⟩:=O4 _ ho;have:=c1.inj q q' row row' ri ri' (c2 q row hq) e1 f1 e4 hn e5 e6.symm;subst this;rw[hq]at e3;cases e3
 have RX:∀b,ownc b→b<w.heap.size∧(w0.heap.size≤b∨own b):=λb hb=>by
  obtain⟨q',row',ri',e1,e2,e3,e4,e5,e6⟩:=O4 _ hb;obtain⟨ri2,f1,_,f2⟩:=c1.rows q' row' e1;rw[e4]at f1;cases f1;rw[←e6];exact⟨(f2 e5).2,(f2 e5).1.2 (by rw[e2];rfl)⟩
 have FX:∀b,outc b→b<w.heap.size∧¬ownc b:=by
  rintro b (hb | ⟨q,row,ri,f1,f2,f3,f4,f5⟩)
  ·obtain⟨g1,g2⟩:=c1.outLt b hb;refine⟨Nat.lt_of_lt_of_le g1 c1.wx.size,λho=>?_⟩
   rcases(RX b ho).2 with h3 | h3
   ·omega
   ·exact g2 h3
  ·obtain⟨ri',k1,k2⟩:=XV q row f1;rw[f3]at k1;cases k1;rw[←f5];exact⟨(k2 f4).2.1,(k2 f4).1⟩
 have Y0:∀b,tA outc ρc E b→tA outer ρ' g' b:=by
  rintro b (hb | ⟨q,row,ri,f1,f2,f3,f4,f5⟩)
  ·exact hb.mono λq row h1 h2=>⟨row,c2 q row h1,h2⟩
  ·obtain⟨row',ri',k1,k2,k3,k4,k5⟩:=hE q row f1;rw[f3]at k4;cases k4;exact .inr ⟨_,row',ri,k1,by rw[k2];rfl,k5,f4,f5⟩
 have hρcbox:∀q b,uB ci.ks 0 bs q=some b→q<128 *ci.ks.length→ρc q=ρ' b:=λq b h _=>by
  obtain⟨row,h0⟩:=c7.found h;have OV:(E q).isSome=true:=by show(FA ci.ks 0 as' q).isSome=true;rw[h0];rfl
  simp only[ρc,OV,if_true,hφbox q b h]
 have Z0:∀q b,uB ci.ks 0 bs q=some b→q<128 *ci.ks.length:=λq b h=>by have:=zcT _ _ _ _ _ h;omega
 have P4:rB w outc ownc ρc E w:=by
  refine c1.sub φ (Wx.refl _) (λ_ _ _=>rfl) FX (λq row hq=>?_) (λq q' row row' h1 h2 h3=>?_)
  ·obtain⟨h1,h2,h3⟩:=c7.row hq;obtain⟨row',ri,f1,f2,f3,f4,f5⟩:=hE q row hq;refine⟨row',ri,f1,f4,f5,?_,λhn=>⟨λho=>(FX _ ho).2 ⟨q,row,ri,hq,f4,hn,rfl⟩,λ_=> .inr ⟨q,row,ri,hq,f4,hn,rfl⟩⟩⟩;obtain⟨ri2,k1,k2,_⟩:=c1.rows _ _ f1;rw[f5]at k1;cases k1
   rcases h3 with⟨b,ow,k',cs,ri',e1,e2,e3,e4,e5,e6,e7,e8,e9,e10,e11,e12⟩ | ⟨t,l,e1,e2,e3⟩
   ·rw[hφbox q b e1,e6]at f1;cases f1;subst e5;refine⟨k2.1,λj hj=>?_⟩;rw[DF]at hj;obtain⟨g1,x,g2,g3⟩:=k2.2 j (by rw[DF];exact hj);refine⟨g1,x,g2,?_⟩
    have:=ZU (w:=w) (ρ:=ρ') (ρ2:=ρc) (bad:=tA outer ρ' g') (bad2:=tA outc ρc E) ow (N+128 *k') (128 *k') cs 0 (λj=>(w.cell? (at_ ri.b j)).getD undef) (λq' _ h4 h5 h6=>by
      obtain⟨t,l,h6⟩:=h6;have h0:=e12 q' t l (by simpa using h6) h5;have OV:(E (128 *k'+q')).isSome=true:=by show(FA ci.ks 0 as' (128 *k'+q')).isSome=true;rw[h0];rfl
      simp only[ρc,OV,if_true];rw[hφarr _ (by omega)];congr 1;omega) e10 Y0 (λj hj=>by
      obtain⟨_,x,g2,g3⟩:=k2.2 j hj;rw[g2];exact g3) j (by rw[DF];exact hj)
    rw[g2]at this;exact this
   ·subst e1;rw[hφarr q e3,e2]at f1;cases f1;exact zbf k2 Y0 ρc
  ·obtain⟨_,_,h4⟩:=c7.row h1;obtain⟨_,_,h5⟩:=c7.row h2
   rcases h4 with⟨b,_,_,_,_,e1,_⟩ | ⟨_,_,_,_,e3⟩<;>rcases h5 with⟨b',_,_,_,_,e1',_⟩ | ⟨_,_,_,_,e3'⟩
   ·rw[hφbox q b e1,hφbox q' b' e1']at h3;subst h3;exact oV _ _ _ _ _ _ c9 e1 e1'
   ·rw[hφbox q b e1,hφarr q' e3']at h3;have:=hbN b (FF _ _ _ _ _ e1).2.2;omega
   ·rw[hφbox q' b' e1',hφarr q e3]at h3;have:=hbN b' (FF _ _ _ _ _ e1').2.2;omega
   ·rw[hφarr q e3,hφarr q' e3']at h3;omega
 obtain⟨I2,hv2⟩:=c7.vals Y0 (λq b h=>hρcbox q b h (Z0 q b h)) λq row h h3=>by
  have OV:(E q).isSome=true:=by show(FA ci.ks 0 as' q).isSome=true;rw[h];rfl
  simp only[ρc,OV,if_true,hφarr q h3]
 have GY:∀q,ρ q≠none→Out i 128 q:=λq hq h3=>hq (by
  have:=OW (q - i) (by omega);rwa [show i+(q - i)=q by omega]at this)
 have hsthρ:∀q row,st.h q=some row→ρ q≠none:=λq row hq=>by
  obtain⟨ri,h3,_⟩:=hr.heap.rows _ _ hq;rw[h3];simp
 have hbsρ:∀b∈bs,ρ b≠none:=λb hb=>by
  cases hq:st.h b with
  | none=>exact absurd hq (c8 b hb).2
  | some row=>exact hsthρ b row hq
 have G:=X8 w args as' outc ownc ρc x r i bs (by rw[YV,CG]) I2 P4 hv2 (λq hq=>by simp only[ρc];rw[if_neg];show ¬(FA ci.ks 0 as' q).isSome=true;rw[hq];simp) c9 (λb hb=>GY b (hbsρ b hb)) KZ hF yW
  ⟨C.g.stay w0 w (λc hc=>hr.heap.old c (Nat.lt_of_lt_of_le hc (C.g.lt _ hr.glob.p)) (hr.glob.own c hc)) hr.glob.p,λc hc ho=>by
   have:=Nat.lt_of_lt_of_le hc (C.g.lt _ hr.glob.p)
   rcases(RX c ho).2 with h | h
   ·omega
   ·exact hr.glob.own c hc h,Nat.le_trans hr.glob.base hr.heap.wx.size,λc hc ho=>by
   have:=Nat.lt_of_lt_of_le hc hr.glob.base
   rcases(RX c ho).2 with h | h
   ·omega
   ·exact hr.glob.low c hc h⟩
 -- a call that leaves all as it is
 cases LZ:YM ci (ci.eR r)
 case true=>
  simp only[vL,LZ,cond_true]at hk;simp only[YM,Bool.and_eq_true,Bool.not_eq_true']at LZ;obtain⟨⟨M3,IZ⟩,hsc⟩:=LZ;have hE0:E=λ_=>none:=zjC _ _ _ IZ
  have bX:∀b,¬ownc b:=by
   rintro b ⟨q,row,ri,h1,_⟩;rw[hE0]at h1;cases h1
  obtain⟨s1,s2⟩:=zgv ci.own i (ci.eR r) 0 hsc
  have GX:Sc (CJ ci i (ci.eR r)):=by
   unfold CJ;rw[M3,cond_false];exact zv9 _ _ s1
  have hXt:rE ci as' bs i (ci.eR r)=cB ci.own i (λ_=>none) 0 (ci.eR r):=by
   unfold rE mF;rw[M3,cond_false,ziI _ _ _ _ _ IZ]
  have fin0:∀v w1,(∃ρx,rB w outc ownc ρx (rE ci as' bs i (ci.eR r)) w1∧
    VR w1 ρx (tA outc ρx (rE ci as' bs i (ci.eR r))) v (CJ ci i (ci.eR r))∧
    (∀q b,uB ci.ks 0 bs q=some b→ρx b=ρc q)∧(∀r,ρx r≠none→(i≤r∧r<i+128)∨r∈bs))→JC C w0 outer own i ρ st' (a.put o.dst v) w1:=by
   rintro v w1 ⟨ρx,hX,hV,_,Q4⟩;have hg:=hr.grow hX.wx λb hb=>hX.old b hb (bX b)
   have P5:∀q,qH ci as' bs i (ci.eR r) st.h q=match rE ci as' bs i (ci.eR r) q with | some x=>some x | none=>st.h q:=λq=>by
    rw[DO]
    all_goals (cases rE ci as' bs i (ci.eR r) q<;>rfl)
   generalize Y8:rE ci as' bs i (ci.eR r)=X at hX hV P5 hXt;generalize qH ci as' bs i (ci.eR r) st.h=tX at hk P5;let ρn:Nat→Option RI:=λq=>if i≤q∧q<i+128 then ρx q else ρ q
   have GY:∀q,ρ q≠none→¬(i≤q∧q<i+128):=λq hq h3=>hq (by
    have:=OW (q - i) (by omega);rwa [show i+(q - i)=q by omega]at this)
   have hXin:∀q row,X q=some row→i≤q∧q<i+128:=λq row hq=>by
    rw[hXt]at hq;obtain⟨_,_,_,e1,e2⟩:=LE _ _ _ _ _ _ hq;omega
   have hρo:∀q ri,ρ q=some ri→ρn q=some ri:=λq ri hq=>by
    simp only[ρn,GY q (by rw[hq];simp),if_false];exact hq
   have hρX:∀q row ri,X q=some row→ρx q=some ri→ρn q=some ri:=λq row ri hq h3=>by
    simp only[ρn,hXin q row hq,and_self,if_true];exact h3
   have YW:∀q row,X q=some row→∃ri t l,row=⟨.arr t l, .own⟩∧t.flat=true∧ρx q=some ri∧gE w1 ρx (tA outc ρx X) ri (.arr t l)∧(ri.nl=false→w.heap.size≤ri.b∧ri.b<w1.heap.size):=λq row hq=>by
    obtain⟨ri,k1,k2,k3⟩:=hX.rows q row hq;have mY:=hq;rw[hXt]at mY;obtain⟨t,l,e0,_,_⟩:=LE _ _ _ _ _ _ mY;subst e0;refine⟨ri,t,l,rfl,s2 q t l mY,k1,k2,λhn=>⟨?_,(k3 hn).2⟩⟩
    rcases(k3 hn).1.2 rfl with h | h
    ·exact h
    ·exact absurd h (bX _)
   have GW:∀q row,tX q=some row→X q=some row∨(X q=none∧st.h q=some row):=λq row hq=>by
    rw[P5]at hq;cases hx:X q with
    | some y=>rw[hx]at hq;exact .inl hq
    | none=>rw[hx]at hq;exact .inr ⟨rfl,hq⟩
   have P3:∀q row ri,st.h q=some row→ρ q=some ri→ri.nl=false→ri.b<w.heap.size:=λq row ri hq h3 hn=>by
    obtain⟨ri',k1,_,k3⟩:=hr.heap.rows q row hq;rw[h3]at k1;cases k1;exact(k3 hn).2
   have hstρ:∀q row,st.h q=some row→∃ri,ρ q=some ri:=λq row hq=>by
    obtain⟨ri,k1,_⟩:=hr.heap.rows q row hq;exact⟨ri,k1⟩
   have SX:∀b,tA outer ρn tX b→tA outer ρ st.h b∨w.heap.size≤b:=by
    rintro b (hb | ⟨q,row,ri,f1,f2,f3,f4,f5⟩)
    ·exact .inl (.inl hb)
    ·rcases GW q row f1 with h3 | ⟨_,h3⟩
     ·obtain⟨ri',t,l,_,_,k1,_,k2⟩:=YW q row h3;rw[hρX q row ri' h3 k1]at f3;cases f3;exact .inr (by rw[←f5];exact(k2 f4).1)
     ·obtain⟨ri',k1⟩:=hstρ q row h3;rw[hρo q ri' k1]at f3;cases f3;exact .inl (.inr ⟨q,row,_,h3,f2,k1,f4,f5⟩)
   have keepAll:∀u d,VR w ρ (tA outer ρ st.h) u d→VR w1 ρn (tA outer ρn tX) u d:=λu d hu=>
    hu.mono hρo (λb _ OV=>hX.old b OV (bX b)) SX
   have v1:rB w0 outer own ρn tX w1:=by
    refine⟨hg.heap.wx,hg.heap.old,hg.heap.outLt,λq row hq=>?_,λq q' row row' qi qi' h1 h2 h3 h4 h5 h6 h7=>?_⟩
    ·rcases GW q row hq with h3 | ⟨_,h3⟩
     ·obtain⟨ri,t,l,rfl,ht,k1,k2,k3⟩:=YW q row h3;refine⟨ri,hρX q _ ri h3 k1,⟨k2.1,?_⟩,λhn=>⟨⟨λho=>?_,λ_=> .inl (Nat.le_trans hr.heap.wx.size (k3 hn).1)⟩,(k3 hn).2⟩⟩
      ·rcases k2.2 with h4 | ⟨e1,ee,e2,e3,e4,e5⟩
       ·exact .inl h4
       ·refine .inr ⟨e1,ee,e2,e3,e4,λa ha j hj=>?_⟩;obtain⟨u,f1,f2⟩:=e5 a ha j hj;exact⟨u,f1,f2.noRef (λS=>RM S t _ j) ρn |>.sc (zwR ht _ j) λ_ _ h=>h⟩
      ·have:=(hr.heap.outLt _ ho).1;have:=hr.heap.wx.size;have:=(k3 hn).1;omega
     ·obtain⟨ri,k1,k2,k3⟩:=hr.heap.rows q row h3;exact⟨ri,hρo q ri k1,k2.keep (λhn=>hX.old _ (k3 hn).2 (bX _)) keepAll,λhn=>⟨(k3 hn).1,Nat.lt_of_lt_of_le (k3 hn).2 hX.wx.size⟩⟩
    ·rcases GW q row h1 with k1 | ⟨_,k1⟩<;>rcases GW q' row' h2 with k2 | ⟨_,k2⟩
     ·obtain⟨r1,_,_,_,_,e1,_⟩:=YW q row k1;obtain⟨r2,_,_,_,_,e2,_⟩:=YW q' row' k2;rw[hρX q row r1 k1 e1]at h3;cases h3;rw[hρX q' row' r2 k2 e2]at h4;cases h4;exact hX.inj q q' row row' _ _ k1 k2 e1 e2 h5 h6 h7
     ·obtain⟨r1,_,_,_,_,e1,_,e2⟩:=YW q row k1;obtain⟨r2,e3⟩:=hstρ q' row' k2;rw[hρX q row r1 k1 e1]at h3;cases h3;rw[hρo q' r2 e3]at h4;cases h4;have h8:=(e2 h5).1;have h9:=P3 q' row' _ k2 e3 h6;omega
     ·obtain⟨r1,_,_,_,_,e1,_,e2⟩:=YW q' row' k2;obtain⟨r2,e3⟩:=hstρ q row k1;rw[hρX q' row' r1 k2 e1]at h4;cases h4;rw[hρo q r2 e3]at h3;cases h3;have h8:=(e2 h6).1;have h9:=P3 q row _ k1 e3 h5;omega
     ·obtain⟨r1,e1⟩:=hstρ q row k1;obtain⟨r2,e2⟩:=hstρ q' row' k2;rw[hρo q r1 e1]at h3;cases h3;rw[hρo q' r2 e2]at h4;cases h4;exact hr.heap.inj q q' row row' _ _ k1 k2 e1 e2 h5 h6 h7
   have PV:ZA C w0 outer own ρn {st with h:=tX} a w1:=hr.turn v1 keepAll;refine⟨ρn,(PV.put (hV.sc GX λq ri hq=>?_) hk).1,λq hq=>?_,hρo⟩
   ·have:i≤q∧q<i+128:=by
     rcases Q4 q (by rw[hq];simp)with h | h
     ·exact h
     ·exact absurd h (by
       have:bs=[]:=by
        cases bs with
        | nil=>rfl
        | cons b bs'=>
         obtain⟨q',mY⟩:=c7.surj b (by simp);obtain⟨row,JV⟩:=c7.found mY;have:FA ci.ks 0 as'=λ_=>none:=hE0;rw[this]at JV;cases JV
       rw[this];simp)
    simp only[ρn,this,and_self,if_true];exact hq
   ·simp only[ρn,hq,if_false]
  intro next Q hn;unfold Oper.wp;rw[fW]
  rcases G with⟨G1,G2⟩ | ⟨v,w1,G1,G2⟩
  ·rw[G1,Oper.upon_enter];refine Calls.mono' G2 ?_;rintro e w1 ⟨v,rfl,h3⟩;exact hn _ _ (fin0 v w1 h3)
  ·rw[G1,Oper.upon_value];exact hn _ _ (fin0 v w1 G2)
 simp only[vL,LZ,cond_false]at hk
 -- rows that stay the caller's own
 have Q5:∀hb,(bif ci.pb then h' else match TE ci.own 0 (ci.eR r)with | some m=>CL m st.h h' | none=>h')=hb→
   ∀q row,hb q=some row→h' q=some row∨(∃t l m c,ci.pb=false∧TE ci.own 0 (ci.eR r)=some m∧m≤t.rank∧row=⟨.arr t l, .own⟩∧st.h q=some row∧h' q=some ⟨c, .ro⟩):=by
  rintro hb rfl q row hq;cases hp:ci.pb
  ·rw[hp,cond_false]at hq;cases hm:TE ci.own 0 (ci.eR r)with
   | none=>rw[hm]at hq;exact .inl hq
   | some m=>
    rw[hm]at hq;have hq:CL m st.h h' q=some row:=hq;unfold CL at hq;split at hq
    ·rename_i t l c h3 h4;cases R4:Nat.ble m t.rank
     ·rw[R4,cond_false]at hq;exact .inl (by rw[h4];exact hq)
     ·rw[R4,cond_true]at hq;cases hq;exact .inr ⟨t,l,m,c,rfl,rfl,Nat.le_of_ble_eq_true R4,rfl,h3,h4⟩
    ·exact .inl hq
  ·rw[hp,cond_true]at hq;exact .inl hq
 generalize hbe:(bif ci.pb then h' else match TE ci.own 0 (ci.eR r)with | some m=>CL m st.h h' | none=>h')=hb at hk
 replace Q5:=Q5 hb hbe
 clear hbe
 -- behind the call
 have cC:∀v w1,(∃ρx,rB w outc ownc ρx (rE ci as' bs i (ci.eR r)) w1∧
   VR w1 ρx (tA outc ρx (rE ci as' bs i (ci.eR r))) v (CJ ci i (ci.eR r))∧
   (∀q b,uB ci.ks 0 bs q=some b→ρx b=ρc q)∧(∀r,ρx r≠none→(i≤r∧r<i+128)∨r∈bs))→JC C w0 outer own i ρ st' (a.put o.dst v) w1:=by
  rintro v w1 ⟨ρx,hX,hV,uX,Q4⟩;generalize Y8:rE ci as' bs i (ci.eR r)=X at hX hV
  have hrk:∀m,ci.pb=false→TE ci.own 0 (ci.eR r)=some m→(∀q row,X q=some row→zef m row.c)∧Rk m (CJ ci i (ci.eR r)):=λm hp hm=>by
   have:=zwD (as:=as') (bs:=bs) (base:=i) hm hp;rw[Y8]at this;exact this
  have P5:∀q,qH ci as' bs i (ci.eR r) hb q=match X q with | some x=>some x | none=>hb q:=λq=>by
   rw[DO,Y8]
   all_goals (cases X q<;>rfl)
  generalize SY:qH ci as' bs i (ci.eR r) hb=tX at hk P5;let ρn:Nat→Option RI:=λq=>if i≤q∧q<i+128 then ρx q else ρ q
  have hρbs:∀b∈bs,ρx b=ρ b:=λb hb=>by
   obtain⟨q,hq⟩:=c7.surj b hb;rw[uX q b hq,hρcbox q b hq (Z0 q b hq),lG b (hbN b hb)]
  have hρx:∀q,ρx q≠none→ρn q=ρx q:=λq hq=>by
   by_cases NW:i≤q∧q<i+128
   ·simp only[ρn,NW,and_self,if_true]
   ·simp only[ρn,NW,if_false]
    rcases Q4 q hq with h3 | h3
    ·exact absurd h3 NW
    ·exact(hρbs q h3).symm
  have hρo:∀q,ρ q≠none→ρn q=ρ q:=λq hq=>by
   have:¬(i≤q∧q<i+128):=GY q hq;simp only[ρn,this,if_false]
  have hρ':∀q ri,ρ q≠none→ρ' q=some ri→ρ q=some ri:=λq ri hq h3=>by
   cases h4:ρ q with
   | none=>exact absurd h4 hq
   | some ri'=>have:=c5 _ _ h4;rw[h3]at this;rw[this]
  have GW:∀q row,tX q=some row→X q=some row∨(X q=none∧hb q=some row):=λq row hq=>by
   rw[P5]at hq;cases hx:X q with
   | some y=>rw[hx]at hq;exact .inl hq
   | none=>rw[hx]at hq;exact .inr ⟨rfl,hq⟩
  have hh'ρ:∀q row,h' q=some row→ρ q≠none:=λq row hq=>by
   obtain⟨row',h3,_⟩:=gW q row hq;exact hsthρ q row' h3
  have hbρ:∀q row,hb q=some row→ρ q≠none:=λq row hq=>by
   rcases Q5 q row hq with h3 | ⟨_,_,_,_,_,_,_,_,_,h3⟩
   ·exact hh'ρ q row h3
   ·exact hh'ρ q _ h3
  have hXρ:∀q row,X q=some row→ρn q=ρx q:=λq row hq=>by
   obtain⟨ri,h3,_⟩:=hX.rows q row hq;exact hρx q (by rw[h3];simp)
  -- the LC of rows that stay the caller's own
  let Rest:Nat→Prop:=λb=>∃q t l m c ri,ci.pb=false∧TE ci.own 0 (ci.eR r)=some m∧m≤t.rank∧st.h q=some ⟨.arr t l, .own⟩∧h' q=some ⟨c, .ro⟩∧ρ q=some ri∧ri.nl=false∧ri.b=b
  have SX:∀b,tA outer ρn tX b→tA outc ρx X b∨Rest b:=by
   rintro b (LX | ⟨q,row,ri,f1,f2,f3,f4,f5⟩)
   ·exact .inl (.inl (.inl LX))
   ·rcases GW q row f1 with h3 | ⟨_,h3⟩
    ·rw[hXρ q row h3]at f3;exact .inl (.inr ⟨q,row,ri,h3,f2,f3,f4,f5⟩)
    ·rw[hρo q (hbρ q row h3)]at f3
     rcases Q5 q row h3 with h3 | ⟨t,l,m,c,e1,e2,e3,rfl,e5,e6⟩
     ·exact .inl (.inl (.inr ⟨q,row,ri,h3,f2,c5 _ _ f3,f4,f5⟩))
     ·exact .inr ⟨q,t,l,m,c,ri,e1,e2,e3,e5,e6,f3,f4,f5⟩
  have MZ:∀b,ownc b→tA outer ρ' g' b:=λb hb=>by
   obtain⟨q,row,ri,e1,e2,e3,e4,e5,e6⟩:=O4 b hb;exact .inr ⟨q,row,ri,e1,by rw[e2];rfl,e4,e5,e6⟩
  have NZ:∀b,tA outc ρx X b→tA outer ρ' g' b∨w.heap.size≤b:=by
   rintro b (hb | ⟨q,row,ri,f1,f2,f3,f4,f5⟩)
   ·exact .inl (hb.mono λq row h1 h2=>⟨row,c2 q row h1,h2⟩)
   ·obtain⟨ri',k1,_,k2⟩:=hX.rows q row f1;rw[f3]at k1;cases k1
    rcases(k2 f4).1.2 f2 with h3 | h3
    ·exact .inr (by omega)
    ·exact .inl (by rw[←f5];exact MZ _ h3)
  -- what the arguments' taking keeps clear of was kept clear of before
  have Q3:∀b,qT w b→tA outer ρ' g' b→tA outer ρ st.h b:=by
   rintro b ⟨o,u,hu⟩ LX;refine Classical.byContradiction λhn=>?_
   have h1:VR w ρ (tA outer ρ st.h) (.pointer (some (at_ b (o+0)))) (.fp [.undef] 0):=
    .fp [.undef] 0 b o (fun _ => u) (by simp) hn (fun j hj => by have : j = 0 := by simpa using hj
                                                                 subst this;exact hu) λj hj=>by
     have:j=0:=by simpa using hj
     subst this;exact .undef _
   have h2:=c6 _ _ h1;generalize hp:Value.pointer (some (at_ b (o+0)))=pv at h2;cases h2 with
   | fp _ _ b2 o2 u2 _ N2 hu2 _=>
    have:b=b2:=by injection hp with hp;injection hp with hp;exact congrArg Addr.block hp
    subst this;exact N2 LX
  have R3:∀b,Rest b→tA outer ρ st.h b∧b<w.heap.size∧¬ownc b∧jA.base≤b∧∃t m,MF w b t∧ci.pb=false∧TE ci.own 0 (ci.eR r)=some m∧m≤t.rank:=by
   rintro b ⟨q,t,l,m,c,ri,e1,e2,e3,e4,e5,e6,e7,e8⟩;obtain⟨ri2,k1,k2,k3⟩:=hr.heap.rows q _ e4;rw[e6]at k1;cases k1;obtain⟨ri3,n1,n2⟩:=XV q _ e5;have:=c5 _ _ e6;rw[n1]at this;cases this;subst e8;refine⟨.inr ⟨q,_,ri,e4,rfl,e6,e7,rfl⟩,(k3 e7).2,(n2 e7).1,?_,t,m,?_,e1,e2,e3⟩
   ·rcases(k3 e7).1.2 rfl with h | h
    ·exact Nat.le_trans hr.glob.base h
    ·exact Nat.le_of_not_lt λh'=>hr.glob.low _ h' h
   ·rcases k2.2 with h | ⟨_,he,_⟩
    ·rw[e7]at h;cases h.1
    ·exact he
  have keepAll:∀u d,VR w ρ (tA outer ρ st.h) u d→VR w1 ρn (tA outer ρn tX) u d:=λu d hu=>
   hu.keep2 hu.refs (λq ri hq h3=>by rw[hρo q hq];exact h3)
    (fun b hb hc=>by
     obtain⟨_,_,mZ⟩:=hc;exact hX.old b (yV mZ) λho=>hb (Q3 b ⟨_,_,mZ⟩ (MZ b ho)))
    λb hc LX=>by
     obtain⟨_,_,mZ⟩:=id hc;have:=yV mZ
     rcases SX b LX with h | h
     ·rcases NZ b h with h | h
      ·exact Q3 b hc h
      ·omega
     ·exact(R3 b h).1
  have keepX:∀u d,(∀m,ci.pb=false→TE ci.own 0 (ci.eR r)=some m→Rk m d)→VR w1 ρx (tA outc ρx X) u d→VR w1 ρn (tA outer ρn tX) u d:=λu d hk hu=>by
   have h0:VR w1 ρx (tA outer ρn tX) u d:=by
    by_cases hm:∃m,ci.pb=false∧TE ci.own 0 (ci.eR r)=some m
    ·obtain⟨m,hp,hm⟩:=hm;refine hu.widen (hk m hp hm) λb LX=>?_
     rcases SX b LX with h | h
     ·exact .inl h
     ·obtain⟨_,h1,h2,h3,t,m',h4,_,h5,h6⟩:=R3 b h;rw[hm]at h5;cases h5;exact .inr ⟨h3,t,h4.same (hX.old b h1 h2),h6⟩
    ·refine hu.mono (λ_ _ h=>h) (λ_ _ _=>rfl) λb LX=>?_
     rcases SX b LX with h | ⟨_,_,_,m,_,_,h1,h2,_⟩
     ·exact .inl h
     ·exact absurd ⟨m,h1,h2⟩ hm
   exact h0.keep h0.refs (λq ri hq h3=>by rw[hρx q hq];exact h3) (λ_ _ _=>rfl) λb hb=> .inl hb
  have keepRow:∀q row ri,X q=some row→gE w1 ρx (tA outc ρx X) ri row.c→gE w1 ρn (tA outer ρn tX) ri row.c:=λq row ri hq ZV=>by
   by_cases hm:∃m,ci.pb=false∧TE ci.own 0 (ci.eR r)=some m
   ·obtain⟨m,hp,hm⟩:=hm;exact ZV.keepR ((hrk m hp hm).1 q row hq) (λ_=>rfl) λu d hd hu=>keepX u d (λm' _ hm'=>by rw[hm]at hm';cases hm';exact hd) hu
   ·exact ZV.keep (λ_=>rfl) λu d hu=>keepX u d (λm hp h=>absurd ⟨m,hp,h⟩ hm) hu
  have YW:∀q row,X q=some row→∃ri,ρn q=some ri∧ρx q=some ri∧gE w1 ρx (tA outc ρx X) ri row.c∧(ri.nl=false→(w.heap.size≤ri.b∨ownc ri.b)∧ri.b<w1.heap.size):=λq row hq=>by
   obtain⟨ri,k1,k2,k3⟩:=hX.rows q row hq;exact⟨ri,by rw[hXρ q row hq];exact k1,k1,k2,λhn=>⟨(k3 hn).1.2 (by rw[zgE yW (by rw[←Y8]at hq;exact hq)];rfl),(k3 hn).2⟩⟩
  have TY:∀q row,hb q=some row→∃ri,ρn q=some ri∧ρ q=some ri∧ρ' q=some ri∧gE w ρ (tA outer ρ st.h) ri row.c∧(ri.nl=false→¬ownc ri.b∧ri.b<w.heap.size∧(¬outer ri.b∧(row.m.isRo=false→w0.heap.size≤ri.b∨own ri.b))):=λq row hq=>by
   rcases Q5 q row hq with hq | ⟨t,l,m,c,e1,e2,e3,rfl,e5,e6⟩
   ·obtain⟨row',h3,h4,_⟩:=gW q row hq;obtain⟨ri,k1,k2,_⟩:=hr.heap.rows q row' h3;obtain⟨ri',k3,k4⟩:=XV q row hq;have:=c5 _ _ k1;rw[k3]at this;cases this;exact⟨ri,by rw[hρo q (hh'ρ q row hq)];exact k1,k1,k3,by rw[←h4];exact k2,k4⟩
   ·obtain⟨ri,k1,k2,k5⟩:=hr.heap.rows q _ e5;obtain⟨ri',k3,k4⟩:=XV q _ e6;have:=c5 _ _ k1;rw[k3]at this;cases this;exact⟨ri,by rw[hρo q (hh'ρ q _ e6)];exact k1,k1,k3,k2,λhn=>⟨(k4 hn).1,(k4 hn).2.1,(k5 hn).1⟩⟩
  have hbg:∀q row,hb q=some row→∃row',g' q=some row':=λq row hq=>by
   rcases Q5 q row hq with hq | ⟨t,l,m,c,e1,e2,e3,rfl,e5,e6⟩
   ·exact⟨_,c2 q row hq⟩
   ·exact⟨_,c2 q _ e6⟩
  have v1:rB w0 outer own ρn tX w1:=by
   refine⟨hr.heap.wx.trans hX.wx,λb hb ho=>?_,hr.heap.outLt,λq row hq=>?_,λq q' row row' qi qi' h1 h2 h3 h4 h5 h6 h7=>?_⟩
   ·rw[←hr.heap.old b hb ho];refine hX.old b (Nat.lt_of_lt_of_le hb hr.heap.wx.size) λhoc=>?_
    rcases(RX b hoc).2 with h3 | h3
    ·omega
    ·exact ho h3
   ·rcases GW q row hq with h3 | ⟨_,h3⟩
    ·obtain⟨ri,k1,k2,k3,k4⟩:=YW q row h3;refine⟨ri,k1,keepRow q row ri h3 k3,λhn=>⟨?_,(k4 hn).2⟩⟩
     have hx:w0.heap.size≤ri.b∨own ri.b:=by
      rcases(k4 hn).1 with h4 | h4
      ·exact .inl (Nat.le_trans hr.heap.wx.size h4)
      ·exact(RX _ h4).2
     refine⟨λho=>?_,λ_=>hx⟩;obtain⟨g1,g2⟩:=hr.heap.outLt _ ho
     rcases hx with hx | hx
     ·omega
     ·exact g2 hx
    ·obtain⟨ri,k1,k2,k3,k4,k5⟩:=TY q row h3;refine⟨ri,k1,k4.keep (λhn=>hX.old _ (k5 hn).2.1 (k5 hn).1) keepAll,λhn=>⟨(k5 hn).2.2,Nat.lt_of_lt_of_le (k5 hn).2.1 hX.wx.size⟩⟩
   ·rcases GW q row h1 with k1 | ⟨_,k1⟩<;>rcases GW q' row' h2 with k2 | ⟨_,k2⟩
    ·obtain⟨r1,e1,e2,_⟩:=YW q row k1;obtain⟨r2,e3,e4,_⟩:=YW q' row' k2;rw[h3]at e1;cases e1;rw[h4]at e3;cases e3;exact hX.inj q q' row row' qi qi' k1 k2 e2 e4 h5 h6 h7
    ·obtain⟨r1,e1,e2,_,e5⟩:=YW q row k1;obtain⟨r2,e3,e4,e6,_,e7⟩:=TY q' row' k2;rw[h3]at e1;cases e1;rw[h4]at e3;cases e3
     rcases(e5 h5).1 with h8 | h8
     ·have:=(e7 h6).2.1;omega
     ·rw[h7]at h8;exact absurd h8 (e7 h6).1
    ·obtain⟨r1,e1,e2,_,e5⟩:=YW q' row' k2;obtain⟨r2,e3,e4,e6,_,e7⟩:=TY q row k1;rw[h4]at e1;cases e1;rw[h3]at e3;cases e3
     rcases(e5 h6).1 with h8 | h8
     ·have:=(e7 h5).2.1;omega
     ·rw[←h7]at h8;exact absurd h8 (e7 h5).1
    ·obtain⟨r1,e1,e2,e2',_⟩:=TY q row k1;obtain⟨r2,e3,e4,e4',_⟩:=TY q' row' k2;rw[h3]at e1;cases e1;rw[h4]at e3;cases e3;obtain⟨y1,y2⟩:=hbg q row k1;obtain⟨y3,y4⟩:=hbg q' row' k2;exact c1.inj q q' y1 y3 qi qi' y2 y4 e2' e4' h5 h6 h7
  have PV:ZA C w0 outer own ρn {st with h:=tX} a w1:=hr.turn v1 keepAll;refine⟨ρn,(PV.put (keepX _ _ (λm hp hm=>(hrk m hp hm).2) hV) hk).1,λq hq=>?_,λq ri hq=>?_⟩
  ·simp only[ρn,hq,if_false]
  ·rw[hρo q (by rw[hq];simp)];exact hq
 intro next Q hn;unfold Oper.wp;rw[fW]
 rcases G with⟨G1,G2⟩ | ⟨v,w1,G1,G2⟩
 ·rw[G1,Oper.upon_enter];refine Calls.mono' G2 ?_;rintro e w1 ⟨v,rfl,h3⟩;exact hn _ _ (cC v w1 h3)
 ·rw[G1,Oper.upon_value];exact hn _ _ (cC v w1 G2)
omit hr in
omit [jA]in
def zv5{ci:bB}{as:List V}{bs:List Nat}{i:Nat}{rs:List V}{h h':Nat→Option uA}(hl:PF h h'):PF (qH ci as bs i rs h) (qH ci as bs i rs h'):=λr row hr=>by
 rw[DO]at hr⊢;split at hr
 ·rename_i x hx;cases hr;exact⟨_,rfl,rfl,id⟩
 ·exact hl r row hr
omit hr in
omit [jA]in
def zw8{dst:Option Nat}{st st':St}{v:V}{h:Nat→Option uA}(hk:VA C dst st v some=some st'):VA C dst {st with h:=h} v some=some {st' with h:=h}:=by
 cases dst with
 | none=>simp only[VA,Option.some.injEq]at hk⊢;subst hk;rfl
 | some d=>
  simp only[VA]at hk⊢;cases hb:Nat.blt d C.nt
  ·simp[hb]at hk
  ·simp only[hb,aD,Option.some.injEq]at hk⊢;subst hk;rfl
omit hr in
omit [jA]in
def zts{dst:Option Nat}{st st':St}{v:V}(hk:VA C dst st v some=some st'):st'.h=st.h:=by
 cases dst with
 | none=>simp only[VA,Option.some.injEq]at hk;subst hk;rfl
 | some d=>
  simp only[VA]at hk;cases hb:Nat.blt d C.nt
  ·simp[hb]at hk
  ·simp only[hb,aD,Option.some.injEq]at hk;subst hk;rfl
def zuv(hΦ:gG C)(pY:∃N,∀r,N≤r→ρ r=none)(OW:∀q,q<128→ρ (i+q)=none)(f:Nat)(args:Array Value)(as:List V)(YV:args.size=as.length)
  (FW:∀j (hj:j<as.length),VR w ρ (tA outer ρ st.h) (args.getD j undef) as[j]) (fW:(execOp a.eval o).run C.P w=(callFunc f args).run C.P w)
  (hk:wK C i o.dst st f as some=some st'):NC C.P o a w (JC C w0 outer own i ρ st'):=by
 unfold wK at hk;split at hk
 ·cases hk
 rename_i ci S4
 have X8:BB C.P f ci C.g:=by
  cases OV:Nat.blt f 1048576
  ·simp[OV]at S4
  ·simp only[OV,cond_true]at S4;have:=hΦ.ok _ _ S4;rwa [ztk f as (by simpa using OV)]at this
 split at hk
 ·split at hk
  ·cases hk
  rename_i as' h' bs m0;obtain⟨x,KZ,hk⟩:=Option.bind_eq_some_iff.1 ((fT _ _).symm.trans hk);obtain⟨r,hF,hk⟩:=Option.bind_eq_some_iff.1 hk;cases yW:(Nat.ble (ci.eR r).length 128&&YM ci (ci.eR r))
  case false=>simp[yW]at hk
  simp only[yW,aD]at hk;simp only[Bool.and_eq_true]at yW;have dW:ZA C w0 outer own ρ {st with h:=LO st.h} a w:=hr.less (zkI _)
  have D:=zlz (o:=o) dW pY OW f args as YV (λj hj=>(hr.heap.less (zkI st.h)).2 _ _ (FW j hj)) fW X8 m0 KZ hF (Nat.le_of_ble_eq_true yW.1)
   (st':= { st' with h:=qH ci as' bs i (ci.eR r) (LO st.h) }) (by
    rw[vL,yW.2,cond_true];exact zw8 (st:={st with h:=qH ci as' bs i (ci.eR r) st.h}) hk)
  refine λnext Q hn=>D next Q λa' w' ⟨ρ',h1,h2,h3⟩=>hn a' w' ⟨ρ',?_,h2,h3⟩;have e:st'.h=qH ci as' bs i (ci.eR r) st.h:=zts hk;have:=h1.less (h':=st'.h) (by rw[e];exact zv5 (ztc _));exact this
 ·rename_i as' h' bs m0;obtain⟨x,KZ,hk⟩:=Option.bind_eq_some_iff.1 ((fT _ _).symm.trans hk);obtain⟨r,hF,hk⟩:=Option.bind_eq_some_iff.1 hk;cases yW:Nat.ble (ci.eR r).length 128
  case false=>simp[yW]at hk
  simp only[yW,aD]at hk;exact zlz hr pY OW f args as YV FW fW X8 m0 KZ hF (Nat.le_of_ble_eq_true yW) hk
end
end Go.D
namespace Go.D
variable [jA]
section
variable {C:Cx} {w0:World} {outer own:Nat→Prop} {ρ:Nat→Option RI} {st st':St} {a:Act} {w:World} {h:Nat→Option uA}
variable {o:Oper} {i:Nat} (hr:ZA C w0 outer own ρ st a w)
include hr
def zv8(hΦ:gG C)(pY:∃N,∀r,N≤r→ρ r=none)(OW:∀q,q<128→ρ (i+q)=none)(x:Operand)(args:Array Operand)(argTypes:Array TypeId)
  (ho:o.op= .call {callee:= .value x,args,argTypes}) (hk:qB C i o st some=some st'):NC C.P o a w (JC C w0 outer own i ρ st'):=by
 simp only[qB,ho]at hk;split at hk
 case h_2=>cases hk
 rename_i f cs kW;have hx:=hr.opd x;rw[kW]at hx;generalize hv:a.eval x=v at hx;cases hx with
 | fn _ _ caps hs hvc=>
 refine zuv hr hΦ pY OW f (args.map a.eval++caps) _ (by simp[hs]) (λj hj=>?_) ?_ hk
 ·by_cases mX:j<args.size
  ·rw[List.getElem_append_left (by simpa using mX),Array.getD_eq_getD_getElem?,Array.getElem?_append_left (by simpa using mX)];simp only[Array.getElem?_map,Array.getElem?_eq_getElem mX,Option.map_some,Option.getD_some,List.getElem_map,Array.getElem_toList];exact hr.opd _
  ·have aX:j - args.size<cs.length:=by simp at hj;omega
   rw[List.getElem_append_right (by simp;omega),Array.getD_eq_getD_getElem?,Array.getElem?_append_right (by simp;omega)];have:=hvc (j - args.size) aX;rw[Array.getD_eq_getD_getElem?]at this;simpa using this
 ·simp[execOp,ho,resolve,Deferred.ofValue,hv,invoke]
def zua(c x y:Operand)(ho:o.op= .pick c x y)(t:Bool)(hc:opd st.s c= .bool t)(hk:VA C o.dst st (cond t (opd st.s x) (opd st.s y)) some=some st'):
  NC C.P o a w (JC C w0 outer own i ρ st'):=by
 have h1:=hr.opd c;rw[hc]at h1;generalize H9:a.eval c=vc at h1;cases h1;refine nC (v:=if t then a.eval x else a.eval y) (w':=w) ?_ (hr.after ?_ hk)
 ·cases t<;>simp[execOp,ho,H9,asBool]
 ·cases t
  ·exact hr.opd y
  ·exact hr.opd x
def zma(hC:UF C)(hΦ:gG C)(pY:∃N,∀r,N≤r→ρ r=none)(OW:∀q,q<128→ρ (i+q)=none)(hk:qB C i o st some=some st'):
  NC C.P o a w (JC C w0 outer own i ρ st'):=by
 have hi:ρ i=none:=OW 0 (by omega);have none_of:∀{p:Prop},qB C i o st some=none→p:=λh=>by rw[h]at hk;cases hk
 cases ho:o.op with
 | move x=>exact zlI hr x (.inl ho) (by simpa only[qB,ho]using hk)
 | assign x=>exact zlI hr x (.inr ho) (by simpa only[qB,ho]using hk)
 | pick c x y=>
  simp only[qB,ho]at hk;split at hk
  case h_2=>cases hk
  rename_i t hc;split at hk
  ·rename_i p q hx hy;exact zvD hr c x y ho t p q hc hx hy hk
  ·exact zua hr c x y ho t hc hk
 | alloc e=>
  simp only[qB,ho]at hk;split at hk
  case h_2=>cases hk
  rename_i cs hz;exact zvg hr e ho hi cs hz hk
 | box e x=>
  simp only[qB,ho]at hk;cases hb:jH (cellsOf (opd st.s x))
  case false=>simp[hb]at hk
  simp only[hb,aD]at hk;exact zwG hr e x ho hi hb hk
 | build t parts=>exact zup hr t parts ho hk
 | buildSlice t len parts=>exact zrd hr hC t len parts ho hi hk
 | load t x=>exact zwk hr t x ho hk
 | store t x y=>exact zuJ hr t x y ho hk
 | nilCheck x=>exact zsg hr x ho hk
 | binOp op t x y t'=>exact zvi hr op t t' x y ho hk
 | unOp op t x=>exact zwn hr op t x ho hk
 | convert s d x=>exact zsY hr hC s d x ho hi hk
 | makeFunc fn first captured=>
  cases fn with
  | func f=>exact zrU hr f first captured ho hk
  | _=>exact none_of (by simp only[qB,ho])
 | makeSlice t x y=>exact zrs hr hC t x y ho hi hk
 | slice t x lo hi mx=>exact zul hr hC t x lo hi mx ho hk
 | fieldAddr t x f=>exact zrE hr t x f ho hk
 | field t x f=>exact zux hr t x f ho hk
 | indexAddr t x y=>exact zrO hr hC t x y ho hk
 | index t x y=>exact zuF hr t x y ho hk
 | extract x ix=>exact zsM hr x ix ho hk
 | call c=>
  obtain⟨callee,args,argTypes⟩:=c;cases callee with
  | value x=>exact zv8 hr hΦ pY OW x args argTypes ho hk
  | invoke r m=>exact none_of (by simp only[qB,ho])
  | builtin b=>
   cases b with
   | len=>exact zwF hr args argTypes ho hk
   | append=>exact ztj hr hC args argTypes ho hi hk
   | min=>exact zw3 hr args argTypes ho hk
   | max=>exact zxb hr args argTypes ho hk
   | _=>exact none_of (by simp only[qB,ho])
 | _=>exact none_of (by simp only[qB,ho])
end
end Go.D
namespace Go.D
variable [jA]
section
variable {C:Cx} {R:Type} {st:St} {K:St→Option R}
omit [jA]in
def OS(dst:Option Nat)(st:St)(v:V)(K:St→Option R):VA C dst st v K=(VA C dst st v some).bind K:=by
 cases dst with
 | none=>rfl
 | some d=>simp only[VA];cases Nat.blt d C.nt<;>rfl
omit [jA]in
def zu4(dst:Option Nat)(st:St)(r:Nat)(c:uF)(v:V)(K:St→Option R):vF C dst st r c v K=(vF C dst st r c v some).bind K:=OS _ _ _ _
omit [jA]in
def zq3{K1:V→Option St}{K2:V→Option R}(h:∀v,K2 v=(K1 v).bind K)(ag:Bool)(n:Nat)(cs:List V)(off:Nat):qG ag n cs off K2=(qG ag n cs off K1).bind K:=by
 cases ag<;>simp only[qG,aD,US]
 ·grind
 ·cases Nat.ble (off+n) cs.length
  ·rfl
  ·exact h _
omit [jA]in
def zuY{K1:V→Option St}{K2:V→Option R}(h:∀v,K2 v=(K1 v).bind K)(op:BinOp)(x y:V):gN op x y K2=(gN op x y K1).bind K:=by
 have hb:∀(b:Bool) (v:V),(bif b then none else K2 v)=(bif b then none else K1 v:Option St).bind K:=λb v=>by cases b;exact h v;rfl
 have LX:∀(b:Bool) (v:V),(bif b then K2 v else none)=(bif b then K1 v else none:Option St).bind K:=λb v=>by cases b;rfl;exact h v
 unfold gN
 grind
omit [jA]in
def zj0{f1:Nat→Option St}{f2:Nat→Option R}(h:∀k,f2 k=(f1 k).bind K)(i:Int):∀(n k:Nat),pJ f2 i k n=(pJ f1 i k n).bind K
 | 0,k=>rfl
 | n+1,k=>by
  simp only[pJ];cases i==(k:Int)
  ·exact zj0 h i n (k+1)
  ·exact h k
omit [jA]in
def zug{K1:V→Option St}{K2:V→Option R}(h:∀v,K2 v=(K1 v).bind K)(d:TypeDesc)(tk:TypeId→TN→Bool)(hp:Nat→Option uA)(x:V)(lo hi:Option V):
  NO d tk hp x lo hi K2=(NO d tk hp x lo hi K1).bind K:=by
 have LX:∀(b:Bool) (v:V),(bif b then K2 v else none)=(bif b then K1 v else none:Option St).bind K:=λb v=>by cases b;rfl;exact h v
 unfold NO;split
 ·rfl
 split
 case h_2=>rfl
 rename_i len _ _ _ a b _ _;cases decide (0≤a)&&decide (a≤b)&&decide (b≤(len:Int))
 ·rfl
 simp only[cond_true];split
 ·exact LX _ _
 ·exact h _
 ·split
  ·exact LX _ _
  ·rfl
 ·exact LX _ _
 ·rfl
omit [jA]in
def zf6{α:Type}(x:Option α){f1:α→Option St}{f2:α→Option R}(h:∀v,f2 v=(f1 v).bind K):Option.bind x f2=(Option.bind x f1).bind K:=by
 cases x with
 | none=>rfl
 | some v=>exact h v
omit [jA]in
def zvl(b:Bool){x1:Option St}{x2:Option R}(h:x2=x1.bind K):(bif b then x2 else none)=(bif b then x1 else none:Option St).bind K:=by
 grind
omit [jA]in
def zt1(b:Bool){x1:Option St}{x2:Option R}(h:x2=x1.bind K):(bif b then none else x2)=(bif b then none else x1:Option St).bind K:=by
 grind
omit [jA]in
def zg7(b:Bool){x1:Option St}{x2:Option R}(h:x2=x1.bind K):gd b x2 none=(gd b x1 none:Option St).bind K:=by
 cases b
 ·rfl
 ·exact h
omit [jA]in
def zvC(b:Bool){x1:Option St}{x2:Option R}(h:x2=x1.bind K):gd b none x2=(gd b none x1:Option St).bind K:=by
 cases b
 ·exact h
 ·rfl
omit [jA]in
def zgS{α:Type}(x:Option α){f1:α→Option St}{f2:α→Option R}(h:∀v,f2 v=(f1 v).bind K):BK x f2=(BK x f1).bind K:=by
 cases x with
 | none=>rfl
 | some v=>exact h v
omit [jA]in
def ztN(i:Nat)(dst:Option Nat)(f:Nat)(as:List V):wK C i dst st f as K=(wK C i dst st f as some).bind K:=by
 unfold wK;split
 ·rfl
 split
 ·split
  ·rfl
  exact zgS _ λ_=>zf6 _ λ_=>zg7 _ (OS _ _ _ _)
 exact zgS _ λ_=>zf6 _ λ_=>zg7 _ (OS _ _ _ _)
omit [jA]in
def vS(i:Nat)(o:Oper):qB C i o st K=(qB C i o st some).bind K:=by
 unfold qB
 repeat' first
  | rfl
  | exact OS _ _ _ _
  | exact zu4 _ _ _ _ _ _
  | exact ztN _ _ _ _
  | refine zq3 (λ_=>?_) _ _ _ _
  | refine zuY (λ_=>?_) _ _ _
  | refine zj0 (λ_=>?_) _ _ _
  | refine zug (λ_=>?_) _ _ _ _ _ _
  | refine zvl _ ?_
  | refine zt1 _ ?_
  | refine zg7 _ ?_
  | refine zvC _ ?_
  | refine zgS _ (λ_=>?_)
  | refine zf6 _ (λ_=>?_)
  | split
end
end Go.D
namespace Go.D
variable [jA]
def RD(π:Nat→Prop)(h h':Nat→Option uA):Prop:=∀r row,π r→h r=some row→row.m.isOwn=false→h' r=some row
omit [jA]in
def RD.refl(π:Nat→Prop)(h:Nat→Option uA):RD π h h:=λ_ _ _ h _=>h
omit [jA]in
def RD.trans{π:Nat→Prop}{a b c:Nat→Option uA}(h:RD π a b)(k:RD π b c):RD π a c:=λr row hn hr hm=>k r row hn (h r row hn hr hm) hm
omit [jA]in
def YK{π:Nat→Prop}{h h':Nat→Option uA}(k:RD π h h')(r:Nat)(x:Option uA)(hr:¬π r∨∃row,h r=some row∧row.m.isOwn=true):RD π h (CA h' r x):=λq row hn hq hm=>by
 rw[DA]
 ·exact k q row hn hq hm
 grind
omit [jA]in
def PN{π:Nat→Prop}{h:Nat→Option uA}(ids:List Nat)(hl:∀r∈ids,∀row,h r=some row→row.m.isLock=false):RD π h (DC h ids):=λq row hn hq hm=>by
 rw[AF]
 by_cases hi:q∈ids
 ·have:=hl q hi row hq;obtain⟨c,m⟩:=row;cases m
  ·cases hm
  ·simp[hi,hq]
  ·cases this
 ·simp[hi,hq]
def rJ(h:Nat→Option uA)(ids:List Nat):Prop:=∀r∈ids,∀row,h r=some row→row.m.isLock=false
omit [jA]in
def aV(h:Nat→Option uA):rJ h []:=λr hr=>by simp at hr
omit [jA]in
def zka{h:Nat→Option uA}{i j:List Nat}(a:rJ h i)(b:rJ h j):rJ h (i++j):=λr hr=>by
 rcases List.mem_append.1 hr with hr | hr
 ·exact a r hr
 ·exact b r hr
omit [jA]in
def zfv{h:Nat→Option uA}{r:Nat}{j:List Nat}(a:∀row,h r=some row→row.m.isLock=false)(b:rJ h j):rJ h (r :: j):=λq hq=>by
 rcases List.mem_cons.1 hq with rfl | hq
 ·exact a
 ·exact b q hq
omit [jA]in
def zeV{h:Nat→Option uA}{v:V}{x:V×List Nat}(hf:IG h v=some x):rJ h x.2:=by
 unfold IG at hf;split at hf
 ·split at hf
  ·rename_i t l m hr;cases hm:m.isLock<;>simp[hm]at hf
   subst hf;exact zfv (λrow h1=>by rw[hr]at h1;cases h1;exact hm) (aV _)
  ·cases hf
 ·split at hf
  ·rename_i t' l m hr;cases hm:m.isLock
   ·simp only[hm,cond_false]at hf;split at hf
    ·simp at hf;subst hf;exact zfv (λrow h1=>by rw[hr]at h1;cases h1;exact hm) (aV _)
    ·cases hf
   ·simp[hm]at hf
  ·cases hf
 ·cases hb:wG 8 v<;>simp[hb]at hf
  subst hf;exact aV _
omit [jA]in
def XT{h:Nat→Option uA}:∀{vs:List V} {x:List V×List Nat},bG h vs=some x→rJ h x.2
 | [],x,hf=>by simp[bG]at hf;subst hf;exact aV _
 | v :: vs,x,hf=>by
  simp only[bG]at hf;split at hf
  ·cases hf
  rename_i h1;split at hf
  ·cases hf
  rename_i h2;cases hf;exact zka (zeV h1) (XT h2)
omit [jA]in
def zcj{h:Nat→Option uA}{v:V}{x:V×List Nat}(hf:rH h v=some x):rJ h x.2:=by
 unfold rH at hf;split at hf
 ·split at hf
  ·rename_i h1;cases hf;exact(XT h1:_)
  ·cases hf
 ·split at hf
  ·rename_i cs m hr;cases hb:(m.isLock||cs.isEmpty)
   case true=>simp[hb]at hf
   simp only[hb,cond_false]at hf;split at hf
   ·rename_i h1;cases hf;refine zfv (λrow h2=>?_) (XT h1)
    grind
   ·cases hf
  ·cases hf
 ·exact zeV hf
omit [jA]in
def zeU{h:Nat→Option uA}:∀{vs:List V} {x:List V×List Nat},nL h vs=some x→rJ h x.2
 | [],x,hf=>by simp[nL]at hf;subst hf;exact aV _
 | v :: vs,x,hf=>by
  simp only[nL]at hf;split at hf
  ·cases hf
  rename_i h1;split at hf
  ·cases hf
  rename_i h2;cases hf;exact zka (zcj h1) (zeU h2)
omit [jA]in
def zkq{π:Nat→Prop}{h:Nat→Option uA}{t:TN}{v:V}{l:List (El t)}{r:Option Nat}(ht:XS h t v=some (l,r)):RD π h (JO h r):=by
 cases r with
 | none=>exact RD.refl _ _
 | some r=>
  refine YK (RD.refl _ _) r none (.inr ?_);unfold XS at ht;split at ht
  ·cases ht
  ·split at ht
   ·rename_i hr;split at ht
    ·cases ht;exact⟨_,hr,rfl⟩
    ·cases ht
   ·cases ht
  ·split at ht
   ·rename_i hr;split at ht
    ·cases ht;exact⟨_,hr,rfl⟩
    ·cases ht
   ·cases ht
  ·cases ht
omit [jA]in
def FK(π:Nat→Prop)(ow:List Nat):∀(cs:List V) (p:Nat) (h:Nat→Option uA) (x:List V×(Nat→Option uA)),bE ow p cs h=some x→RD π h x.2
 | [],p,h,x,ht=>by simp[bE]at ht;subst ht;exact RD.refl π h
 | c :: cs,p,h,x,ht=>by
  simp only[bE]at ht;cases hb:ow.any (Nat.beq p)
  ·simp only[hb,cond_false]at ht;split at ht
   case h_2=>cases ht
   rename_i hf;split at ht
   case h_2=>cases ht
   rename_i hr;cases ht;have k:=FK π ow cs (p+1) _ _ hr;exact(PN _ (zeV hf)).trans k
  ·simp only[hb,cond_true]at ht;split at ht
   ·split at ht
    case h_2=>cases ht
    rename_i JV;split at ht
    case h_2=>cases ht
    rename_i hr;cases ht;have k:=FK π ow cs (p+1) _ _ hr;exact(YK (RD.refl π h) _ none (.inr ⟨_,JV,rfl⟩)).trans k
   ·split at ht
    case h_2=>cases ht
    rename_i hr;cases ht;have:=FK π ow cs _ _ _ hr;exact this
   ·split at ht
    case h_2=>cases ht
    rename_i JV;split at ht
    case h_2=>cases ht
    rename_i hr;cases ht;have k:=FK π ow cs (p+1) _ _ hr;exact(YK (RD.refl π h) _ none (.inr ⟨_,JV,rfl⟩)).trans k
   ·cases ht
omit [jA]in
def zaT(π:Nat→Prop):∀(ks:List sB) (as:List V) (h:Nat→Option uA) (x:List V×(Nat→Option uA)×List Nat),zC ks as h=some x→
  RD π h x.2.1∧∀b∈x.2.2,∃row,h b=some row∧row.m.isOwn=true
 | [],[],h,x,ht=>by simp[zC]at ht;subst ht;exact⟨RD.refl π h,λb hb=>by simp at hb⟩
 | [],_ :: _,h,x,ht=>by simp[zC]at ht
 | .plain :: ks,[],h,x,ht=>by simp[zC]at ht
 | .ptr _ :: ks,[],h,x,ht=>by simp[zC]at ht
 | .mv _ :: ks,[],h,x,ht=>by simp[zC]at ht
 | .mv ow :: ks,v :: vs,h,x,ht=>by
  obtain⟨cs,rfl⟩:=zfy ht;simp only[zC]at ht;cases hb:Nat.ble cs.length 127
  case false=>simp[hb]at ht
  simp only[hb,cond_true]at ht;split at ht
  ·cases ht
  rename_i hl;split at ht
  ·cases ht
  rename_i hr;cases ht;obtain⟨k1,k2⟩:=zaT π ks vs _ _ hr;refine⟨(FK π _ _ _ _ _ hl).trans k1,λb hb=>?_⟩;obtain⟨row,h1,h2⟩:=k2 b hb;obtain⟨row2,h3,h4,h5⟩:=ML _ _ _ _ _ hl b row h1;refine⟨row2,h3,?_⟩;cases ho:row2.m.isOwn with
  | true=>rfl
  | false=>
   have:=FK (λ_=>True) _ _ _ _ _ hl b row2 trivial h3 ho
   grind
 | .plain :: ks,v :: vs,h,x,ht=>by
  simp only[zC]at ht;split at ht
  ·cases ht
  rename_i v' ids hf;split at ht
  ·cases ht
  rename_i hr;cases ht;obtain⟨k1,k2⟩:=zaT π ks vs _ _ hr;refine⟨(PN _ (zcj hf)).trans k1,λb hb=>?_⟩;obtain⟨row,h1,h2⟩:=k2 b hb;obtain⟨row',h3,h4,h5⟩:=OU h ids b row h1;rw[AF]at h1
  by_cases hm:b∈ids
  ·simp[hm,h3]at h1;subst h1;cases h2
  grind
 | .ptr ow :: ks,v :: vs,h,x,ht=>by
  obtain⟨r,rfl⟩:=zfg ht;simp only[zC]at ht;split at ht
  case h_2=>cases ht
  rename_i cs JV;cases hb:Nat.ble cs.length 127
  case false=>simp[hb]at ht
  simp only[hb,cond_true]at ht;split at ht
  ·cases ht
  rename_i hl;split at ht
  ·cases ht
  rename_i hr;cases ht;obtain⟨k1,k2⟩:=zaT π ks vs _ _ hr;refine⟨(YK (RD.refl π h) _ none (.inr ⟨_,JV,rfl⟩)).trans ((FK π _ _ _ _ _ hl).trans k1),λb hb=>?_⟩
  rcases List.mem_cons.1 hb with rfl | hb
  ·exact⟨_,JV,rfl⟩
  ·obtain⟨row,h1,h2⟩:=k2 b hb;obtain⟨row2,h3,h4,h5⟩:=ML _ _ _ _ _ hl b row h1;have B3:b≠r:=by rintro rfl;rw[RA]at h3;cases h3
   rw[DA _ _ _ _ B3]at h3;refine⟨row2,h3,?_⟩;cases ho:row2.m.isOwn with
   | true=>rfl
   | false=>
    have:=FK (λ_=>True) _ _ _ _ _ hl b row2 trivial (by rw[DA _ _ _ _ B3];exact h3) ho
    grind
def fD{α:Type}(p:α→Prop)(x:Option α):Prop:=∀y,x=some y→p y
structure RO(π:Nat→Prop)(dst:Option Nat)(st st':St):Prop where
 slots:∀s,dst≠some s→st'.s s=st.s s
 rows:RD π st.h st'.h
 nx:st'.nx=st.nx
section
variable {C:Cx} {st:St} {π:Nat→Prop} {dst:Option Nat}
omit [jA]in
def pF{α:Type}{p:α→Prop}:fD p none:=λ_ h=>by cases h
omit [jA]in
def QM{h':Nat→Option uA}(hk:RD π st.h h')(v:V):fD (RO π dst st) (VA C dst {st with h:=h'} v some):=by
 intro st' h;cases dst with
 | none=>simp[VA]at h;subst h;exact⟨λ_ _=>rfl,hk,rfl⟩
 | some d=>
  simp only[VA]at h;cases hb:Nat.blt d C.nt<;>simp[hb]at h
  subst h;exact⟨λs hs=>DA _ _ _ _ (λe=>hs (by rw[e])),hk,rfl⟩
omit [jA]in
def zdf(v:V):fD (RO π dst st) (VA C dst st v some):=QM (RD.refl π st.h) v
omit [jA]in
def zl8{h':Nat→Option uA}(hk:RD π st.h h'){i:Nat}(hi:∀q,q<128→¬π (i+q))(c:uF)(v:V):fD (RO π dst st) (vF C dst {st with h:=h'} i c v some):=QM (YK hk i _ (.inl (hi 0 (by omega)))) v
omit [jA]in
def zu5{i:Nat}(hi:∀q,q<128→¬π (i+q))(c:uF)(v:V):fD (RO π dst st) (vF C dst st i c v some):=QM (YK (RD.refl π st.h) i _ (.inl (hi 0 (by omega)))) v
omit [jA]in
def JS{α:Type}{p:α→Prop}(b:Bool){x:Option α}(h:b=true→fD p x):fD p (bif b then x else none):=by
 cases b
 ·exact pF
 ·exact h rfl
omit [jA]in
def fS{α:Type}{p:α→Prop}(b:Bool){x:Option α}(h:b=false→fD p x):fD p (bif b then none else x):=by
 cases b
 ·exact h rfl
 ·exact pF
omit [jA]in
def NS{α β:Type}{p:β→Prop}(x:Option α){f:α→Option β}(h:∀v,x=some v→fD p (f v)):fD p (Option.bind x f):=by
 cases x with
 | none=>exact pF
 | some v=>exact h v rfl
omit [jA]in
def tK{α:Type}{p:α→Prop}(b:Bool){x:Option α}(h:b=true→fD p x):fD p (gd b x none):=by
 cases b
 ·exact pF
 ·exact h rfl
omit [jA]in
def zlE{α:Type}{p:α→Prop}(b:Bool){x:Option α}(h:b=false→fD p x):fD p (gd b none x):=by
 cases b
 ·exact h rfl
 ·exact pF
omit [jA]in
def YS{α β:Type}{p:β→Prop}(x:Option α){f:α→Option β}(h:∀v,x=some v→fD p (f v)):fD p (BK x f):=by
 cases x with
 | none=>exact pF
 | some v=>exact h v rfl
omit [jA]in
def zk8{p:St→Prop}{K:V→Option St}(h:∀v,fD p (K v))(ag:Bool)(m:Nat)(cs:List V)(off:Nat):fD p (qG ag m cs off K):=by
 cases ag<;>simp only[qG,aD,US]
 ·split
  ·exact h _
  ·exact pF
 ·exact tK _ λ_=>h _
omit [jA]in
def zlZ{p:St→Prop}{K:V→Option St}(h:∀v,fD p (K v))(op:BinOp)(x y:V):fD p (gN op x y K):=by
 unfold gN;split
 ·exact JS _ λ_=>fS _ λ_=>h _
 ·exact JS _ λ_=>fS _ λ_=>h _
 ·exact fS _ λ_=>h _
 ·exact fS _ λ_=>h _
 ·exact JS _ λ_=>h _
 ·split
  ·exact h _
  ·exact pF
omit [jA]in
def zfT{p:St→Prop}{f:Nat→Option St}(h:∀k,fD p (f k))(i:Int):∀(m k:Nat),fD p (pJ f i k m)
 | 0,k=>pF
 | m+1,k=>by
  simp only[pJ];cases i==(k:Int)
  ·exact zfT h i m (k+1)
  ·exact h k
omit [jA]in
def zlL{p:St→Prop}{K:V→Option St}(h:∀v,fD p (K v))(d:TypeDesc)(tk:TypeId→TN→Bool)(hp:Nat→Option uA)(x:V)(lo hi:Option V):fD p (NO d tk hp x lo hi K):=by
 unfold NO;split
 ·exact pF
 split
 case h_2=>exact pF
 refine JS _ λ_=>?_;split
 ·exact tK _ λ_=>h _
 ·exact h _
 ·split
  ·exact tK _ λ_=>h _
  ·exact pF
 ·exact tK _ λ_=>h _
 ·exact pF
omit [jA]in
def zjE:∀(ks:List sB) (as:List V) (h:Nat→Option uA) (x:List V×(Nat→Option uA)×List Nat),ks.all sB.isPlain=true→zC ks as h=some x→x.2.2=[]
 | [],[],h,x,_,ht=>by simp[zC]at ht;subst ht;rfl
 | [],_ :: _,h,x,_,ht=>by simp[zC]at ht
 | .plain :: ks,[],h,x,_,ht=>by simp[zC]at ht
 | .plain :: ks,v :: vs,h,x,hp,ht=>by
  simp only[List.all_cons,Bool.and_eq_true]at hp;simp only[zC]at ht;split at ht
  ·cases ht
  split at ht
  ·cases ht
  rename_i hr;cases ht;have:=zjE ks vs _ _ hp.2 hr;exact this
 | .ptr _ :: ks,as,h,x,hp,ht=>by simp[sB.isPlain]at hp
 | .mv _ :: ks,as,h,x,hp,ht=>by simp[sB.isPlain]at hp
omit [jA]in
def zsd{ci:bB}{rs:List V}{h h':Nat→Option uA}{q:Nat}{row:uA}(hq:vL ci rs h h' q=some row):h q=some row∨h' q=some row:=by
 unfold vL at hq;cases hp:YM ci rs
 ·rw[hp,cond_false]at hq;cases hb:ci.pb
  ·rw[hb,cond_false]at hq;cases hm:TE ci.own 0 rs with
   | none=>rw[hm]at hq;exact .inr hq
   | some m=>
    rw[hm]at hq;have hq:CL m h h' q=some row:=hq;unfold CL at hq
    grind
  grind
 grind
omit [jA]in
def zsJ{ci:bB}{rs:List V}{h h':Nat→Option uA}{q:Nat}{row:uA}(h1:h q=some row)(h2:h' q=some row)(hm:row.m.isOwn=false):vL ci rs h h' q=some row:=by
 unfold vL;cases YM ci rs
 ·cases ci.pb
  ·simp only[cond_false];cases TE ci.own 0 rs with
   | none=>exact h2
   | some m=>
    show CL m h h' q=some row
    unfold CL
    grind
  ·exact h2
 ·exact h1
omit [jA]in
def zut{i:Nat}(hi:∀q,q<128→¬π (i+q))(f:Nat)(as:List V):fD (RO π dst st) (wK C i dst st f as some):=by
 unfold wK;split
 ·exact pF
 rename_i ci _;split
 ·split
  ·exact pF
  rename_i as' h' bs m0;refine YS _ λx _=>NS _ λr _=>tK _ λMV=>QM ?_ _;simp only[Bool.and_eq_true]at MV;intro q row hq JV hm;rw[DO]
  have bX:rE ci as' bs i (ci.eR r) q=none:=by
   cases hx:rE ci as' bs i (ci.eR r) q with
   | none=>rfl
   | some y=>
    rcases zmf (Nat.le_of_ble_eq_true MV.1) hx with h1 | h1
    ·have hp:=MV.2;simp only[YM,Bool.and_eq_true]at hp;have hb:bs=[]:=zjE ci.ks as _ _ hp.1.2 m0
     grind
    ·exact absurd hq (by have:=hi (q - i) (by omega);rwa [show i+(q - i)=q by omega]at this)
  grind
 rename_i as' h' bs m0;refine YS _ λx _=>NS _ λr _=>tK _ λMV=>QM ?_ _;obtain⟨k1,k2⟩:=zaT π _ _ _ _ m0;intro q row hq JV hm;have MV:=Nat.le_of_ble_eq_true MV;rw[DO]
 have bX:rE ci as' bs i (ci.eR r) q=none:=by
  cases hx:rE ci as' bs i (ci.eR r) q with
  | none=>rfl
  | some y=>
   rcases zmf MV hx with h1 | h1
   ·grind
   ·exact absurd hq (by have:=hi (q - i) (by omega);rwa [show i+(q - i)=q by omega]at this)
 rw[bX];exact zsJ JV (k1 q row hq JV hm) hm
omit [jA]in
def zjA{i:Nat}(hi:∀q,q<128→¬π (i+q))(o:Oper):fD (RO π o.dst st) (qB C i o st some):=by
 unfold qB
 repeat' first
  | exact pF
  | exact zdf _
  | exact zu5 hi _ _
  | exact zut hi _ _
  | exact QM (PN _ (zeU ‹_›)) _
  | exact zl8 (PN _ (zeU ‹_›)) hi _ _
  | exact zl8 (zkq ‹_›) hi _ _
  | exact QM (YK (RD.refl π st.h) _ _ (.inr ⟨_, ‹_›,rfl⟩)) _
  | exact QM (YK (PN _ (XT ‹_›)) _ _ (.inr ⟨_, ‹_›,rfl⟩)) _
  | refine zk8 (λ_=>?_) _ _ _ _
  | refine zlZ (λ_=>?_) _ _ _
  | refine zfT (λ_=>?_) _ _ _
  | refine zlL (λ_=>?_) _ _ _ _ _ _
  | refine JS _ (λ_=>?_)
  | refine fS _ (λ_=>?_)
  | refine tK _ (λ_=>?_)
  | refine zlE _ (λ_=>?_)
  | refine YS _ (λ_ _=>?_)
  | refine NS _ (λ_ _=>?_)
  | split
end
abbrev nD(n:Nat)(h h':Nat→Option uA):Prop:=RD (λr=>r<n) h h'
omit [jA]in
def nD.refl(n:Nat)(h:Nat→Option uA):nD n h h:=RD.refl _ h
omit [jA]in
def nD.trans{n:Nat}{a b c:Nat→Option uA}(h:nD n a b)(k:nD n b c):nD n a c:=RD.trans h k
omit [jA]in
def nD.le{n m:Nat}{a b:Nat→Option uA}(h:nD n a b)(hm:m≤n):nD m a b:=λr row hr=>h r row (by have:r<m:=hr;show r<n;omega)
omit [jA]in
def zko{C:Cx}{st:St}{n:Nat}{i:Nat}(hi:n≤i)(o:Oper):fD (RO (λr=>r<n) o.dst st) (qB C i o st some):=zjA (λq _ h=>by omega) o
end Go.D

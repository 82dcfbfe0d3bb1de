/-
 One operation, continued: conversions, closures, what is made.
-/
import Derived.Test.YtfipojlaeaeedaaGreatL3
import Derived.Laws.IdiomStrings
import Derived.Laws.BytesArg
import Derived.Laws.MakeOwn
set_option linter.all false
namespace Go.D
variable [fA]
omit [fA]in
def UU(t:TN):sz t≤128:=by cases t<;>simp[sz]
section
variable {C:Cx} {w0:World} {outer own:Nat→Prop} {ρ:Nat→Option RI} {st st':St} {a:Act} {w:World} {h:Nat→Option kA}
omit [fA]in
def zcS:∀(parts:List (Nat×Operand)) (k:Nat) (vs:List V),jP st.s k parts=some vs→vs.length=parts.length∧
  ∀j (hj:j<parts.length),(parts[j]).1=k+j∧∃(h:j<vs.length),vs[j]=opd st.s (parts[j]).2
 | [],k,vs,h=>by simp[jP]at h;subst h;exact⟨rfl,λj hj=>by simp at hj⟩
 | (j,x) :: r,k,vs,h=>by
  simp only[jP]at h;cases hb:Nat.beq k j
  case false=>simp[hb]at h
  have hkj:=Nat.eq_of_beq_eq_true hb;simp only[hb,cond_true]at h;split at h
  ·cases h
  rename_i vs' hv;cases h;obtain⟨h1,h2⟩:=zcS r (k+1) vs' hv;refine⟨by simp[h1],λq hq=>?_⟩;cases q with
  | zero=>exact⟨by simp[hkj],by simp,rfl⟩
  | succ q=>
   grind
omit [fA]in
def zeM(off:Nat):∀(l:List (Value×Nat)) (k:Nat) (cs:Array Value),(∀j (hj:j<l.length),(l[j]).2=k+j)→
  (l.foldl (λcs (c,j)=>cs.setIfInBounds (off+j) c) cs).size=cs.size∧
  ∀p,p<cs.size→(l.foldl (λcs (c,j)=>cs.setIfInBounds (off+j) c) cs).getD p undef=if h:off+k≤p∧p<off+k+l.length then(l[p - (off+k)]'(by omega)).1 else cs.getD p undef
 | [],k,cs,_=>⟨rfl,λp hp=>by simp;omega⟩
 | (c,j) :: l,k,cs,hl=>by
  have hj:j=k:=hl 0 (by simp);subst hj;obtain⟨h1,h2⟩:=zeM off l (j+1) (cs.setIfInBounds (off+j) c) (λq hq=>by have:=hl (q+1) (by simp;omega);simp at this;omega);refine⟨by simp only[List.foldl_cons];rw[h1];simp,λp hp=>?_⟩;simp only[List.foldl_cons];rw[h2 p (by simpa using hp)]
  by_cases lW:off+(j+1)≤p∧p<off+(j+1)+l.length
  ·grind
  ·rw[dif_neg lW]
   by_cases he:p=off+j
   ·subst he;rw[dif_pos ⟨Nat.le_refl _,by simp⟩];rw[Array.getD_eq_getD_getElem?,Array.getElem?_setIfInBounds];simp[hp]
   ·rw[dif_neg (by simp;omega)];rw[Array.getD_eq_getD_getElem?,Array.getElem?_setIfInBounds,if_neg (by omega),Array.getD_eq_getD_getElem?]
omit [fA]in
def zdJ(v:Value)(off:Nat)(cs:Array Value):(v.cells.zipIdx.foldl (λcs (c,j)=>cs.setIfInBounds (off+j) c) cs).size=cs.size∧
  ∀p,p<cs.size→(v.cells.zipIdx.foldl (λcs (c,j)=>cs.setIfInBounds (off+j) c) cs).getD p undef=if off≤p∧p<off+v.cells.size then v.cells.getD (p - off) undef else cs.getD p undef:=by
 rw[←Array.foldl_toList];obtain⟨h1,h2⟩:=zeM off v.cells.zipIdx.toList 0 cs (λj hj=>by simp);refine⟨h1,λp hp=>?_⟩;rw[h2 p hp]
 by_cases lW:off≤p∧p<off+v.cells.size
 ·rw[if_pos lW,dif_pos (by simpa using lW)];rw[Array.getD_eq_getD_getElem?,Array.getElem?_eq_getElem (by omega)];simp
 ·grind
omit [fA]in
def zeK(size:Nat):∀(parts:List (Nat×Value)) (k:Nat) (cs:Array Value),(∀j (hj:j<parts.length),(parts[j]).1=k+j∧(parts[j]).2.cells.size=size)→
  (k+parts.length) *size≤cs.size→∃ cs',Instr.fill (fun i=>some (i *size,size)) cs parts=some cs'∧cs'.size=cs.size∧
   (∀j (hj:j<parts.length) q,q<size→cs'.getD ((k+j) *size+q) undef=(parts[j]).2.cells.getD q undef)∧∀p,p<k *size→cs'.getD p undef=cs.getD p undef
 | [],k,cs,_,_=>⟨cs,rfl,rfl,λj hj=>by simp at hj,λ_ _=>rfl⟩
 | (i,v) :: r,k,cs,hp,hs=>by
  obtain⟨h1,h2⟩:=hp 0 (by simp);simp only[List.getElem_cons_zero,Nat.add_zero]at h1 h2;subst h1;simp only[List.length_cons]at hs;have v3:(i+1+r.length) *size=i *size+size+r.length *size:=by rw[Nat.add_mul,Nat.add_mul,Nat.one_mul]
  have hs3:(i+(r.length+1)) *size=i *size+size+r.length *size:=by rw[Nat.add_mul,Nat.add_mul,Nat.one_mul];omega
  obtain⟨h3,h4⟩:=zdJ v (i *size) cs;obtain⟨cs',h5,h6,h7,h8⟩:=zeK size r (i+1) _ (λj hj=>by have:=hp (j+1) (by simp;omega);simpa[Nat.add_assoc,Nat.add_comm 1 j]using this) (by rw[h3];omega);have RV:∀j,j<r.length→(i+1+j) *size≥i *size+size:=λj _=>by rw[Nat.add_mul,Nat.add_mul,Nat.one_mul];omega
  refine⟨cs',?_,by rw[h6,h3],λj hj q hq=>?_,λp g8=>?_⟩
  ·simp only[Instr.fill]
   grind
  ·cases j with
   | zero=>
    grind
   | succ j=>
    grind
  grind
omit [fA]in
def zdY(t:TN):∀(css:List (List V)) (l:List (El t)),MP t css=some l→l.length=css.length∧∀j (hj:j<css.length) (IW:j<l.length),mB css[j] (enc t l[j])
 | [],l,h=>by simp[MP]at h;subst h;exact⟨rfl,λj hj=>by simp at hj⟩
 | cs :: css,l,h=>by
  simp only[MP]at h;split at h
  ·cases h
  rename_i x hx;split at h
  ·cases h
  rename_i l' hl;cases h;obtain⟨h1,h2⟩:=zdY t css l' hl;refine⟨by simp[h1],λj hj IW=>?_⟩;cases j with
  | zero=>exact ZD t hx
  | succ j=>simpa using h2 j (by simpa using hj) (by simpa using IW)
variable {o:Oper} {i:Nat} (hr:NA C w0 outer own ρ st a w)
include hr
def zi3(xs:List Operand):∀j (hj:j<(xs.map (opd st.s)).length),VR w ρ (jA outer ρ st.h) ((xs.map a.eval).getD j undef) (xs.map (opd st.s))[j]:=λj hj=>by
 have IW:j<xs.length:=by simpa using hj
 rw[List.getD_eq_getElem?_getD,List.getElem?_map,List.getElem?_eq_getElem IW,List.getElem_map];exact hr.opd xs[j]
def zi2(f:Nat)(first captured:Array Operand)(ho:o.op= .makeFunc (.func f) first captured)(hk:UA C i o st some=some st'):RB C.P o a w (JB C w0 outer own i ρ st'):=by
 simp only[UA,ho]at hk;cases he:first.isEmpty
 case false=>simp[he]at hk
 simp only[he,XB]at hk;split at hk
 case h_2=>cases hk
 rename_i cs ids qY;have he:first= #[]:=by simpa using he
 subst he;obtain⟨h1,h2⟩:=hr.heap.mark ids;obtain⟨h3,h4⟩:=zar hr.heap (zi3 hr captured.toList) qY;have WV:NA C w0 outer own ρ {st with h:=FB st.h ids} a w:=hr.turn h1 h2;refine vB (v:= .func (.func f) #[] (captured.map a.eval)) (w':=w) (by simp[execOp,ho,Instr.makeFunc]) (WV.after (.fn f cs _ (by simp[h3]) λj hj=>?_) hk);have:=(h4 j hj).1;rw[Array.getD_eq_getD_getElem?]
 grind
def ziv(hC:iE C)(t:TypeId)(len:Nat)(parts:Array (Nat×Operand))(ho:o.op= .buildSlice t len parts)(hi:ρ i=none)(hk:UA C i o st some=some st'):
  RB C.P o a w (JB C w0 outer own i ρ st'):=by
 simp only[UA,ho]at hk;split at hk
 ·cases hk
 rename_i tn vW;obtain⟨e,he,J0⟩:=Option.bind_eq_some_iff.1 vW
 have hu:C.P.underlying t=some (.slice e):=by
  unfold iK at he
  grind
 obtain⟨info,z,eY,hi2,V3,J1,W3⟩:=hC.ok e tn J0;split at hk
 ·cases hk
 rename_i vs O1;cases hb:(Nat.beq vs.length len&&Nat.ble len 1000)
 case false=>simp[hb]at hk
 simp only[hb,XB]at hk;simp only[Bool.and_eq_true]at hb;have LV:=Nat.eq_of_beq_eq_true hb.1;have cW:=Nat.le_of_ble_eq_true hb.2;split at hk
 ·cases hk
 rename_i vs' ids qY;obtain⟨l,hl,hk⟩:=Option.bind_eq_some_iff.1 ((vN _ _).symm.trans hk);obtain⟨hp1,hp2⟩:=zcS parts.toList 0 vs O1;have GY:parts.toList.length=len:=by omega
 have hps:parts.size=len:=by rw[←Array.length_toList];exact GY
 have XW:∀j (hj:j<vs.length),VR w ρ (jA outer ρ st.h) (a.eval ((parts.toList.map (·.2)).getD j (.const undef))) vs[j]:=λj hj=>by
  obtain⟨_,h4,h5⟩:=hp2 j (by omega);rw[h5,List.getD_eq_getElem?_getD,List.getElem?_map,List.getElem?_eq_getElem (by omega)];exact hr.opd _
 obtain⟨h1,h2⟩:=hr.heap.mark ids;obtain⟨h3,h4⟩:=zar hr.heap XW qY;obtain⟨h5,h6⟩:=zdY tn _ l hl;have WV:NA C w0 outer own ρ {st with h:=FB st.h ids} a w:=hr.turn h1 h2
 -- the cells
 let pv:List (Nat×Value):=parts.toList.map λp=>(p.1,a.eval p.2);have j8:pv.length=len:=by simp[pv];omega
 have Y6:l.length=len:=by rw[h5,List.length_map];omega
 have m8:∀j (hj:j<pv.length),(pv[j]).1=0+j∧(pv[j]).2.cells.size=sz tn∧∀q,q<sz tn→∃(IW:j<l.length),VR w ρ (jA outer ρ (FB st.h ids)) ((pv[j]).2.cells.getD q undef) ((enc tn l[j]).getD q .undef):=λj hj=>by
  have hjv:j<vs'.length:=by omega
  have OY:j<l.length:=by omega
  obtain⟨e1,e2,e3⟩:=hp2 j (by omega);obtain⟨g1,g2⟩:=h4 j hjv
  have jY:(parts.toList.map (·.2)).getD j (.const undef)=(parts.toList[j]'(by omega)).2:=by
   grind
  rw[jY]at g1;have fW:=h6 j (by simpa using hjv) OY;rw[List.getElem_map]at fW;have TZ:(cellsOf vs'[j]).length=sz tn:=by rw[fW.len,fC]
  have n8:pv[j]=((parts.toList[j]'(by omega)).1,a.eval (parts.toList[j]'(by omega)).2):=by simp[pv]
  rw[n8]
  have Y3:rF (cellsOf vs'[j])=true:=by
   rw[rF,List.all_eq_true];intro c hc;obtain⟨q,hq,rfl⟩:=List.mem_iff_getElem.1 hc;have hs:=fW.get q hq (by rw[←fW.len];exact hq);have ZX:=zcw tn l[j] q (by omega);rw[nN _ _ _ (by rw[fC];omega)]at ZX;generalize (cellsOf vs'[j])[q]=c at hs;generalize (enc tn l[j])[q]'_=d at hs ZX;cases hs<;>first | exact ZX | rfl
  obtain⟨f1,f2,f3⟩:=jT g1 Y3;refine⟨e1,by rw[f1,TZ],λq hq=>⟨OY,?_⟩⟩;have:=VR.sub (fW.get q (by omega) (by rw[fC];exact hq)) (f2 q (by omega))
  grind
 obtain⟨cs',c1,c2,c3,_⟩:=zeK (sz tn) pv 0 ((Array.range (len *sz tn)).map (λk=>(if len *sz tn=0 then(#[]:Array Value)else z.cells)[k % (if len *sz tn=0 then(#[]:Array Value)else z.cells).size]!))
  (λj hj=>⟨(m8 j hj).1,(m8 j hj).2.1⟩) (by simp[j8])
 have o8:cs'.size=len *sz tn:=by rw[c2];simp
 have p8:¬(2^24<len *sz tn):=by
  have h1:=UU tn;have:len *sz tn≤1000 *128:=Nat.mul_le_mul cW h1;omega
 have IV:(execOp a.eval o).run C.P w= .ok (.value (.slice (some ⟨w.heap.size,0,none⟩) len len)) (w.alloc (.cells cs' e)):=by
  have hpm:(parts.map λx=>(x.1,a.eval x.2)).toList=pv:=by simp[pv]
  simp only[execOp,ho,Instr.buildSlice,Sem.run_bind,RD hu,Result.andThen_ok,sizeOf,typeInfo,run_program,eY,Sem.run_pure,hi2,gt_iff_lt,p8,if_false]
  by_cases h0:len *sz tn=0
  ·simp only[h0,if_true]at c1⊢;simp only[Sem.run_bind,Sem.run_pure,Result.andThen_ok,hpm,c1];rfl
  ·simp only[h0,if_false]at c1⊢;simp only[Sem.run_bind,Sem.run_pure,Result.andThen_ok,zeroValue,typeInfo,run_program,eY,J1,hpm,c1];rfl
 refine vB IV (WV.newRow hi ⟨w.heap.size,len,len,false⟩ (λ_=>rfl) _ (sP _ _) (λb hb=>iO _ _ _ hb) (λ_=>by simp) (c:= .arr tn l) (λbad KV=>?_) (λbad=>?_) hk)
 ·refine⟨Y6.symm, .inr ⟨rfl,zaS (hC.tys e tn J0),Nat.le_refl _,by unfold maxLen;simp;omega,λj hj=>⟨World.frozen?_alloc_new _ _ _ _,?_⟩,λi' dW j hj=>?_⟩⟩
  ·have IW:j<len *sz tn:=hj;rw[JJ w cs' e j (by omega)];rfl
  ·have hip:i'<pv.length:=by omega
   have NV:i' *sz tn+j<cs'.size:=by
    rw[o8];have:(i'+1) *sz tn≤len *sz tn:=Nat.mul_le_mul_right _ (by omega)
    grind
   obtain⟨_,_,g3⟩:=m8 i' hip;obtain⟨_,g4⟩:=g3 j hj;refine⟨_,JJ w cs' e _ NV,?_⟩
   grind
 ·exact .ow i ⟨w.heap.size,len,len,false⟩ (EA _ _ _) (Nat.le_refl _) (by unfold maxLen;simp;omega) rfl
end
end Go.D
namespace Go.D
variable [fA]
section
variable {C:Cx} {w0:World} {outer own:Nat→Prop} {ρ:Nat→Option RI} {st st':St} {a:Act} {w:World}
def zdC(hr:NA C w0 outer own ρ st a w)(pl:List (Nat×Nat)):∀(parts:List (Nat×Operand)) (cs cs':List V) (vs:Array Value),
  AP pl st.s cs parts=some cs'→vs.size=cs.length→(∀j (hj:j<cs.length),VR w ρ (jA outer ρ st.h) (vs.getD j undef) cs[j])→
  ∃vs',Instr.fill (λi=>pl[i]?) vs (parts.map λp=>(p.1,a.eval p.2))=some vs'∧vs'.size=cs'.length∧∀j (hj:j<cs'.length),VR w ρ (jA outer ρ st.h) (vs'.getD j undef) cs'[j]
 | [],cs,cs',vs,hf,hs,hv=>by simp[AP]at hf;subst hf;exact⟨vs,rfl,hs,hv⟩
 | (f,x) :: r,cs,cs',vs,hf,hs,hv=>by
  simp only[AP]at hf;split at hf
  ·cases hf
  rename_i off n hp;cases hb:(Nat.beq n (cellsOf (opd st.s x)).length&&rF (cellsOf (opd st.s x))&&Nat.ble (off+n) cs.length)
  case false=>simp[hb]at hf
  simp only[hb,cond_true]at hf;simp only[Bool.and_eq_true]at hb;obtain⟨⟨N1,SZ⟩,hb3⟩:=hb;have hn:=Nat.eq_of_beq_eq_true N1;have cW:=Nat.le_of_ble_eq_true hb3;obtain⟨g1,g2,_⟩:=jT (hr.opd x) SZ;obtain⟨k1,k2⟩:=zdJ (a.eval x) off vs;obtain⟨s1,s2⟩:=zaB cs off (cellsOf (opd st.s x)) (by omega)
  obtain⟨vs',h1,h2,h3⟩:=zdC hr pl r _ cs' _ hf (by rw[k1,s1,hs]) (λj hj=>by
   rw[s2 j (by omega) hj,k2 j (by omega)]
   by_cases lW:off≤j∧j<off+(cellsOf (opd st.s x)).length
   ·rw[dif_pos lW,if_pos (by omega)];exact g2 _ (by omega)
   ·rw[dif_neg lW,if_neg (by omega)];exact hv j (by omega))
  refine⟨vs',?_,h2,h3⟩;simp only[List.map_cons,Instr.fill,hp];rw[if_neg]
  ·exact h1
  ·simp;omega
omit [fA]in
def zd6{f g:Nat→Option (Nat×Nat)}(hfg:∀k p,f k=some p→g k=some p):∀(cs:Array Value) (l:List (Nat×Value)) (r:Array Value),Instr.fill f cs l=some r→Instr.fill g cs l=some r
 | cs,[],r,h=>h
 | cs,(i,v) :: l,r,h=>by
  simp only[Instr.fill]at h⊢;cases hf:f i with
  | none=>rw[hf]at h;cases h
  | some p=>
   obtain⟨off,n⟩:=p;rw[hf]at h;rw[hfg i _ hf];simp only at h⊢;split at h
   ·cases h
   ·rename_i hc;rw[if_neg hc];exact zd6 hfg _ l r h
variable {o:Oper} {i:Nat} (hr:NA C w0 outer own ρ st a w)
include hr
def zlc(t:TypeId)(parts:Array (Nat×Operand))(ho:o.op= .build t parts)(hk:UA C i o st some=some st'):RB C.P o a w (JB C w0 outer own i ρ st'):=by
 simp only[UA,ho]at hk;split at hk
 case h_2=>cases hk
 rename_i cs pl hz GY;obtain⟨cs',hf,KV⟩:=Option.bind_eq_some_iff.1 ((vN _ _).symm.trans hk);unfold zeroCells at hz;split at hz
 case h_2=>cases hz
 rename_i z dY;cases hb:rF (z.cells.toList.map uK)<;>simp[hb]at hz
 subst hz;obtain⟨info,eY,hi2⟩:=Option.bind_eq_some_iff.1 dY
 obtain⟨vs',h1,h2,h3⟩:=zdC hr pl parts.toList _ cs' z.cells hf (by simp) (λj hj=>by
  rw[List.getElem_map];have IW:j<z.cells.size:=by simpa using hj
  rw[Array.getD_eq_getD_getElem?,Array.getElem?_eq_getElem IW];exact mU _)
 have P1:C.P.built t (parts.map λ(i,x)=>(i,a.eval x)).toList=some vs':=by
  unfold zfi at GY;split at GY
  ·rename_i fs hu;simp only[Program.built,eY,hu,hi2,GY,Array.toList_map];simpa using h1
  ·rename_i n e hu;split at GY
   case h_2=>cases GY
   rename_i ie Z3;cases hb:Nat.ble n 128<;>simp[hb]at GY
   subst GY;simp only[Program.built,eY,hu,hi2,Z3,Array.toList_map];refine zd6 (λk p hp=>?_) _ _ _ h1;simp only[List.getElem?_map]at hp;cases hk:(List.range n)[k]? with
   | none=>simp[hk]at hp
   | some y=>
    simp[hk]at hp
    have:y=k:=by
     obtain⟨NV,hy⟩:=List.getElem?_eq_some_iff.1 hk;simpa using hy.symm
    subst this;rw[←hp]
  ·cases GY
 refine vB (v:= .agg vs') (w':=w) ?_ (hr.after (.agg cs' vs' h2 h3) KV);simp only[execOp,ho,Sem.run_bind,run_build w t _ vs' P1,Result.andThen_ok];rfl
def ziF(hC:iE C)(t:TypeId)(x y:Operand)(ho:o.op= .makeSlice t x y)(hi:ρ i=none)(hk:UA C i o st some=some st'):RB C.P o a w (JB C w0 outer own i ρ st'):=by
 simp only[UA,ho]at hk;split at hk
 case h_2=>cases hk
 rename_i tn z vW hz;obtain⟨e,he,J0⟩:=Option.bind_eq_some_iff.1 vW
 have hu:C.P.underlying t=some (.slice e):=by
  unfold iK at he;split at he
  ·rename_i h1;cases he;exact h1
  ·cases he
 obtain⟨info,z',eY,hi2,V3,J1,W3⟩:=hC.ok e tn J0;rw[he,Option.bind_some]at hz;unfold zeroCells at hz;rw[eY,Option.bind_some,J1]at hz;simp only at hz;cases hb:rF (z'.cells.toList.map uK)<;>simp[hb]at hz
 subst hz;split at hk
 case h_2=>cases hk
 rename_i n c hn hc;cases tY:(decide (0≤n)&&decide (n≤(bA:Int))&&(n==c))
 case false=>simp[tY]at hk
 simp only[tY,cond_true]at hk;simp only[Bool.and_eq_true,decide_eq_true_eq,beq_iff_eq]at tY;obtain⟨⟨h0,pW⟩,rfl⟩:=tY;obtain⟨x0,LX,hk⟩:=Option.bind_eq_some_iff.1 ((vN _ _).symm.trans hk);have hx:=hr.opd x;rw[hn]at hx;have hy:=hr.opd y;rw[hc]at hy;generalize PY:a.eval x=vx at hx;generalize QY:a.eval y=vy at hy;cases hx;cases hy
 have IV:=run_make (P:=C.P) w t e info z' hu eY J1 .i64 .i64 n n h0 (Int.le_refl _) (by
  have h1:info.bytes *n≤1024 *n:=Int.mul_le_mul_of_nonneg_right (by omega) h0;unfold bA at pW;omega) (by unfold bA at pW;omega)
 have b4:(execOp a.eval o).run C.P w= .ok (.value (.slice (some ⟨w.heap.size,0,none⟩) n.toNat n.toNat)) (w.alloc (.cells (madeCells z'.cells (n.toNat *info.size)) e)):=by
  simp only[execOp,ho,PY,QY,Sem.run_bind,IV,Result.andThen_ok];rfl
 have hnm:n.toNat≤maxLen:=by unfold maxLen;unfold bA at pW;omega
 have RV:(madeCells z'.cells (n.toNat *info.size)).size=n.toNat *sz tn:=by rw[size_madeCells,hi2]
 refine vB b4 (hr.newRow hi ⟨w.heap.size,n.toNat,n.toNat,false⟩ (λ_=>rfl) _ (sP _ _) (λb hb=>iO _ _ _ hb) (λ_=>by simp) (c:= .arr tn (List.replicate n.toNat x0)) (λbad KV=>?_) (λbad=>?_) hk)
 ·refine⟨by simp, .inr ⟨rfl,zaS (hC.tys e tn J0),Nat.le_refl _,hnm,λj hj=>⟨World.frozen?_alloc_new _ _ _ _,?_⟩,λi' dW j hj=>?_⟩⟩
  ·have IW:j<n.toNat *sz tn:=hj;rw[JJ w _ e j (by omega)];rfl
  ·have lW:i'<n.toNat:=by simpa using dW
   have NV:i' *sz tn+j<(madeCells z'.cells (n.toNat *info.size)).size:=by
    rw[RV];have:(i'+1) *sz tn≤n.toNat *sz tn:=Nat.mul_le_mul_right _ lW;rw[Nat.add_mul,Nat.one_mul]at this;omega
   refine⟨_,JJ w _ e _ NV,?_⟩;have sW:j<z'.cells.size:=by omega
   have jY:(madeCells z'.cells (n.toNat *info.size)).getD (i' *sz tn+j) undef=z'.cells.getD j undef:=by
    rw[Array.getD_eq_getD_getElem?,Array.getElem?_eq_getElem NV,Array.getD_eq_getD_getElem?,Array.getElem?_eq_getElem sW];simp only[madeCells,Array.getElem_map,Array.getElem_range,Option.getD_some]
    have s8:(i' *sz tn+j) % z'.cells.size=j:=by
     rw[W3,Nat.add_comm,Nat.mul_comm,Nat.add_mul_mod_self_left,Nat.mod_eq_of_lt hj]
    rw[s8,getElem!_pos z'.cells j sW]
   rw[jY,List.getElem_replicate];have hs:=ZD tn LX;have v3:=hs.get j (by simpa using sW) (by rw[fC];exact hj);rw[nN _ _ _ (by rw[fC];exact hj)];refine KV _ _ (VR.sub v3 ?_);rw[List.getElem_map,Array.getD_eq_getD_getElem?,Array.getElem?_eq_getElem sW];simpa using mU z'.cells[j]
 ·exact .ow i ⟨w.heap.size,n.toNat,n.toNat,false⟩ (EA _ _ _) (Nat.le_refl _) hnm rfl
def zjW(hC:iE C)(src d:TypeId)(x:Operand)(ho:o.op= .convert src d x)(hi:ρ i=none)(hk:UA C i o st some=some st'):RB C.P o a w (JB C w0 outer own i ρ st'):=by
 simp only[UA,ho]at hk;have hx:=hr.opd x
 have TV:∀v w',(convert src d (a.eval x)).run C.P w= .ok v w'→(execOp a.eval o).run C.P w= .ok (.value v) w':=λv w' h1=>by
  simp[execOp,ho,h1]
 split at hk
 ·rename_i k0 k k1 n h1 h2 h3;rw[h3]at hx;generalize hv:a.eval x=v at hx TV;cases hx;refine vB (TV (.int k (k.wrap n)) w ?_) (hr.after (.int _ _ (EM _ _)) hk);simp[convert,run_underlying h1,run_underlying h2,Conv.intToInt]
 ·rename_i e s h1 h2 h3;split at hk
  case h_2=>cases hk
  rename_i h4 h5;rw[h3]at hx;cases pW:Nat.ble s.length bA
  case false=>simp[pW]at hk
  simp only[pW,cond_true]at hk;have pW:=Nat.le_of_ble_eq_true pW;generalize hv:a.eval x=v at hx TV;cases hx with
  | str _ hs=>
  obtain⟨info,z,eY,hi2,V3,J1,W3⟩:=hC.ok e .byte h4;have IV:=run_bytes_of_string (P:=C.P) w src d e ⟨s.toArray⟩ h1 h2 h5;have hss:(ByteArray.mk s.toArray).size=s.length:=by simp[ByteArray.size]
  rw[hss]at IV;have AX:=grownCap_ge w s.length 0 e;have C3:grownCap w s.length 0 e≤maxLen:=grownCap_le_maxLen w s.length 0 e hs;generalize WY:grownCap w s.length 0 e=cap at IV AX C3;have Q1:(bytesRow ⟨s.toArray⟩ cap).size=cap:=by simp[bytesRow,hss];omega
  refine vB (TV _ _ IV) (hr.newRow hi ⟨w.heap.size,s.length,cap,false⟩ (λ_=>rfl) _ (Wx.trans (ze8 w) (sP _ _))
   (λb hb=>iO w.drew _ b hb) (λ_=>by simp) (c:= .arr .byte s) (λbad KV=>?_) (λbad=>?_) hk)
  ·have SV:∀j,j<cap→(w.drew.alloc (.cells (bytesRow ⟨s.toArray⟩ cap) e ((bytesRow ⟨s.toArray⟩ cap).size,(bytesRow ⟨s.toArray⟩ cap).size+1))).cell? (wA w.heap.size j)=(bytesRow ⟨s.toArray⟩ cap)[j]?:=λj hj=>by
    have hh:(w.drew.alloc (.cells (bytesRow ⟨s.toArray⟩ cap) e ((bytesRow ⟨s.toArray⟩ cap).size,(bytesRow ⟨s.toArray⟩ cap).size+1))).heap[w.heap.size]?=some (.cells (bytesRow ⟨s.toArray⟩ cap) e ((bytesRow ⟨s.toArray⟩ cap).size,(bytesRow ⟨s.toArray⟩ cap).size+1)):=by
     show(w.heap.push _)[w.heap.size]?=_
     simp
    unfold World.cell? wA;rw[hh];rfl
   refine⟨rfl, .inr ⟨rfl,⟨_,e,_,by show(w.heap.push _)[w.heap.size]?=_;rw[Array.getElem?_push_size],hC.tys e .byte h4⟩,AX,C3,λj hj=>?_,λi' dW j hj=>?_⟩⟩
   ·have IW:j<cap:=by simpa[sz]using hj
    refine⟨?_,?_⟩
    ·have:=World.frozen?_alloc_mark w.drew (bytesRow ⟨s.toArray⟩ cap) e (bytesRow ⟨s.toArray⟩ cap).size ((bytesRow ⟨s.toArray⟩ cap).size+1) j;rw[World.size_drew]at this;show World.frozen? _ ⟨w.heap.size,j,none⟩=false
     rw[this,Q1];simp;omega
    ·rw[SV j IW,Array.getElem?_eq_getElem (by omega)];rfl
   ·have d4:j=0:=by simp[sz]at hj;exact hj
    subst d4;have U3:i'<s.length:=dW;refine⟨.int .u8 (s[i'].toNat:Int),?_,?_⟩
    ·simp only[sz,Nat.mul_one,Nat.add_zero];rw[SV i' (by omega),bytesRow_at _ _ _ (by simpa using U3)];simp
    ·have:=s[i'].toNat_lt;exact .int _ _ ⟨by simp[IntKind.min,IntKind.signed],by simp[IntKind.max,IntKind.signed,IntKind.bits];omega⟩
  ·exact .ow i ⟨w.heap.size,s.length,cap,false⟩ (EA _ _ _) AX C3 rfl
 ·rename_i e h1 h2;split at hk
  case h_2=>cases hk
  rename_i l h5 h4;cases pW:Nat.ble l.length bA
  case false=>simp[pW]at hk
  simp only[pW,cond_true]at hk;have pW:=Nat.le_of_ble_eq_true pW;obtain⟨ao,cap,hv,aZ⟩:=zeF hr hx h4;refine vB (TV (.string ⟨l.toArray⟩) w ?_) (hr.after (.str l (by unfold bA at pW;unfold maxLen;omega)) hk);rw[hv]
  have empty:∀(ao:Option Addr) (c:Nat),(convert src d (.slice ao 0 c)).run C.P w= .ok (.string ⟨#[]⟩) w:=λao c=>by
   cases ao with
   | none=>exact run_convert_bytes_nil w src e h1 h5 0 c d h2
   | some ad=>exact run_convert_bytes_back w src d e ad c [] h1 h5 h2 (λj hj=>by simp at hj)
  rcases aZ with rfl | ⟨b,off,rfl,hc⟩
  ·exact empty ao cap
  ·refine run_convert_bytes_back w src d e (wA b off) cap l h1 h5 h2 λj hj=>?_;obtain⟨u,c1,c2⟩:=hc j hj 0 (by simp[sz]);simp only[sz,Nat.mul_one,Nat.add_zero]at c1;rw[BE,c1];have:(enc .byte l[j]).getD 0 .undef= .int .u8 (l[j].toNat:Int):=rfl;rw[this]at c2;cases c2;rfl
 ·rename_i e0 e r h1 h2 h3;split at hk
  case h_2=>cases hk
  rename_i y l t8 h5 h4;have t8:=Nat.eq_of_beq_eq_true t8;subst t8;have he:e0=e:=by rw[h1]at h2;cases h2;rfl
  subst he;rw[h3]at hx;obtain⟨ri,hρ,QV,Z0⟩:=hr.heap.rows r _ h4;obtain⟨LV,aZ⟩:=QV;generalize hv:a.eval x=v at hx TV;cases hx with
  | owN _ ri' ao bZ hn YV=>
   rw[hρ]at bZ;cases bZ;rw[hn]at LV;simp at LV
  | ow _ ri' bZ hn hc YV=>
  rw[hρ]at bZ;cases bZ
  rcases aZ with⟨m4,_⟩ | ⟨_,ce,_,_,gX,iX⟩
  ·rw[YV]at m4;cases m4
  have K0:0<ri.cap *sz .byte:=by
   have:0<ri.n:=by rw[LV];simp
   simp[sz];omega
  obtain⟨c,elem,lo,dW,UZ⟩:∃c elem lo dW,w.heap[ri.b]?=some (.cells c elem (lo,dW)):=by
   have:=(gX 0 K0).2;unfold World.cell? wA at this;simp only at this;split at this
   ·rename_i c elem fr hb;exact⟨c,elem,fr.1,fr.2,hb⟩
   ·cases this
  have CW:(w.freeze ⟨ri.b,c.size,none⟩ 1).heap=w.heap.modify ri.b fun
    | .cells c' elem (lo,hi)=> .cells c' elem (if lo==hi then(c.size,c.size+1)else(min lo c.size,max hi (c.size+1)))
    | o=>o:=by
   unfold World.freeze;rw[if_neg (by decide)];rfl
  generalize hW:w.freeze ⟨ri.b,c.size,none⟩ 1=W at CW
  have R1:∀b,b≠ri.b→W.heap[b]?=w.heap[b]?:=λb hb=>by
   rw[CW,Array.getElem?_modify,if_neg (Ne.symm hb)]
  have SV:∀j,W.cell? (wA ri.b j)=w.cell? (wA ri.b j):=λj=>by
   unfold World.cell? wA;simp only[CW,Array.getElem?_modify,UZ,if_true,Option.map_some]
  have ceW:dE W ri.b .byte:=by
   obtain⟨c',e',z',k1,k2⟩:=ce;rw[UZ]at k1;cases k1;exact⟨c,elem,_,by rw[CW,Array.getElem?_modify,if_pos rfl,UZ];rfl,k2⟩
  have IV:(convert src src (.slice (some (wA ri.b 0)) ri.n ri.cap)).run C.P w= .ok (.slice (some (wA ri.b 0)) ri.n ri.cap) W:=by
   have v8:w.shape? ri.b=some (elem,c.size):=by simp[World.shape?,UZ]
   simp[convert,run_underlying h1,run_underlying h5,markStringish,wA,v8];exact hW
  have pY:Wx w W:=by
   rw[←hW];unfold World.freeze;rw[if_neg (by decide)];exact⟨rfl,rfl,rfl,by simp⟩
  have uW:=hr.heap.write h4 hρ YV W pY (by rw[CW];simp) R1 (.box []) (λ_=>⟨YV,λj hj=>by simp at hj⟩)
  have UV:=uW.1.less (h':=sA st.h r none) (λq row' hq=>by
   by_cases XV:q=r
   ·subst XV;rw[EA]at hq;cases hq
   ·rw[tA _ _ _ _ XV]at hq;exact⟨row',by rw[tA _ _ _ _ XV];exact hq,rfl,λh=>h⟩)
  have kY:=hr.turn UV.1 (λu d hu=>UV.2 _ _ (uW.2 u d hu))
  have Z6:¬jA outer ρ (sA st.h r none) ri.b:=by
   rintro(hb | ⟨q,row,qi,q1,q2,q3,q4,q5⟩)
   ·exact(Z0 YV).1.1 hb
   ·by_cases XV:q=r
    ·subst XV;rw[EA]at q1;cases q1
    ·rw[tA _ _ _ _ XV]at q1;exact XV (hr.heap.inj q r row _ qi ri q1 h4 q3 hρ q4 YV q5)
  refine vB (TV _ _ IV) (kY.after ?_ hk);have S1:ri.n=(y :: l).length:=LV;rw[S1];rw[S1]at hn;refine .slC .byte (y :: l) ri.b 0 ri.cap (λi _=> .int .u8 ((((y :: l).getD i 0:UInt8).toNat:Nat):Int)) Z6 hn hc (λ_=> .inr ceW) (λi hi j hj=>?_) (λi hi j hj=>?_)
  ·have d4:j=0:=by simp[sz]at hj;exact hj
   subst d4;obtain⟨u,c1,c2⟩:=iX i hi 0 (by simp[sz]);rw[SV];simp only[Nat.zero_add];rw[c1];have e2:(enc .byte (y :: l)[i]).getD 0 .undef= .int .u8 ((y :: l)[i].toNat:Int):=rfl;rw[e2]at c2;cases c2;have e3:(y :: l).getD i (0:UInt8)=(y :: l)[i]:=by rw[List.getD_eq_getElem?_getD,List.getElem?_eq_getElem hi];rfl
   rw[e3]
  ·have d4:j=0:=by simp[sz]at hj;exact hj
   subst d4;have e3:(y :: l).getD i (0:UInt8)=(y :: l)[i]:=by rw[List.getD_eq_getElem?_getD,List.getElem?_eq_getElem hi];rfl
   rw[e3];have:=UInt8.toNat_lt (y :: l)[i];show VR _ _ _ _ (.int .u8 ((((y :: l)[i]:UInt8).toNat:Nat):Int))
   exact .int _ _ ⟨by simp[IntKind.min,IntKind.signed],by simp[IntKind.max,IntKind.signed,IntKind.bits];omega⟩
 ·cases hk
end
end Go.D
namespace Go.D
variable [fA]
section
variable {C:Cx} {w0:World} {outer own:Nat→Prop} {ρ:Nat→Option RI} {st st':St} {a:Act} {w:World} {h:Nat→Option kA}
def Out(base N r:Nat):Prop:=¬(base≤r∧r<base+N)
omit [fA]in
def AB(ow:List Nat)(base:Nat)(h:Nat→Option kA):∀(es:List V) (p r:Nat),PA ow base h p es r=match PA ow base (λ_=>none) p es r with | some x=>some x | none=>h r
 | [],p,r=>rfl
 | e :: es,p,r=>by
  have ih:=AB ow base h es (p+1) r;cases e<;>simp only[PA]<;>try exact ih
  cases hb:ow.any (Nat.beq p)
  ·simpa using ih
  ·simp only[cond_true]
   by_cases hr:r=base+p
   ·subst hr;simp[EA]
   ·simp only[tA _ _ _ _ hr];exact ih
omit [fA]in
def EC(ow:List Nat)(base:Nat):∀(es:List V) (p r:Nat),(r<base+p∨base+p+es.length≤r)→PA ow base (λ_=>none) p es r=none
 | [],p,r,_=>rfl
 | e :: es,p,r,hr=>by
  have ih:=EC ow base es (p+1) r (by simp at hr;omega);cases e<;>simp only[PA]<;>try exact ih
  cases hb:ow.any (Nat.beq p)
  ·simpa using ih
  ·simp only[cond_true];rw[tA _ _ _ _ (by simp at hr;omega)];exact ih
omit [fA]in
def UD(ow:List Nat)(base:Nat):∀(es:List V) (p:Nat),(HA ow base p es).length=es.length
 | [],p=>rfl
 | e :: es,p=>by cases e<;>simp[HA,UD ow base es (p+1)]
def tF(h g:Nat→Option kA):Prop:=∀r row,h r=some row→g r=some row
omit [fA]in
def zab{c:V}{h g:Nat→Option kA}{x:V×List Nat}(hg:tF h g)(hf:ME h c=some x):ME g c=some x∧∀r∈x.2,∃row,h r=some row:=by
 unfold ME at hf;split at hf
 ·rename_i r;split at hf
  ·rename_i t l m hr;refine⟨by simp only[ME,hg _ _ hr];exact hf,?_⟩;cases hm:m.isLock<;>simp[hm]at hf
   subst hf;intro q hq;simp at hq;subst hq;exact⟨_,hr⟩
  ·cases hf
 ·rename_i r t off len;split at hf
  ·rename_i t' l m hr;refine⟨by simp only[ME,hg _ _ hr];exact hf,?_⟩;cases hm:m.isLock
   ·simp only[hm,cond_false]at hf;split at hf
    ·simp at hf;subst hf;intro q hq;simp at hq;subst hq;exact⟨_,hr⟩
    ·cases hf
   ·simp[hm]at hf
  ·cases hf
 ·cases hb:CE 8 c<;>simp[hb]at hf
  subst hf;refine⟨?_,by simp⟩;unfold ME;split
  ·simp[CE]at hb
  ·simp[CE]at hb
  ·simp[hb]
omit [fA]in
def zae{h g:Nat→Option kA}(hg:tF h g):∀{cs:List V} {x:List V×List Nat},pE h cs=some x→pE g cs=some x∧∀r∈x.2,∃row,h r=some row
 | [],x,hf=>by simp[pE]at hf;subst hf;simp[pE]
 | c :: cs,x,hf=>by
  simp only[pE]at hf;split at hf
  ·cases hf
  rename_i c' i h1;split at hf
  ·cases hf
  rename_i cs' j h2;cases hf;obtain⟨k1,k2⟩:=zab hg h1;obtain⟨k3,k4⟩:=zae hg h2;refine⟨by simp[pE,k1,k3],λr hr=>?_⟩
  rcases List.mem_append.1 hr with hr | hr
  ·exact k2 r hr
  ·exact k4 r hr
omit [fA]in
def zeA{c:V}{h g:Nat→Option kA}{x:V×List Nat}(hg:tF h g)(hf:zF h c=some x):zF g c=some x∧∀r∈x.2,∃row,h r=some row:=by
 unfold zF at hf;split at hf
 ·split at hf
  ·rename_i cs cs' i h1;cases hf;obtain⟨k1,k2⟩:=zae hg h1;exact⟨by simp[zF,k1],k2⟩
  ·cases hf
 ·rename_i r off;split at hf
  ·rename_i cs m hr;cases hb:(m.isLock||cs.isEmpty)
   case true=>simp[hb]at hf
   simp only[hb,cond_false]at hf;split at hf
   ·rename_i cs' i h1;cases hf;obtain⟨k1,k2⟩:=zae hg h1;refine⟨by simp[zF,hg _ _ hr,hb,k1],λq hq=>?_⟩
    rcases List.mem_cons.1 hq with rfl | hq
    ·exact⟨_,hr⟩
    ·exact k2 q hq
   ·cases hf
  ·cases hf
 ·rename_i h1 h2;obtain⟨k1,k2⟩:=zab hg hf;refine⟨?_,k2⟩;unfold zF;split
  ·exact absurd rfl (h1 _)
  ·exact absurd rfl (h2 _ _)
  ·exact k1
omit [fA]in
def zaK{h g:Nat→Option kA}(hg:tF h g)(ids:List Nat):tF (FB h ids) (FB g ids):=by
 intro r row hr;rw[SD]at hr⊢
 by_cases hm:r∈ids
 ·simp only[hm,if_true,Option.map_eq_some_iff]at hr⊢;obtain⟨row',h1,rfl⟩:=hr;exact⟨row',hg _ _ h1,rfl⟩
 ·simp only[hm,if_false]at hr⊢;exact hg _ _ hr
def zaH{bad bad':Nat→Prop}{ri:RI}{ρ':Nat→Option RI}{t:TN}{l:List (El t)}(hr:KC w ρ bad ri (.arr t l))
  (hv:∀u d,VR w ρ bad u d→VR w ρ' bad' u d):KC w ρ' bad' ri (.arr t l):=hr.keep (λ_=>rfl) hv
def VA.rename(hh:VA w0 outer own ρ h w){r i:Nat}{t:TN}{l:List (El t)}{ri:RI}(hr:h r=some ⟨.arr t l, .own⟩)(hρ:ρ r=some ri)(hi:ρ i=none):
  VA w0 outer own (sA ρ i (some ri)) (sA (sA h r none) i (some ⟨.arr t l, .own⟩)) w∧
   ∀u d,VR w ρ (jA outer ρ h) u d→VR w (sA ρ i (some ri)) (jA outer (sA ρ i (some ri)) (sA (sA h r none) i (some ⟨.arr t l, .own⟩))) u d:=by
 obtain⟨ri',h1,h2,h3⟩:=hh.rows r _ hr;rw[hρ]at h1;cases h1;cases hn:ri.nl
 ·exact hh.move hr hρ hn hi rfl hn w (Wx.refl _) rfl (λ_ _=>rfl) _ λbad hv=>zaH h2 hv
 ·obtain⟨k1,k2⟩:=hh.less (h':=sA h r none) (λq row' hq=>by
   by_cases XV:q=r
   ·subst XV;rw[EA]at hq;cases hq
   ·rw[tA _ _ _ _ XV]at hq;exact⟨row',hq,rfl,id⟩)
  obtain⟨k3,k4⟩:=k1.alloc i hi ri (λh=>by rw[hn]at h;cases h) w (Wx.refl _) (λ_ _=>rfl) (λh=>by rw[hn]at h;cases h) (.arr t l)
   λhv=>zaH (zaH h2 k2) hv
  exact⟨k3,λu d hu=>k4 _ _ (k2 _ _ hu)⟩
def VA.empty(hh:VA w0 outer own ρ h w){i:Nat}(t:TN)(hi:ρ i=none):
  VA w0 outer own (sA ρ i (some ⟨0,0,0,true⟩)) (sA h i (some ⟨.arr t [], .own⟩)) w∧
   ∀u d,VR w ρ (jA outer ρ h) u d→VR w (sA ρ i (some ⟨0,0,0,true⟩)) (jA outer (sA ρ i (some ⟨0,0,0,true⟩)) (sA h i (some ⟨.arr t [], .own⟩))) u d:=
 hh.alloc i hi ⟨0,0,0,true⟩ (λh=>by cases h) w (Wx.refl _) (λ_ _=>rfl) (λh=>by cases h) (.arr t []) λ_=>⟨rfl, .inl ⟨rfl,rfl⟩⟩
def VA.cut(hh:VA w0 outer own ρ h w){r i len:Nat}{t:TN}{l:List (El t)}{v:Value}(hr:h r=some ⟨.arr t l, .own⟩)(hi:ρ i=none)(hv:VR w ρ (jA outer ρ h) v (.ov r t 0 len)):
  ∃ri',VA w0 outer own (sA ρ i (some ri')) (sA (sA h r none) i (some ⟨.arr t (l.take len), .own⟩)) w∧
   (∀u d,VR w ρ (jA outer ρ h) u d→VR w (sA ρ i (some ri')) (jA outer (sA ρ i (some ri')) (sA (sA h r none) i (some ⟨.arr t (l.take len), .own⟩))) u d)∧
   VR w (sA ρ i (some ri')) (jA outer (sA ρ i (some ri')) (sA (sA h r none) i (some ⟨.arr t (l.take len), .own⟩))) v (.ow i):=by
 obtain⟨ri,hρq,QV,_⟩:=hh.rows r _ hr;have YX:ri.n=l.length:=QV.1;obtain⟨ao,cap,h1,h2,h3,h4,h5⟩:=hv.ov_inv hρq
 rcases h3 with⟨rfl,rfl⟩ | ⟨rfl,YV,hc⟩
 ·obtain⟨k1,k2⟩:=hh.less (h':=sA h r none) (λq row' hq=>by
   by_cases XV:q=r
   ·subst XV;rw[EA]at hq;cases hq
   ·rw[tA _ _ _ _ XV]at hq;exact⟨row',hq,rfl,id⟩)
  obtain⟨n1,n2⟩:=k1.empty t hi;rw[List.take_zero];exact⟨⟨0,0,0,true⟩,n1,λu d hu=>n2 _ _ (k2 _ _ hu),by rw[h1];exact .owN _ ⟨0,0,0,true⟩ ao (EA _ _ _) rfl rfl⟩
 ·rw[Nat.zero_mul]at h1
  rcases QV.2 with h6 | ⟨_,ce,c1,c2,c3,c4⟩
  ·rw[YV]at h6;cases h6.1
  obtain⟨n1,n2⟩:=hh.move hr hρq YV hi (ri':=⟨ri.b,len,cap,false⟩) rfl rfl w (Wx.refl _) rfl (λ_ _=>rfl) (.arr t (l.take len)) λbad KV=>by
   refine⟨by simp;omega, .inr ⟨rfl,ce,h4,h5,λj hj=>c3 j ?_,λi hi j hj=>?_⟩⟩
   ·have:cap *sz t≤ri.cap *sz t:=Nat.mul_le_mul_right _ (by omega);have hj:j<cap *sz t:=hj;omega
   ·obtain⟨u,f1,f2⟩:=c4 i (by simp at hi;omega) j hj;refine⟨u,f1,?_⟩;rw[List.getElem_take];exact KV _ _ f2
  exact⟨_,n1,n2,by rw[h1];exact .ow _ ⟨ri.b,len,cap,false⟩ (EA _ _ _) h4 h5 rfl⟩
structure zfE(w0:World)(outer own:Nat→Prop)(w:World)(ow:List Nat)(base N p:Nat)(ρ:Nat→Option RI)(g h h':Nat→Option kA)(es:List V)(u:Nat→Value)
  (ρ':Nat→Option RI) (g':Nat→Option kA):Prop where
 heap:VA w0 outer own ρ' g' w
 lies:tF h' g'
 out:∀r,Out base N r→ρ' r=ρ r∧(h r=none→g' r=g r)
 less:∀r,h r=none→h' r=none
 before:∀q,q<p→g' (base+q)=g (base+q)∧ρ' (base+q)=ρ (base+q)
 new:∀q,p≤q→q<N→g' (base+q)=PA ow base (λ_=>none) p es (base+q)
 ext:∀r ri,ρ r=some ri→ρ' r=some ri
 keep:∀v d,VR w ρ (jA outer ρ g) v d→VR w ρ' (jA outer ρ' g') v d
 vals:∀j (hj:j<(HA ow base p es).length),VR w ρ' (jA outer ρ' g') (u j) (HA ow base p es)[j]
 closed:∀j (hj:j<es.length),cC es[j]∧(es[j]).leaf=true
omit [fA]in
def mB.closed1{c e:V}(hs:WF c e)(h:cC c∧c.leaf=true):cC e∧e.leaf=true:=by
 cases hs with
 | refl=>exact h
 | byte n=>exact⟨λ_=> .int _ _,rfl⟩
 | nil t=>exact⟨LI _ _,rfl⟩
def bP(ow:List Nat)(base N:Nat):∀(cs:List V) (p:Nat) (h h':Nat→Option kA) (cs' es:List V) (ρ:Nat→Option RI) (g:Nat→Option kA) (u:Nat→Value),
  DC ow p cs h=some (cs',h')→mB cs' es→p+cs.length≤N→VA w0 outer own ρ g w→
  (∀j (hj:j<cs.length),VR w ρ (jA outer ρ g) (u j) cs[j])→tF h g→(∀q,q<N→h (base+q)=none)→
  (∀q,p≤q→q<N→ρ (base+q)=none)→∃ρ' g',zfE w0 outer own w ow base N p ρ g h h' es u ρ' g'∧es.length=cs.length
 | [],p,h,h',cs',es,ρ,g,u,ht,hs,hN,hh,hv,hg,qW,hf=>by
  simp only[DC,Option.some.injEq,Prod.mk.injEq]at ht;obtain⟨rfl,rfl⟩:=ht;cases hs;refine⟨ρ,g,⟨hh,hg,λr hr=>⟨rfl,λ_=>rfl⟩,λ_ h=>h,λq hq=>⟨rfl,rfl⟩,λq h1 h2=>?_,λ_ _ h=>h,λ_ _ h=>h,λj hj=>by simp[HA]at hj,λj hj=>by simp at hj⟩,rfl⟩;cases D3:g (base+q)with
  | none=>rfl
  | some row=>obtain⟨ri,h3,_⟩:=hh.rows _ _ D3;rw[hf q h1 h2]at h3;cases h3
 | c :: cs,p,h,h',cs',es,ρ,g,u,ht,hs,hN,hh,hv,hg,qW,hf=>by
  simp only[List.length_cons]at hN;have lW:¬Out base N (base+p):=λho=>ho ⟨by omega,by omega⟩
  have cZ:∀r row,h r=some row→Out base N r:=λr row hr=>by
   rintro⟨h1,h2⟩;have:=qW (r - base) (by omega);rw[show base+(r - base)=r by omega,hr]at this;cases this
  -- behind a step
  have go:∀(ρ1:Nat→Option RI) (g1 h1:Nat→Option kA) (cs1 es1:List V) (e:V),DC ow (p+1) cs h1=some (cs1,h')→mB cs1 es1→es=e :: es1→VA w0 outer own ρ1 g1 w→
    (∀v d,VR w ρ (jA outer ρ g) v d→VR w ρ1 (jA outer ρ1 g1) v d)→tF h1 g1→(∀r,Out base N r→ρ1 r=ρ r∧(h r=none→g1 r=g r))→(∀r,h r=none→h1 r=none)→(∀q,q<p→g1 (base+q)=g (base+q)∧ρ1 (base+q)=ρ (base+q))→
    (∀q,p+1≤q→q<N→ρ1 (base+q)=ρ (base+q))→(∀r ri,ρ r=some ri→ρ1 r=some ri)→(cC e∧e.leaf=true)→
    (∀ (ρ':Nat→Option RI) (g':Nat→Option kA),(∀ v d,VR w ρ1 (jA outer ρ1 g1) v d→VR w ρ' (jA outer ρ' g') v d)→
     ∃(hl:0<(HA ow base p (e :: es1)).length),VR w ρ' (jA outer ρ' g') (u 0) (HA ow base p (e :: es1))[0])→
    PA ow base (λ_=>none) p (e :: es1) (base+p)=g1 (base+p)→(∀q,q≠p→PA ow base (λ_=>none) p (e :: es1) (base+q)=PA ow base (λ_=>none) (p+1) es1 (base+q))→
    (∀j (hj:j<(HA ow base (p+1) es1).length),∃(hl:j+1<(HA ow base p (e :: es1)).length),(HA ow base p (e :: es1))[j+1]=(HA ow base (p+1) es1)[j])→
    ∃ρ' g',zfE w0 outer own w ow base N p ρ g h h' es u ρ' g'∧es.length=(c :: cs).length:=by
   rintro ρ1 g1 h1 cs1 es1 e IZ bX rfl E0 A3 D0 ho1 lY N1 hf1 n4 he PW GZ YX w8
   obtain⟨ρ',g',T,LV⟩:=bP ow base N cs (p+1) h1 h' cs1 es1 ρ1 g1 (λj=>u (j+1)) IZ bX (by omega) E0
    (λj hj=>A3 _ _ (hv (j+1) (by simp;omega))) D0 (λq hq=>lY _ (qW q hq))
    (λq h1 h2=>by rw[hf1 q h1 h2];exact hf q (by omega) h2)
   refine⟨ρ',g',⟨T.heap,T.lies,λr hr=>⟨(T.out r hr).1.trans (ho1 r hr).1,λhn=>((T.out r hr).2 (lY r hn)).trans ((ho1 r hr).2 hn)⟩,λr hr=>T.less r (lY r hr),λq hq=>?_,λq h1 h2=>?_,λr ri hr=>T.ext _ _ (n4 r ri hr),λv d hd=>T.keep _ _ (A3 _ _ hd),λj hj=>?_,λj hj=>?_⟩,by simp[LV]⟩
   ·obtain⟨b1,b2⟩:=T.before q (by omega);exact⟨b1.trans (N1 q hq).1,b2.trans (N1 q hq).2⟩
   ·by_cases hq:q=p
    ·subst hq;rw[(T.before q (by omega)).1];exact GZ.symm
    ·rw[T.new q (by omega) h2,YX q hq]
   ·cases j with
    | zero=>exact(PW ρ' g' T.keep).2
    | succ j=>
     have IW:j<(HA ow base (p+1) es1).length:=by
      rw[UD]at hj⊢;simpa using hj
     obtain⟨_,h2⟩:=w8 j IW;rw[h2];exact T.vals j IW
   ·cases j with
    | zero=>exact he
    | succ j=>exact T.closed j (by simpa using hj)
  simp only[DC]at ht;have T1:ρ (base+p)=none:=hf p (Nat.le_refl _) (by omega)
  have hgp:g (base+p)=none:=by
   cases D3:g (base+p)with
   | none=>rfl
   | some row=>obtain⟨ri,h3,_⟩:=hh.rows _ _ D3;rw[T1]at h3;cases h3
  have HY:=hv 0 (by simp);simp only[List.getElem_cons_zero]at HY;cases hb:ow.any (Nat.beq p)
  ·simp only[hb,cond_false]at ht;split at ht
   case h_2=>cases ht
   rename_i c' ids qY;split at ht
   case h_2=>cases ht
   rename_i cs1 h1 IZ;simp only[Option.some.injEq,Prod.mk.injEq]at ht;obtain⟨rfl,rfl⟩:=ht;cases hs with
   | cons KX bX=>
   rename_i e es1;obtain⟨z8,fY⟩:=zab hg qY;simp only at fY;obtain⟨k1,k2⟩:=hh.mark ids;have k3:=zau hh HY z8;have JZ:∀r,h r=none→r∉ids:=λr hn hm=>by obtain⟨row,h5⟩:=fY r hm;rw[hn]at h5;cases h5
   have he:=mB.closed1 KX k3.2;have hl:HA ow base p (e :: es1)=e :: HA ow base (p+1) es1:=by cases e<;>simp[HA,hb]
   have o4:∀q,PA ow base (λ_=>none) p (e :: es1) q=PA ow base (λ_=>none) (p+1) es1 q:=λq=>by cases e<;>simp[PA,hb]
   refine go ρ (FB g ids) (FB h ids) cs1 es1 e IZ bX rfl k1 k2 (zaK hg ids) (λr hr=>⟨rfl,λhn=>?_⟩) (λr hn=>?_) (λq hq=>⟨?_,rfl⟩) (λ_ _ _=>rfl) (λ_ _ h=>h) he (λρ' g' hk=>?_) ?_ (λq hq=>o4 _) (λj hj=>?_)
   ·rw[SD,if_neg (JZ r hn)]
   ·rw[SD,if_neg (JZ r hn)];exact hn
   ·rw[SD,if_neg (JZ _ (qW q (by omega)))]
   ·simp only[hl];exact⟨by simp,(VR.sub KX (hk _ _ k3.1))⟩
   ·rw[o4,EC _ _ _ _ _ (by omega),SD,if_neg (JZ _ (qW p (by omega))),hgp]
   ·simp only[hl];exact⟨by simpa using hj,by simp⟩
  ·simp only[hb,cond_true]at ht;split at ht
   ·rename_i r;split at ht
    case h_2=>cases ht
    rename_i t l JV;split at ht
    case h_2=>cases ht
    rename_i cs1 h1 IZ;simp only[Option.some.injEq,Prod.mk.injEq]at ht;obtain⟨rfl,rfl⟩:=ht;cases hs with
    | cons KX bX=>
    rename_i e es1;cases KX;have QV:=cZ r _ JV;have b7:g r=some ⟨.arr t l, .own⟩:=hg _ _ JV;obtain⟨ri,hρr,_,_⟩:=hh.rows r _ b7;obtain⟨k1,k2⟩:=hh.rename b7 hρr T1;have A8:r≠base+p:=by rintro rfl;exact lW QV
    have hl:HA ow base p (.sl t l :: es1)= .ow (base+p) :: HA ow base (p+1) es1:=by simp[HA,hb]
    refine go _ _ (sA h r none) cs1 es1 (.sl t l) IZ bX rfl k1 k2 (λq row hq=>?_) (λq hq=>⟨tA _ _ _ _ ?_,λhn=>?_⟩) (λq hn=>?_) (λq hq=>⟨?_,tA _ _ _ _ (by omega)⟩) (λq h1 _=>tA _ _ _ _ (by omega))
     (λq qi hq=>by rw[tA];exact hq;rintro rfl;rw[T1]at hq;cases hq) ⟨LI _ _,rfl⟩ (λρ' g' hk=>?_) ?_ (λq hq=>?_) (λj hj=>?_)
    ·by_cases XV:q=r
     ·subst XV;rw[EA]at hq;cases hq
     ·rw[tA _ _ _ _ XV]at hq;have:q≠base+p:=by rintro rfl;exact lW (cZ _ _ hq)
      rw[tA _ _ _ _ this,tA _ _ _ _ XV];exact hg _ _ hq
    ·rintro rfl;exact lW hq
    ·have s4:q≠base+p:=by rintro rfl;exact lW hq
     have XV:q≠r:=by rintro rfl;rw[JV]at hn;cases hn
     rw[tA _ _ _ _ s4,tA _ _ _ _ XV]
    ·by_cases XV:q=r
     ·subst XV;exact EA _ _ _
     ·rw[tA _ _ _ _ XV];exact hn
    ·rw[tA _ _ _ _ (by omega),tA];rintro rfl;exact QV ⟨by omega,by omega⟩
    ·simp only[hl];refine⟨by simp,?_⟩
     have:VR w (sA ρ (base+p) (some ri)) (jA outer (sA ρ (base+p) (some ri)) (sA (sA g r none) (base+p) (some ⟨.arr t l, .own⟩))) (u 0) (.ow (base+p)):=by
      rcases HY.ow_inv hρr with⟨e1,e2,e3,e4⟩ | ⟨ao,e1,e2,e3⟩
      ·rw[e1];exact .ow _ ri (EA _ _ _) e3 e4 e2
      ·rw[e1];exact .owN _ ri ao (EA _ _ _) e3 e2
     exact hk _ _ this
    ·simp only[PA,hb,cond_true,EA]
    ·simp only[PA,hb,cond_true];rw[tA _ _ _ _ (by omega)]
    ·simp only[hl];exact⟨by simpa using hj,by simp⟩
   ·split at ht
    case h_2=>cases ht
    rename_i cs1 h1 IZ;simp only[Option.some.injEq,Prod.mk.injEq]at ht;obtain⟨rfl,rfl⟩:=ht;have TY:u 0= .slice none 0 0:=by generalize u 0=x at HY;cases HY;rfl
    cases hs with
    | cons KX bX=>
    rename_i e es1;cases KX with
    | refl=>
     have hl:HA ow base p (.nil :: es1)= .nil :: HA ow base (p+1) es1:=by simp[HA]
     have o4:∀q,PA ow base (λ_=>none) p (.nil :: es1) q=PA ow base (λ_=>none) (p+1) es1 q:=λq=>by simp[PA]
     refine go ρ g h cs1 es1 .nil IZ bX rfl hh (λ_ _ h=>h) hg (λr hr=>⟨rfl,λ_=>rfl⟩) (λ_ h=>h) (λq hq=>⟨rfl,rfl⟩) (λ_ _ _=>rfl) (λ_ _ h=>h) ⟨λ_=> .nil,rfl⟩ (λρ' g' hk=>?_) ?_ (λq hq=>o4 _) (λj hj=>?_)
     ·simp only[hl];exact⟨by simp,by rw[TY];exact .nil⟩
     ·rw[o4,EC _ _ _ _ _ (by omega),hgp]
     ·simp only[hl];exact⟨by simpa using hj,by simp⟩
    | nil t=>
     have hl:HA ow base p (.sl t [] :: es1)= .ow (base+p) :: HA ow base (p+1) es1:=by simp[HA,hb]
     obtain⟨k1,k2⟩:=hh.empty t T1
     refine go _ _ h cs1 es1 (.sl t []) IZ bX rfl k1 k2 (λq row hq=>?_) (λq hq=>⟨tA _ _ _ _ ?_,λhn=>tA _ _ _ _ ?_⟩) (λ_ h=>h) (λq hq=>⟨tA _ _ _ _ (by omega),tA _ _ _ _ (by omega)⟩) (λq h1 _=>tA _ _ _ _ (by omega))
      (λq qi hq=>by rw[tA];exact hq;rintro rfl;rw[T1]at hq;cases hq) ⟨LI _ _,rfl⟩ (λρ' g' hk=>?_) ?_ (λq hq=>?_) (λj hj=>?_)
     ·rw[tA _ _ _ _ (by rintro rfl;exact lW (cZ _ _ hq))];exact hg _ _ hq
     ·rintro rfl;exact lW hq
     ·rintro rfl;exact lW hq
     ·simp only[hl];refine⟨by simp,hk _ _ ?_⟩;rw[TY];exact .owN _ ⟨0,0,0,true⟩ none (EA _ _ _) rfl rfl
     ·simp only[PA,hb,cond_true,EA]
     ·simp only[PA,hb,cond_true];rw[tA _ _ _ _ (by omega)]
     ·simp only[hl];exact⟨by simpa using hj,by simp⟩
   ·rename_i r t0 len;split at ht
    case h_2=>cases ht
    rename_i t l JV;split at ht
    case h_2=>cases ht
    rename_i cs1 h1 hd IZ;have hd:=of_decide_eq_true hd;subst hd;simp only[Option.some.injEq,Prod.mk.injEq]at ht;obtain⟨rfl,rfl⟩:=ht;cases hs with
    | cons KX bX=>
    rename_i e es1;cases KX;have QV:=cZ r _ JV;have b7:g r=some ⟨.arr t l, .own⟩:=hg _ _ JV;obtain⟨ri,k1,k2,k3⟩:=hh.cut b7 T1 HY;have A8:r≠base+p:=by rintro rfl;exact lW QV
    have hl:HA ow base p (.sl t (l.take len) :: es1)= .ow (base+p) :: HA ow base (p+1) es1:=by simp[HA,hb]
    refine go _ _ (sA h r none) cs1 es1 (.sl t (l.take len)) IZ bX rfl k1 k2 (λq row hq=>?_) (λq hq=>⟨tA _ _ _ _ ?_,λhn=>?_⟩) (λq hn=>?_) (λq hq=>⟨?_,tA _ _ _ _ (by omega)⟩) (λq h1 _=>tA _ _ _ _ (by omega))
     (λq qi hq=>by rw[tA];exact hq;rintro rfl;rw[T1]at hq;cases hq) ⟨LI _ _,rfl⟩ (λρ' g' hk=>?_) ?_ (λq hq=>?_) (λj hj=>?_)
    ·by_cases XV:q=r
     ·subst XV;rw[EA]at hq;cases hq
     ·rw[tA _ _ _ _ XV]at hq;have:q≠base+p:=by rintro rfl;exact lW (cZ _ _ hq)
      rw[tA _ _ _ _ this,tA _ _ _ _ XV];exact hg _ _ hq
    ·rintro rfl;exact lW hq
    ·have s4:q≠base+p:=by rintro rfl;exact lW hq
     have XV:q≠r:=by rintro rfl;rw[JV]at hn;cases hn
     rw[tA _ _ _ _ s4,tA _ _ _ _ XV]
    ·by_cases XV:q=r
     ·subst XV;exact EA _ _ _
     ·rw[tA _ _ _ _ XV];exact hn
    ·rw[tA _ _ _ _ (by omega),tA];rintro rfl;exact QV ⟨by omega,by omega⟩
    ·simp only[hl];refine⟨by simp,?_⟩;exact hk _ _ k3
    ·simp only[PA,hb,cond_true,EA]
    ·simp only[PA,hb,cond_true];rw[tA _ _ _ _ (by omega)]
    ·simp only[hl];exact⟨by simpa using hj,by simp⟩
   ·cases ht
def LO{bad bad2:Nat→Prop}{ρ2:Nat→Option RI}(ow:List Nat)(B B2:Nat):∀(es:List V) (p:Nat) (u:Nat→Value),
  (∀q,p≤q→q<p+es.length→ow.any (Nat.beq q)=true→(∃t l,es[q - p]?=some (.sl t l))→ρ2 (B2+q)=ρ (B+q))→(∀j (hj:j<es.length),cC es[j])→(∀b,bad2 b→bad b)→
  (∀j (hj:j<(HA ow B p es).length),VR w ρ bad (u j) (HA ow B p es)[j])→∀j (hj:j<(HA ow B2 p es).length),VR w ρ2 bad2 (u j) (HA ow B2 p es)[j]
 | [],p,u,hρ,hc,hb,hv,j,hj=>by simp[HA]at hj
 | e :: es,p,u,hρ,hc,hb,hv,j,hj=>by
  have split1:∀(B:Nat),∃e',HA ow B p (e :: es)=e' :: HA ow B (p+1) es∧(e'=e∨e'= .ow (B+p))∧((∃t l,e= .sl t l∧ow.any (Nat.beq p)=true)→e'= .ow (B+p))∧
    ((¬∃t l,e= .sl t l∧ow.any (Nat.beq p)=true)→e'=e):=λB=>by
   cases e<;>simp only[HA]<;>try exact⟨_,rfl, .inl rfl,λ⟨_,_,h,_⟩=>(by cases h),λ_=>rfl⟩
   rename_i t l;cases hb:ow.any (Nat.beq p)
   ·exact⟨_,rfl, .inl rfl,λ⟨_,_,_,h⟩=>(by cases h),λ_=>rfl⟩
   ·exact⟨_,rfl, .inr rfl,λ_=>rfl,λh=>absurd ⟨t,l,rfl,rfl⟩ h⟩
  obtain⟨e1,s1,_,s2,s3⟩:=split1 B;obtain⟨e2,t1,_,t2,t3⟩:=split1 B2
  have ih:=LO ow B B2 es (p+1) (λj=>u (j+1)) (λq h1 h2 h3 h4=>hρ q (by omega) (by simp;omega) h3 (by
    obtain⟨t,l,h4⟩:=h4;exact⟨t,l,by rw[show q - p=(q - (p+1))+1 by omega,List.getElem?_cons_succ];exact h4⟩)) (λj hj=>hc (j+1) (by simp;omega)) hb
   (fun j hj=>by
    have:=hv (j+1) (by rw[s1];simp;omega);simpa[s1]using this)
  simp only[t1]at hj⊢;cases j with
  | succ j=>exact ih j (by simpa using hj)
  | zero=>
   have PW:=hv 0 (by rw[s1];simp);simp only[s1,List.getElem_cons_zero]at PW⊢
   by_cases hs:∃t l,e= .sl t l∧ow.any (Nat.beq p)=true
   ·rw[s2 hs]at PW;rw[t2 hs];have hq:=hρ p (Nat.le_refl _) (by simp) (by obtain⟨_,_,_,h⟩:=hs;exact h) (by obtain⟨t,l,h,_⟩:=hs;exact⟨t,l,by simp[h]⟩);generalize u 0=u0 at PW;cases PW with
    | ow _ ri h1 h2 h3 h4=>exact .ow _ ri (by rw[hq];exact h1) h2 h3 h4
    | owN _ ri ao h1 h2 h3=>exact .owN _ ri ao (by rw[hq];exact h1) h2 h3
   ·rw[s3 hs]at PW;rw[t3 hs];exact(PW.noRef (hc 0 (by simp)) ρ2).mono (λ_ _ h=>h) (λ_ _ _=>rfl) λb h=> .inl (hb b h)
def VA.reread(hh:VA w0 outer own ρ h w){r:Nat}{cs es:List V}{m:wF}(hr:h r=some ⟨.box cs,m⟩)(LV:es.length=cs.length)
  (hv:∀ri,ρ r=some ri→∀j (hj:j<es.length),VR w ρ (jA outer ρ h) ((w.cell? (wA ri.b j)).getD undef) es[j]):
  VA w0 outer own ρ (sA h r (some ⟨.box es,m⟩)) w∧∀u d,VR w ρ (jA outer ρ h) u d→VR w ρ (jA outer ρ (sA h r (some ⟨.box es,m⟩))) u d:=by
 have ZV:∀b,jA outer ρ (sA h r (some ⟨.box es,m⟩)) b→jA outer ρ h b:=λb hb=>hb.mono λq row' h1 h2=>by
  by_cases hq:q=r
  ·subst hq;rw[EA]at h1;cases h1;exact⟨_,hr,h2⟩
  ·rw[tA _ _ _ _ hq]at h1;exact⟨row',h1,h2⟩
 have hk:∀u d,VR w ρ (jA outer ρ h) u d→VR w ρ (jA outer ρ (sA h r (some ⟨.box es,m⟩))) u d:=λu d hu=>hu.mono (λ_ _ h=>h) (λ_ _ _=>rfl) λb hb=> .inl (ZV b hb)
 have old:∀q row,sA h r (some ⟨.box es,m⟩) q=some row→∃row',h q=some row'∧(q=r∧row=⟨.box es,m⟩∨row=row'):=λq row hq=>by
  by_cases XV:q=r
  ·subst XV;rw[EA]at hq;cases hq;exact⟨_,hr, .inl ⟨rfl,rfl⟩⟩
  ·rw[tA _ _ _ _ XV]at hq;exact⟨row,hq, .inr rfl⟩
 refine⟨⟨hh.wx,hh.old,hh.outLt,λq row hq=>?_,λq q' row row' qi qi' h1 h2 h3 h4=>?_⟩,hk⟩
 ·obtain⟨row',h1,h2⟩:=old q row hq;obtain⟨ri,h3,h4,h5⟩:=hh.rows q row' h1
  have W7:ri.nl=false→(¬outer ri.b∧(row.m.isRo=false→w0.heap.size≤ri.b∨own ri.b))∧ri.b<w.heap.size:=by
   rcases h2 with⟨rfl,rfl⟩ | rfl
   ·rw[hr]at h1;cases h1;exact h5
   ·exact h5
  refine⟨ri,h3,?_,W7⟩
  rcases h2 with⟨rfl,rfl⟩ | rfl
  ·rw[hr]at h1;cases h1;refine⟨h4.1,λj hj=>?_⟩;obtain⟨f1,u,f2,_⟩:=h4.2 j (by omega);refine⟨f1,u,f2,?_⟩;have:=hv ri h3 j hj;rw[f2]at this;exact hk _ _ this
  ·exact h4.keep (λ_=>rfl) hk
 ·obtain⟨_,g1,_⟩:=old q row h1;obtain⟨_,g2,_⟩:=old q' row' h2;exact hh.inj q q' _ _ qi qi' g1 g2 h3 h4
end
end Go.D
namespace Go.D
variable [fA]
def yA:List WA→Nat→List V→Nat→Option kA
 | .plain :: ks,k,_ :: as=>yA ks (k+1) as
 | .ptr ow :: ks,k, .agg cs :: as=>sA (PA ow (128 *k) (yA ks (k+1) as) 0 cs) (128 *k+127) (some ⟨.box (HA ow (128 *k) 0 cs), .own⟩)
 | .mv ow :: ks,k, .agg cs :: as=>PA ow (128 *k) (yA ks (k+1) as) 0 cs
 | _,_,_=>λ_=>none
def fB:List WA→Nat→List V→List V
 | .plain :: ks,k,v :: as=>v :: fB ks (k+1) as
 | .ptr _ :: ks,k,_ :: as=> .bp (128 *k+127) 0 :: fB ks (k+1) as
 | .mv ow :: ks,k, .agg cs :: as=> .agg (HA ow (128 *k) 0 cs) :: fB ks (k+1) as
 | _,_,_=>[]
def ZA:List WA→Nat→List Nat→Nat→Option Nat
 | .plain :: ks,k,bs,q=>ZA ks (k+1) bs q
 | .ptr _ :: ks,k,b :: bs,q=>if q=128 *k+127 then some b else ZA ks (k+1) bs q
 | .mv _ :: ks,k,bs,q=>ZA ks (k+1) bs q
 | _,_,_,_=>none
omit [fA]in
def WD:∀(ks:List WA) (k:Nat) (bs:List Nat) (q b:Nat),ZA ks k bs q=some b→128 *k+127≤q∧q % 128=127∧b∈bs
 | [],k,bs,q,b,h=>by simp[ZA]at h
 | .plain :: ks,k,bs,q,b,h=>by
  simp only[ZA]at h;obtain⟨h1,h2,h3⟩:=WD ks (k+1) bs q b h;exact⟨by omega,h2,h3⟩
 | .mv ow :: ks,k,bs,q,b,h=>by
  simp only[ZA]at h;obtain⟨h1,h2,h3⟩:=WD ks (k+1) bs q b h;exact⟨by omega,h2,h3⟩
 | .ptr ow :: ks,k,[],q,b,h=>by simp[ZA]at h
 | .ptr ow :: ks,k,c :: bs,q,b,h=>by
  simp only[ZA]at h;split at h
  ·cases h;exact⟨by omega,by omega,by simp⟩
  ·obtain⟨h1,h2,h3⟩:=WD ks (k+1) bs q b h;exact⟨by omega,h2,by simp[h3]⟩
omit [fA]in
def gP:∀(ks:List WA) (k:Nat) (bs:List Nat) (q q' b:Nat),bs.Nodup→ZA ks k bs q=some b→ZA ks k bs q'=some b→q=q'
 | [],k,bs,q,q',b,hn,h,h'=>by simp[ZA]at h
 | .plain :: ks,k,bs,q,q',b,hn,h,h'=>gP ks (k+1) bs q q' b hn h h'
 | .mv ow :: ks,k,bs,q,q',b,hn,h,h'=>gP ks (k+1) bs q q' b hn h h'
 | .ptr ow :: ks,k,[],q,q',b,hn,h,h'=>by simp[ZA]at h
 | .ptr ow :: ks,k,c :: bs,q,q',b,hn,h,h'=>by
  simp only[ZA]at h h';simp only[List.nodup_cons]at hn;split at h<;>split at h'
  ·omega
  ·cases h;exact absurd (WD _ _ _ _ _ h').2.2 hn.1
  ·cases h';exact absurd (WD _ _ _ _ _ h).2.2 hn.1
  ·exact gP ks (k+1) bs q q' b hn.2 h h'
omit [fA]in
def mT:∀(ks:List WA) (k:Nat) (bs:List Nat) (q b:Nat),ZA ks k bs q=some b→q<128 *(k+ks.length)
 | [],k,bs,q,b,h=>by simp[ZA]at h
 | .plain :: ks,k,bs,q,b,h=>by
  simp only[ZA]at h;have:=mT ks (k+1) bs q b h;simp;omega
 | .mv ow :: ks,k,bs,q,b,h=>by
  simp only[ZA]at h;have:=mT ks (k+1) bs q b h;simp;omega
 | .ptr ow :: ks,k,[],q,b,h=>by simp[ZA]at h
 | .ptr ow :: ks,k,c :: bs,q,b,h=>by
  simp only[ZA]at h;split at h
  ·simp;omega
  ·have:=mT ks (k+1) bs q b h;simp;omega
omit [fA]in
def HO(ow:List Nat)(B B2:Nat):∀(es:List V) (p q:Nat),PA ow B (λ_=>none) p es (B+q)=PA ow B2 (λ_=>none) p es (B2+q)
 | [],p,q=>rfl
 | e :: es,p,q=>by
  have ih:=HO ow B B2 es (p+1) q;cases e<;>simp only[PA]<;>try exact ih
  cases hb:ow.any (Nat.beq p)
  ·simpa using ih
  ·simp only[cond_true]
   by_cases hq:q=p
   ·subst hq;rw[EA,EA]
   ·rw[tA _ _ _ _ (by omega),tA _ _ _ _ (by omega)];exact ih
omit [fA]in
def gD(ow:List Nat)(B:Nat):∀(es:List V) (p r:Nat) (row:kA),PA ow B (λ_=>none) p es r=some row→∃t l,row=⟨.arr t l, .own⟩∧B+p≤r∧r<B+p+es.length
 | [],p,r,row,h=>by simp[PA]at h
 | e :: es,p,r,row,h=>by
  have ih:=gD ow B es (p+1) r row
  have nx:PA ow B (λ_=>none) (p+1) es r=some row→∃t l,row=⟨.arr t l, .own⟩∧B+p≤r∧r<B+p+(e :: es).length:=λh=>by
   obtain⟨t,l,h1,h2,h3⟩:=ih h;exact⟨t,l,h1,by omega,by simp;omega⟩
  cases e<;>simp only[PA]at h<;>try exact nx h
  cases hb:ow.any (Nat.beq p)
  ·simp only[hb,cond_false]at h;exact nx h
  ·simp only[hb,cond_true]at h
   by_cases hr:r=B+p
   ·subst hr;rw[EA]at h;cases h;exact⟨_,_,rfl,Nat.le_refl _,by simp⟩
   ·rw[tA _ _ _ _ hr]at h;exact nx h
omit [fA]in
def zax(ow:List Nat)(B:Nat):∀(es:List V) (p q:Nat) (t:TN) (l:List (El t)),p≤q→es[q - p]?=some (.sl t l)→ow.any (Nat.beq q)=true→PA ow B (λ_=>none) p es (B+q)=some ⟨.arr t l, .own⟩
 | [],p,q,t,l,hp,he,ho=>by simp at he
 | e :: es,p,q,t,l,hp,he,ho=>by
  by_cases hq:q=p
  ·subst hq;simp at he;subst he;simp only[PA,ho,cond_true,EA]
  ·have ih:=zax ow B es (p+1) q t l (by omega) (by rw[show q - p=(q - (p+1))+1 by omega,List.getElem?_cons_succ]at he;exact he) ho;cases e<;>simp only[PA]<;>try exact ih
   cases hb:ow.any (Nat.beq p)
   ·simpa using ih
   ·simp only[cond_true];rw[tA _ _ _ _ (by omega)];exact ih
section
variable {C:Cx} {w0:World} {outer own:Nat→Prop} {ρ:Nat→Option RI} {st st':St} {a:Act} {w:World} {h:Nat→Option kA}
inductive EE(w:World)(ρ:Nat→Option RI)(bad:Nat→Prop)(g:Nat→Option kA)(N0:Nat):List WA→Nat→List V→List Nat→(Nat→Value)→Prop
 | nil (k:Nat) (u:Nat→Value):EE w ρ bad g N0 [] k [] [] u
 | plain {ks:List WA} {k:Nat} {v:V} {as:List V} {bs:List Nat} {u:Nat→Value} (hv:VR w ρ bad (u 0) v) (hn:cC v) (hr:EE w ρ bad g N0 ks (k+1) as bs λj=>u (j+1)):
   EE w ρ bad g N0 (.plain :: ks) k (v :: as) bs u
 | ptr {ow:List Nat} {ks:List WA} {k b:Nat} {cs as:List V} {bs:List Nat} {u:Nat→Value} (ri:RI) (hρ:ρ b=some ri) (YV:ri.nl=false) (hu:u 0= .pointer (some (wA ri.b 0)))
   (hg:g b=some ⟨.box (HA ow (N0+128 *k) 0 cs), .own⟩) (hl:cs.length≤127) (hq:∀q,q<128→g (N0+128 *k+q)=PA ow (N0+128 *k) (λ_=>none) 0 cs (N0+128 *k+q))
   (hc:∀j (hj:j<cs.length),cC cs[j]∧(cs[j]).leaf=true) (hb:b<N0) (hr:EE w ρ bad g N0 ks (k+1) as bs λj=>u (j+1)):
   EE w ρ bad g N0 (.ptr ow :: ks) k (.agg cs :: as) (b :: bs) u
 | mv {ow:List Nat} {ks:List WA} {k:Nat} {cs as:List V} {bs:List Nat} {u:Nat→Value} (hv:VR w ρ bad (u 0) (.agg (HA ow (N0+128 *k) 0 cs)))
   (hl:cs.length≤127) (hq:∀q,q<128→g (N0+128 *k+q)=PA ow (N0+128 *k) (λ_=>none) 0 cs (N0+128 *k+q))
   (hc:∀j (hj:j<cs.length),cC cs[j]∧(cs[j]).leaf=true) (hr:EE w ρ bad g N0 ks (k+1) as bs λj=>u (j+1)):
   EE w ρ bad g N0 (.mv ow :: ks) k (.agg cs :: as) bs u
omit [fA]in
def mB.rfl':∀(cs:List V),mB cs cs
 | []=> .nil
 | c :: cs=> .cons (.refl c) (mB.rfl' cs)
omit [fA]in
def zaf{ow:List Nat}{ks:List WA}{v:V}{vs:List V}{x:List V×(Nat→Option kA)×List Nat}(ht:CB (.ptr ow :: ks) (v :: vs) h=some x):∃r,v= .bp r 0:=by
 unfold CB at ht;split at ht
 ·simp_all
 ·simp_all
 ·rename_i e1 e2;simp only[List.cons.injEq]at e2;exact⟨_,e2.1⟩
 ·simp_all
 ·cases ht
omit [fA]in
def zao{ow:List Nat}{ks:List WA}{v:V}{vs:List V}{x:List V×(Nat→Option kA)×List Nat}(ht:CB (.mv ow :: ks) (v :: vs) h=some x):∃cs,v= .agg cs:=by
 unfold CB at ht;split at ht
 ·simp_all
 ·simp_all
 ·simp_all
 ·rename_i e1 e2;simp only[List.cons.injEq]at e2;exact⟨_,e2.1⟩
 ·cases ht
def dT(N0:Nat):∀(ks:List WA) (as:List V) (h h':Nat→Option kA) (as':List V) (bs:List Nat) (k:Nat) (ρ:Nat→Option RI) (g:Nat→Option kA) (u:Nat→Value),
  CB ks as h=some (as',h',bs)→VA w0 outer own ρ g w→(∀j (hj:j<as.length),VR w ρ (jA outer ρ g) (u j) as[j])→tF h g→(∀r,N0+128 *k≤r→ρ r=none)→(∀r,N0≤r→h r=none)→
  ∃ρ' g',VA w0 outer own ρ' g' w∧tF h' g'∧(∀r,h r=none→h' r=none)∧(∀r,h r=none→r<N0+128 *k→g' r=g r)∧(∀r ri,ρ r=some ri→ρ' r=some ri)∧
   (∀v d,VR w ρ (jA outer ρ g) v d→VR w ρ' (jA outer ρ' g') v d)∧EE w ρ' (jA outer ρ' g') g' N0 ks k as' bs u∧
   (∀b∈bs,h' b=none∧h b≠none)∧bs.Nodup∧as.length=ks.length∧(∀r,r<N0→ρ' r=ρ r)
 | [],[],h,h',as',bs,k,ρ,g,u,ht,hh,hv,hg,hf,hN=>by
  simp only[CB,Option.some.injEq,Prod.mk.injEq]at ht;obtain⟨rfl,rfl,rfl⟩:=ht;exact⟨ρ,g,hh,hg,λ_ h=>h,λ_ _ _=>rfl,λ_ _ h=>h,λ_ _ h=>h, .nil _ _,λb hb=>by simp at hb,by simp,rfl,λ_ _=>rfl⟩
 | [],_ :: _,h,h',as',bs,k,ρ,g,u,ht,hh,hv,hg,hf,hN=>by simp[CB]at ht
 | .plain :: ks,[],h,h',as',bs,k,ρ,g,u,ht,hh,hv,hg,hf,hN=>by simp[CB]at ht
 | .ptr _ :: ks,[],h,h',as',bs,k,ρ,g,u,ht,hh,hv,hg,hf,hN=>by simp[CB]at ht
 | .mv _ :: ks,[],h,h',as',bs,k,ρ,g,u,ht,hh,hv,hg,hf,hN=>by simp[CB]at ht
 | .plain :: ks,v :: vs,h,h',as',bs,k,ρ,g,u,ht,hh,hv,hg,hf,hN=>by
  simp only[CB]at ht;split at ht
  ·cases ht
  rename_i v' ids qY;split at ht
  ·cases ht
  rename_i as2 h2 bs2 t4;simp only[Option.some.injEq,Prod.mk.injEq]at ht;obtain⟨rfl,rfl,rfl⟩:=ht;obtain⟨k1,k2⟩:=zeA hg qY;have k2:∀r∈ids,∃row,h r=some row:=k2;obtain⟨m1,m2⟩:=hh.mark ids;obtain⟨f1,f2⟩:=zbH hh (hv 0 (by simp)) k1;have JZ:∀r,h r=none→r∉ids:=λr hn hm=>by obtain⟨row,h5⟩:=k2 r hm;rw[hn]at h5;cases h5
  have d7:∀r,h r=none→FB h ids r=none:=λr hn=>by rw[SD,if_neg (JZ r hn)];exact hn
  obtain⟨ρ',g',c1,c2,c3,c4,c5,c6,c7,c8,c9,JE,YE⟩:=dT N0 ks vs (FB h ids) h2 as2 bs2 (k+1) ρ (FB g ids) (λj=>u (j+1)) t4 m1
   (λj hj=>m2 _ _ (hv (j+1) (by simp;omega))) (zaK hg ids) (λr hr=>hf r (by omega)) (λr hr=>d7 r (hN r hr))
  refine⟨ρ',g',c1,c2,λr hr=>c3 r (d7 r hr),λr hr hk=>?_,c5,λv d hd=>c6 _ _ (m2 _ _ hd), .plain (c6 _ _ f1) f2 c7,λb hb=>?_,c9,by simp[JE],YE⟩
  ·rw[c4 r (d7 r hr) (by omega),SD,if_neg (JZ r hr)]
  ·obtain⟨d1,d2⟩:=c8 b hb;exact⟨d1,λhn=>d2 (d7 b hn)⟩
 | .ptr ow :: ks,v :: vs,h,h',as',bs,k,ρ,g,u,ht,hh,hv,hg,hf,hN=>by
  obtain⟨r,rfl⟩:=zaf ht;simp only[CB]at ht;split at ht
  case h_2=>cases ht
  rename_i cs JV;cases cW:Nat.ble cs.length 127
  case false=>simp[cW]at ht
  simp only[cW,cond_true]at ht;have cW:=Nat.le_of_ble_eq_true cW;split at ht
  ·cases ht
  rename_i cs' h1 U1;split at ht
  ·cases ht
  rename_i as2 h2 bs2 t4;simp only[Option.some.injEq,Prod.mk.injEq]at ht;obtain⟨rfl,rfl,rfl⟩:=ht
  have hrN:r<N0:=by
   rcases Nat.lt_or_ge r N0 with h3 | h3
   ·exact h3
   ·rw[hN r h3]at JV;cases JV
  have hgr:=hg _ _ JV;have PW:=hv 0 (by simp);simp only[List.getElem_cons_zero]at PW;obtain⟨ri,hρ,QV,_⟩:=hh.rows r _ hgr
  have TY:u 0= .pointer (some (wA ri.b 0))∧ri.nl=false:=by
   generalize u 0=x at PW;cases PW with
   | bp _ _ ri' h3 h4=>rw[hρ]at h3;cases h3;exact⟨rfl,h4⟩
  have UV:∀q,h q=none→sA h r none q=none:=λq hq=>by
   by_cases XV:q=r
   ·subst XV;exact EA _ _ _
   ·rw[tA _ _ _ _ XV];exact hq
  obtain⟨ρ1,g1,T,LV⟩:=bP ow (N0+128 *k) 128 cs 0 (sA h r none) h1 cs' cs' ρ g (λj=>(w.cell? (wA ri.b j)).getD undef) U1 (mB.rfl' _) (by omega) hh
   (λj hj=>by obtain⟨_,x,f1,f2⟩:=QV.2 j hj;rw[f1];exact f2)
   (fun q row hq=>by
    by_cases XV:q=r
    ·subst XV;rw[EA]at hq;cases hq
    ·rw[tA _ _ _ _ XV]at hq;exact hg _ _ hq)
   (λq hq=>UV _ (hN _ (by omega))) (λq _ _=>hf _ (by omega))
  have v4:Out (N0+128 *k) 128 r:=λh3=>by omega
  have B8:g1 r=some ⟨.box cs, .own⟩:=by rw[(T.out r v4).2 (EA _ _ _)];exact hgr
  have hρ1:ρ1 r=some ri:=T.ext _ _ hρ;obtain⟨n1,n2⟩:=T.heap.reread B8 (es:=HA ow (N0+128 *k) 0 cs') (by rw[UD];exact LV) (λri' h3 j hj=>by rw[hρ1]at h3;cases h3;exact T.vals j hj);have VZ:h1 r=none:=T.less r (EA _ _ _)
  obtain⟨ρ',g',c1,c2,c3,c4,c5,c6,c7,c8,c9,JE,YE⟩:=dT N0 ks vs h1 h2 as2 bs2 (k+1) ρ1 _ (λj=>u (j+1)) t4 n1
   (λj hj=>n2 _ _ (T.keep _ _ (hv (j+1) (by simp;omega))))
   (fun q row hq=>by
    have XV:q≠r:=by rintro rfl;rw[VZ]at hq;cases hq
    rw[tA _ _ _ _ XV];exact T.lies _ _ hq)
   (λq hq=>by rw[(T.out q (λh3=>by omega)).1];exact hf q (by omega)) (λq hq=>T.less q (UV q (hN q hq)))
  have QW:∀q,h q=none→q<N0+128 *k→Out (N0+128 *k) 128 q:=λq _ h3 h4=>by omega
  refine⟨ρ',g',c1,c2,λq hq=>c3 q (T.less q (UV q hq)),λq hq hk=>?_,λq qi hq=>c5 _ _ (T.ext _ _ hq),λv d hd=>c6 _ _ (n2 _ _ (T.keep _ _ hd)),
   .ptr ri (c5 _ _ hρ1) TY.2 TY.1 ?_ (by omega) (λq hq=>?_) T.closed hrN c7,λb hb=>?_,?_,by simp[JE],λq hq=>?_⟩
  ·have XV:q≠r:=by rintro rfl;rw[JV]at hq;cases hq
   rw[c4 q (T.less q (UV q hq)) (by omega),tA _ _ _ _ XV,(T.out q (QW q hq hk)).2 (UV q hq)]
  ·rw[c4 r VZ (by omega),EA]
  ·rw[c4 _ (T.less _ (UV _ (hN _ (by omega)))) (by omega),tA _ _ _ _ (by omega),T.new q (by omega) hq]
  ·rcases List.mem_cons.1 hb with rfl | hb
   ·exact⟨c3 _ VZ,by rw[JV];simp⟩
   ·obtain⟨d1,d2⟩:=c8 b hb;exact⟨d1,λhn=>d2 (T.less b (UV b hn))⟩
  ·refine List.nodup_cons.2 ⟨λhm=>(c8 r hm).2 VZ,c9⟩
  ·rw[YE q hq,(T.out q (λh3=>by omega)).1]
 | .mv ow :: ks,v :: vs,h,h',as',bs,k,ρ,g,u,ht,hh,hv,hg,hf,hN=>by
  obtain⟨cs,rfl⟩:=zao ht;simp only[CB]at ht;cases cW:Nat.ble cs.length 127
  case false=>simp[cW]at ht
  simp only[cW,cond_true]at ht;have cW:=Nat.le_of_ble_eq_true cW;split at ht
  ·cases ht
  rename_i cs' h1 U1;split at ht
  ·cases ht
  rename_i as2 h2 bs2 t4;simp only[Option.some.injEq,Prod.mk.injEq]at ht;obtain⟨rfl,rfl,rfl⟩:=ht;have PW:=hv 0 (by simp);simp only[List.getElem_cons_zero]at PW
  obtain⟨vsA,TY,RV,hcv⟩:∃vsA:Array Value,u 0= .agg vsA∧vsA.size=cs.length∧∀j (hj:j<cs.length),VR w ρ (jA outer ρ g) (vsA.getD j undef) cs[j]:=by
   generalize u 0=x at PW;cases PW with
   | agg _ vsA h1 h2=>exact⟨vsA,rfl,h1,h2⟩
  obtain⟨ρ1,g1,T,LV⟩:=bP ow (N0+128 *k) 128 cs 0 h h1 cs' cs' ρ g (λj=>vsA.getD j undef) U1 (mB.rfl' _) (by omega) hh hcv hg
   (λq hq=>hN _ (by omega)) (λq _ _=>hf _ (by omega))
  obtain⟨ρ',g',c1,c2,c3,c4,c5,c6,c7,c8,c9,JE,YE⟩:=dT N0 ks vs h1 h2 as2 bs2 (k+1) ρ1 g1 (λj=>u (j+1)) t4 T.heap
   (λj hj=>T.keep _ _ (hv (j+1) (by simp;omega))) T.lies
   (λq hq=>by rw[(T.out q (λh3=>by omega)).1];exact hf q (by omega)) (λq hq=>T.less q (hN q hq))
  have QW:∀q,h q=none→q<N0+128 *k→Out (N0+128 *k) 128 q:=λq _ h3 h4=>by omega
  refine⟨ρ',g',c1,c2,λq hq=>c3 q (T.less q hq),λq hq hk=>?_,λq qi hq=>c5 _ _ (T.ext _ _ hq),λv d hd=>c6 _ _ (T.keep _ _ hd),
   .mv ?_ (by omega) (λq hq=>?_) T.closed c7,λb hb=>?_,c9,by simp[JE],λq hq=>?_⟩
  ·rw[c4 q (T.less q hq) (by omega),(T.out q (QW q hq hk)).2 hq]
  ·rw[TY];refine .agg _ _ (by rw[UD,RV,LV]) λj hj=>?_;exact c6 _ _ (T.vals j hj)
  ·rw[c4 _ (T.less _ (hN _ (by omega))) (by omega),T.new q (by omega) hq]
  ·obtain⟨d1,d2⟩:=c8 b hb;exact⟨d1,λhn=>d2 (T.less b hn)⟩
  ·rw[YE q hq,(T.out q (λh3=>by omega)).1]
end
end Go.D
namespace Go.D
variable [fA]
def znE(P:Program)(f:Nat)(args:Array Value)(w:World)(post:Value→World→Prop):Prop:=
 ((callFunc f args).run P w= .ok (.enter f args) w∧Calls P f args w λe w'=>∃v,e= .returned v∧post v w')∨
 ∃v w',(callFunc f args).run P w= .ok (.value v) w'∧post v w'
def BD(ks:List WA)(as:List V)(bs:List Nat)(ow:List Nat)(base:Nat)(shape:List (Bool×Nat))(rs:List V):Nat→Option kA:=
 lB ks as bs ((HA ow base 0 rs).drop (RH shape)) (PA ow base (λ_=>none) 0 rs)
def UC(ci:OA)(as:List V)(bs:List Nat)(base:Nat)(rs:List V):Nat→Option kA:=
 bif ci.pb then sA (λ_=>none) base (some ⟨.box rs, .own⟩)else BD ci.ks as bs ci.own base ci.shape rs
def cB(P:Program)(f:Nat)(ci:OA)(g:Gl:=pI):Prop:=
 ∀(w:World) (args:Array Value) (as:List V) (outer own:Nat→Prop) (ρ:Nat→Option RI) (a:ci.A) (r:ci.R) (base:Nat) (bs:List Nat),
  args.size=ci.ks.length→(fB ci.ks 0 as).length=ci.ks.length→VA w outer own ρ (yA ci.ks 0 as) w→
  (∀j (hj:j<(fB ci.ks 0 as).length),VR w ρ (jA outer ρ (yA ci.ks 0 as)) (args.getD j undef) (fB ci.ks 0 as)[j])→(∀q,yA ci.ks 0 as q=none→ρ q=none)→
  bs.Nodup→(∀b∈bs,Out base 128 b)→ci.dA as=some a→ci.F a=some r→(ci.eR r).length≤128→zgg g own w→
  znE P f args w λv w'=>∃ρ',VA w outer own ρ' (UC ci as bs base (ci.eR r)) w'∧
   VR w' ρ' (jA outer ρ' (UC ci as bs base (ci.eR r))) v (QG ci base (ci.eR r))∧
   (∀q b,ZA ci.ks 0 bs q=some b→ρ' b=ρ q)∧(∀r,ρ' r≠none→(base≤r∧r<base+128)∨r∈bs)
omit [fA]in
def Calls.mono'{P:Program}{f:Nat}{args:Array Value}{w:World}{R R':Ending→World→Prop}(h:Calls P f args w R)(hr:∀e w',R e w'→R' e w'):Calls P f args w R':=
 λcs=>let ⟨e,w',fr,h1,h2⟩:=h cs;⟨e,w',fr,hr _ _ h1,h2⟩
omit [fA]in
def yI:∀(ks:List WA) (as:List V) (bs:List Nat) (vs:List V) (h:Nat→Option kA) (r:Nat),
  lB ks as bs vs h r=match lB ks as bs vs (λ_=>none) r with | some x=>some x | none=>h r
 | [],as,bs,vs,h,r=>by cases as<;>rfl
 | .plain :: ks,[],bs,vs,h,r=>rfl
 | .plain :: ks,a :: as,bs,vs,h,r=>by simp only[lB];exact yI ks as bs vs h r
 | .mv ow :: ks,[],bs,vs,h,r=>rfl
 | .mv ow :: ks,a :: as,bs,vs,h,r=>by simp only[lB];exact yI ks as bs vs h r
 | .ptr ow :: ks,[],bs,vs,h,r=>rfl
 | .ptr ow :: ks,a :: as,[],vs,h,r=>by cases a<;>rfl
 | .ptr ow :: ks,a :: as,b :: bs,vs,h,r=>by
  cases a<;>try rfl
  simp only[lB]
  by_cases hr:r=b
  ·subst hr;simp[EA]
  ·rw[tA _ _ _ _ hr,tA _ _ _ _ hr];exact yI ks as bs _ h r
omit [fA]in
def rR:∀(ks:List WA) (as:List V) (bs:List Nat) (vs:List V) (r:Nat) (row:kA),lB ks as bs vs (λ_=>none) r=some row→r∈bs
 | [],as,bs,vs,r,row,h=>by cases as<;>simp[lB]at h
 | .plain :: ks,[],bs,vs,r,row,h=>by simp[lB]at h
 | .plain :: ks,a :: as,bs,vs,r,row,h=>by simp only[lB]at h;exact rR ks as bs vs r row h
 | .mv ow :: ks,[],bs,vs,r,row,h=>by simp[lB]at h
 | .mv ow :: ks,a :: as,bs,vs,r,row,h=>by simp only[lB]at h;exact rR ks as bs vs r row h
 | .ptr ow :: ks,[],bs,vs,r,row,h=>by simp[lB]at h
 | .ptr ow :: ks,a :: as,[],vs,r,row,h=>by cases a<;>simp[lB]at h
 | .ptr ow :: ks,a :: as,b :: bs,vs,r,row,h=>by
  cases a<;>try (simp[lB]at h;done)
  simp only[lB]at h
  by_cases hr:r=b
  ·subst hr;simp
  ·rw[tA _ _ _ _ hr]at h;exact List.mem_cons_of_mem _ (rR ks as bs _ r row h)
omit [fA]in
def zmT{ks:List WA}{as:List V}{bs ow:List Nat}{base:Nat}{shape:List (Bool×Nat)}{rs:List V}{r:Nat}{row:kA}(hl:rs.length≤128)
  (h:BD ks as bs ow base shape rs r=some row):r∈bs∨(base≤r∧r<base+128):=by
 unfold BD at h;rw[yI]at h;split at h
 ·rename_i x hx;exact .inl (rR _ _ _ _ _ _ hx)
 ·obtain⟨_,_,_,h1,h2⟩:=gD _ _ _ _ _ _ h
  grind
omit [fA]in
def gR:∀(ks:List WA) (as:List V) (bs:List Nat) (vs:List V) (r:Nat) (row:kA),lB ks as bs vs (λ_=>none) r=some row→row.m= .own
 | [],as,bs,vs,r,row,h=>by cases as<;>simp[lB]at h
 | .plain :: ks,[],bs,vs,r,row,h=>by simp[lB]at h
 | .plain :: ks,a :: as,bs,vs,r,row,h=>by simp only[lB]at h;exact gR ks as bs vs r row h
 | .mv ow :: ks,[],bs,vs,r,row,h=>by simp[lB]at h
 | .mv ow :: ks,a :: as,bs,vs,r,row,h=>by simp only[lB]at h;exact gR ks as bs vs r row h
 | .ptr ow :: ks,[],bs,vs,r,row,h=>by simp[lB]at h
 | .ptr ow :: ks,a :: as,[],vs,r,row,h=>by cases a<;>simp[lB]at h
 | .ptr ow :: ks,a :: as,b :: bs,vs,r,row,h=>by
  cases a<;>try (simp[lB]at h;done)
  simp only[lB]at h
  by_cases hr:r=b
  ·subst hr;rw[EA]at h;cases h;rfl
  ·rw[tA _ _ _ _ hr]at h;exact gR ks as bs _ r row h
omit [fA]in
def zma{ks:List WA}{as:List V}{bs ow:List Nat}{base:Nat}{shape:List (Bool×Nat)}{rs:List V}{r:Nat}{row:kA}(hl:rs.length≤128)
  (h:BD ks as bs ow base shape rs r=some row):row.m= .own:=by
 unfold BD at h;rw[yI]at h;split at h
 ·rename_i x hx;cases h;exact gR _ _ _ _ _ _ hx
 ·obtain⟨_,_,h0,_,_⟩:=gD _ _ _ _ _ _ h;rw[h0]
omit [fA]in
def zns(ks:List WA)(as:List V)(bs ow:List Nat)(base:Nat)(shape:List (Bool×Nat))(rs:List V)(h:Nat→Option kA)(r:Nat):
  lB ks as bs ((HA ow base 0 rs).drop (RH shape)) (PA ow base h 0 rs) r=match BD ks as bs ow base shape rs r with | some x=>some x | none=>h r:=by
 unfold BD;rw[yI ks as bs _ (PA ow base h 0 rs),yI ks as bs _ (PA ow base (λ_=>none) 0 rs),AB ow base h];cases lB ks as bs ((HA ow base 0 rs).drop (RH shape)) (λ_=>none) r<;>rfl
omit [fA]in
def zfk{ci:OA}{as:List V}{bs:List Nat}{base:Nat}{rs:List V}{r:Nat}{row:kA}(hl:rs.length≤128)(h:UC ci as bs base rs r=some row):r∈bs∨(base≤r∧r<base+128):=by
 unfold UC at h;cases hp:ci.pb
 ·rw[hp]at h;exact zmT hl h
 ·rw[hp]at h;simp only[cond_true]at h
  by_cases hr:r=base
  ·grind
  ·rw[tA _ _ _ _ hr]at h;cases h
omit [fA]in
def zbh{ci:OA}{as:List V}{bs:List Nat}{base:Nat}{rs:List V}{r:Nat}{row:kA}(hl:rs.length≤128)(h:UC ci as bs base rs r=some row):row.m= .own:=by
 unfold UC at h;cases hp:ci.pb
 ·rw[hp]at h;exact zma hl h
 ·rw[hp]at h;simp only[cond_true]at h
  by_cases hr:r=base
  ·subst hr;rw[EA]at h;cases h;rfl
  ·rw[tA _ _ _ _ hr]at h;cases h
omit [fA]in
def cK(ci:OA)(as:List V)(bs:List Nat)(base:Nat)(rs:List V)(h:Nat→Option kA)(r:Nat):
  xF ci as bs base rs h r=match UC ci as bs base rs r with | some x=>some x | none=>h r:=by
 unfold UC xF;cases hp:ci.pb
 ·exact zns _ _ _ _ _ _ _ _ _
 ·simp only[cond_true]
  by_cases hr:r=base
  ·subst hr;rw[EA,EA]
  ·rw[tA _ _ _ _ hr,tA _ _ _ _ hr]
def eE(h' h:Nat→Option kA):Prop:=∀r row',h' r=some row'→∃row,h r=some row∧row.c=row'.c∧(row'.m.isRo=false→row.m.isRo=false)
omit [fA]in
def eE.refl(h:Nat→Option kA):eE h h:=λ_ row' h=>⟨row',h,rfl,id⟩
omit [fA]in
def eE.trans{a b c:Nat→Option kA}(h:eE a b)(k:eE b c):eE a c:=λr row' hr=>by
 obtain⟨row,h1,h2,h3⟩:=h r row' hr;obtain⟨row2,k1,k2,k3⟩:=k r row h1
 grind
omit [fA]in
def dP(h:Nat→Option kA)(r:Nat):eE (sA h r none) h:=λq row' hq=>by
 by_cases XV:q=r
 ·subst XV;rw[EA]at hq;cases hq
 ·rw[tA _ _ _ _ XV]at hq;exact⟨row',hq,rfl,id⟩
omit [fA]in
def rI(ow:List Nat):∀(cs:List V) (p:Nat) (h:Nat→Option kA) (x:List V×(Nat→Option kA)),DC ow p cs h=some x→eE x.2 h
 | [],p,h,x,ht=>by simp[DC]at ht;subst ht;exact eE.refl h
 | c :: cs,p,h,x,ht=>by
  simp only[DC]at ht;cases hb:ow.any (Nat.beq p)
  ·simp only[hb,cond_false]at ht;split at ht
   case h_2=>cases ht
   split at ht
   case h_2=>cases ht
   rename_i hr;cases ht;exact(rI ow cs _ _ _ hr).trans (BO h _)
  ·simp only[hb,cond_true]at ht;split at ht
   ·split at ht
    case h_2=>cases ht
    split at ht
    case h_2=>cases ht
    rename_i hr;cases ht;exact(rI ow cs _ _ _ hr).trans (dP h _)
   ·split at ht
    case h_2=>cases ht
    rename_i hr;cases ht;have:=rI ow cs _ _ _ hr;exact this
   ·split at ht
    case h_2=>cases ht
    split at ht
    case h_2=>cases ht
    rename_i hr;cases ht;exact(rI ow cs _ _ _ hr).trans (dP h _)
   ·cases ht
omit [fA]in
def XN:∀(ks:List WA) (as:List V) (h:Nat→Option kA) (x:List V×(Nat→Option kA)×List Nat),CB ks as h=some x→eE x.2.1 h
 | [],[],h,x,ht=>by simp[CB]at ht;subst ht;exact eE.refl h
 | [],_ :: _,h,x,ht=>by simp[CB]at ht
 | .plain :: ks,[],h,x,ht=>by simp[CB]at ht
 | .ptr _ :: ks,[],h,x,ht=>by simp[CB]at ht
 | .mv _ :: ks,[],h,x,ht=>by simp[CB]at ht
 | .mv ow :: ks,v :: vs,h,x,ht=>by
  obtain⟨cs,rfl⟩:=zao ht;simp only[CB]at ht;cases hb:Nat.ble cs.length 127
  case false=>simp[hb]at ht
  simp only[hb,cond_true]at ht;split at ht
  ·cases ht
  rename_i hl;split at ht
  ·cases ht
  rename_i hr;cases ht;exact(XN ks vs _ _ hr).trans (rI _ _ _ _ _ hl)
 | .plain :: ks,v :: vs,h,x,ht=>by
  simp only[CB]at ht;split at ht
  ·cases ht
  split at ht
  ·cases ht
  rename_i hr;cases ht;exact(XN ks vs _ _ hr).trans (BO h _)
 | .ptr ow :: ks,v :: vs,h,x,ht=>by
  obtain⟨r,rfl⟩:=zaf ht;simp only[CB]at ht;split at ht
  case h_2=>cases ht
  rename_i cs _;cases hb:Nat.ble cs.length 127
  case false=>simp[hb]at ht
  simp only[hb,cond_true]at ht;split at ht
  ·cases ht
  rename_i hl;split at ht
  ·cases ht
  rename_i hr;cases ht;exact(XN ks vs _ _ hr).trans ((rI _ _ _ _ _ hl).trans (dP h r))
section
variable {C:Cx} {w0:World} {outer own:Nat→Prop} {ρ:Nat→Option RI} {st st':St} {a:Act} {w:World} {h:Nat→Option kA}
def VA.sub(hh:VA w0 outer own ρ h w){w1:World}{outer' own':Nat→Prop}{e:Nat→Option kA}{ρe:Nat→Option RI}(φ:Nat→Nat)(pY:Wx w1 w)
  (IY:∀b,b<w1.heap.size→¬own' b→w.heap[b]?=w1.heap[b]?) (QW:∀b,outer' b→b<w1.heap.size∧¬own' b)
  (JV:∀q row,e q=some row→∃row' ri,h (φ q)=some row'∧ρe q=some ri∧ρ (φ q)=some ri∧KC w ρe (jA outer' ρe e) ri row.c∧(ri.nl=false→¬outer' ri.b∧(row.m.isRo=false→w1.heap.size≤ri.b∨own' ri.b)))
  (C8:∀q q' row row',e q=some row→e q'=some row'→φ q=φ q'→q=q'):VA w1 outer' own' ρe e w:=by
 refine⟨pY,IY,QW,λq row hq=>?_,λq q' row row' qi qi' h1 h2 h3 h4 h5 h6 h7=>?_⟩
 ·obtain⟨row',ri,h1,h2,h3,h4,h5⟩:=JV q row hq;obtain⟨ri',k1,_,k2⟩:=hh.rows _ _ h1
  grind
 ·obtain⟨r1,ri1,g1,g2,g3,_,_⟩:=JV q row h1;obtain⟨r2,ri2,g4,g5,g6,_,_⟩:=JV q' row' h2;rw[h3]at g2;cases g2;rw[h4]at g5;cases g5;exact C8 q q' row row' h1 h2 (hh.inj _ _ _ _ _ _ g1 g4 g3 g6 h5 h6 h7)
variable {bad:Nat→Prop} {g:Nat→Option kA} {N0:Nat}
def EE.row{ks:List WA}{k:Nat}{as:List V}{bs:List Nat}{u:Nat→Value}(he:EE w ρ bad g N0 ks k as bs u):∀{q:Nat} {row:kA},yA ks k as q=some row→
  128 *k≤q∧q<128 *(k+ks.length)∧
  ((∃ b ow k' cs ri,ZA ks k bs q=some b∧q=128 *k'+127∧k≤k'∧k'<k+ks.length∧row=⟨.box (HA ow (128 *k') 0 cs), .own⟩∧g b=some ⟨.box (HA ow (N0+128 *k') 0 cs), .own⟩∧ρ b=some ri∧ri.nl=false∧
    cs.length≤127∧(∀j (hj:j<cs.length),cC cs[j])∧b<N0∧∀p t l,cs[p]?=some (.sl t l)→ow.any (Nat.beq p)=true→yA ks k as (128 *k'+p)=some ⟨.arr t l, .own⟩)∨
  (∃t l,row=⟨.arr t l, .own⟩∧g (N0+q)=some row∧q % 128≠127)):=by
 induction he with
 | nil=>intro q row h;simp[yA]at h
 | plain hv hn hr ih=>
  rename_i ks k v as bs u;intro q row h;simp only[yA]at h;obtain⟨h1,h2,h3⟩:=ih h;refine⟨by omega,by simp;omega,?_⟩
  rcases h3 with⟨b,ow,k',cs,ri,e1,e2,e3,e4,e5,e6,e7,e8,e9,e10,e11,e12⟩ | h3
  ·exact .inl ⟨b,ow,k',cs,ri,e1,e2,by omega,by simp;omega,e5,e6,e7,e8,e9,e10,e11,λp t l h4 h5=>by simp only[yA];exact e12 p t l h4 h5⟩
  ·exact .inr h3
 | ptr ri hρ YV hu hg hl hq hc hb hr ih=>
  rename_i ow ks k b cs as bs u;intro q row h;simp only[yA]at h
  by_cases mY:q=128 *k+127
  ·subst mY;rw[EA]at h;cases h
   exact⟨by omega,by simp;omega, .inl ⟨b,ow,k,cs,ri,by simp[ZA],rfl,Nat.le_refl _,by simp,rfl,hg,hρ,YV,hl,λj hj=>(hc j hj).1,hb,λp t l h4 h5=>by
    have hp:p<cs.length:=by
     grind
    simp only[yA];rw[tA _ _ _ _ (by omega),AB,zax ow (128 *k) cs 0 p t l (Nat.zero_le _) h4 h5]⟩⟩
  ·rw[tA _ _ _ _ mY,AB]at h;split at h
   ·rename_i x hx;cases h;obtain⟨t,l,e1,e2,e3⟩:=gD _ _ _ _ _ _ hx;refine⟨by omega,by simp;omega, .inr ⟨t,l,e1,?_,by omega⟩⟩;have h1:=hq (q - 128 *k) (by omega);have h2:=HO ow (128 *k) (N0+128 *k) cs 0 (q - 128 *k)
    grind
   ·obtain⟨h1,h2,h3⟩:=ih h;refine⟨by omega,by simp;omega,?_⟩
    rcases h3 with⟨b',ow',k',cs',ri',e1,e2,e3,e4,e5,e6,e7,e8,e9,e10,e11,e12⟩ | h3
    ·refine .inl ⟨b',ow',k',cs',ri',?_,e2,by omega,by simp;omega,e5,e6,e7,e8,e9,e10,e11,λp t l h4 h5=>?_⟩
     ·simp only[ZA];rw[if_neg mY];exact e1
     ·have hp:p<cs'.length:=by
       grind
      simp only[yA];rw[tA _ _ _ _ (by omega),AB,EC _ _ _ _ _ (by omega)];exact e12 p t l h4 h5
    ·exact .inr h3
 | mv hv hl hq hc hr ih=>
  rename_i ow ks k cs as bs u;intro q row h;simp only[yA]at h;rw[AB]at h;split at h
  ·rename_i x hx;cases h;obtain⟨t,l,e1,e2,e3⟩:=gD _ _ _ _ _ _ hx;refine⟨by omega,by simp;omega, .inr ⟨t,l,e1,?_,by omega⟩⟩;have h1:=hq (q - 128 *k) (by omega);have h2:=HO ow (128 *k) (N0+128 *k) cs 0 (q - 128 *k)
   grind
  ·obtain⟨h1,h2,h3⟩:=ih h;refine⟨by omega,by simp;omega,?_⟩
   rcases h3 with⟨b',ow',k',cs',ri',e1,e2,e3,e4,e5,e6,e7,e8,e9,e10,e11,e12⟩ | h3
   ·refine .inl ⟨b',ow',k',cs',ri',e1,e2,by omega,by simp;omega,e5,e6,e7,e8,e9,e10,e11,λp t l h4 h5=>?_⟩
    have hp:p<cs'.length:=by
     grind
    simp only[yA];rw[AB,EC _ _ _ _ _ (by omega)];exact e12 p t l h4 h5
   ·exact .inr h3
def EE.vals{ks:List WA}{k:Nat}{as:List V}{bs:List Nat}{u:Nat→Value}(he:EE w ρ bad g N0 ks k as bs u){ρc:Nat→Option RI}{badc:Nat→Prop}
  (hb:∀b,badc b→bad b) (hρ:∀q b,ZA ks k bs q=some b→ρc q=ρ b) (hρ2:∀q row,yA ks k as q=some row→q % 128≠127→ρc q=ρ (N0+q)):
  (fB ks k as).length=ks.length∧∀j (hj:j<(fB ks k as).length),VR w ρc badc (u j) (fB ks k as)[j]:=by
 induction he with
 | nil=>exact⟨rfl,λj hj=>by simp[fB]at hj⟩
 | plain hv hn hr ih=>
  rename_i ks k v as bs u;obtain⟨h1,h2⟩:=ih (λq b h=>hρ q b h) λq row h=>hρ2 q row h;refine⟨by simp[fB,h1],λj hj=>?_⟩;cases j with
  | zero=>exact(hv.noRef hn ρc).mono (λ_ _ h=>h) (λ_ _ _=>rfl) λb h=> .inl (hb b h)
  | succ j=>exact h2 j (by simpa[fB]using hj)
 | ptr ri hρb YV hu hg hl hq hc D8 hr ih=>
  rename_i ow ks k b cs as bs u
  obtain⟨h1,h2⟩:=ih (λq b' h=>hρ q b' (by
   obtain⟨h3,_⟩:=WD _ _ _ _ _ h;simp only[ZA];rw[if_neg (by omega)];exact h)) λq row h h3=>hρ2 q row (by
   have:=(hr.row h).1;simp only[yA];rw[tA _ _ _ _ (by omega),AB,EC _ _ _ _ _ (by omega)];exact h) h3
  refine⟨by simp[fB,h1],λj hj=>?_⟩;cases j with
  | zero=>
   show VR w ρc badc (u 0) (.bp (128 *k+127) 0)
   rw[hu];exact .bp _ _ ri (by rw[hρ (128 *k+127) b (by simp[ZA])];exact hρb) YV
  | succ j=>exact h2 j (by simpa[fB]using hj)
 | mv hv hl hq hc hr ih=>
  rename_i ow ks k cs as bs u
  obtain⟨h1,h2⟩:=ih (λq b h=>hρ q b h) λq row h h3=>hρ2 q row (by
   have:=(hr.row h).1;simp only[yA];rw[AB,EC _ _ _ _ _ (by omega)];exact h) h3
  refine⟨by simp[fB,h1],λj hj=>?_⟩;cases j with
  | zero=>
   show VR w ρc badc (u 0) (.agg (HA ow (128 *k) 0 cs))
   generalize u 0=u0 at hv;cases hv with
   | agg _ vs hs XW=>
   refine .agg _ vs (by rw[UD];rw[UD]at hs;exact hs) ?_;refine LO ow (N0+128 *k) (128 *k) cs 0 (λj=>vs.getD j undef) (λq' h3 h4 h5 h6=>?_) (λj hj=>(hc j hj).1) hb (λj hj=>XW j hj);obtain⟨t,l,h6⟩:=h6
   have h0:yA (.mv ow :: ks) k (.agg cs :: as) (128 *k+q')=some ⟨.arr t l, .own⟩:=by
    simp only[yA];rw[AB,zax ow (128 *k) cs 0 q' t l (Nat.zero_le _) h6 h5]
   have:=hρ2 _ _ h0 (by omega);rw[this];congr 1;omega
  | succ j=>exact h2 j (by simpa[fB]using hj)
def EE.found{ks:List WA}{k:Nat}{as:List V}{bs:List Nat}{u:Nat→Value}(he:EE w ρ bad g N0 ks k as bs u):∀{q b:Nat},ZA ks k bs q=some b→∃row,yA ks k as q=some row:=by
 induction he with
 | nil=>intro q b h;simp[ZA]at h
 | plain hv hn hr ih=>intro q b h;simp only[ZA]at h;simp only[yA];exact ih h
 | ptr ri hρ YV hu hg hl hq hc hb hr ih=>
  rename_i ow ks k b0 cs as bs u;intro q b h;simp only[ZA]at h;simp only[yA]
  by_cases mY:q=128 *k+127
  ·subst mY;exact⟨_,EA _ _ _⟩
  ·rw[if_neg mY]at h;obtain⟨row,h1⟩:=ih h;have:=(WD _ _ _ _ _ h).1;rw[tA _ _ _ _ mY,AB,EC _ _ _ _ _ (by omega)];exact⟨row,h1⟩
 | mv hv hl hq hc hr ih=>
  rename_i ow ks k cs as bs u;intro q b h;simp only[ZA]at h;simp only[yA];obtain⟨row,h1⟩:=ih h;have:=(WD _ _ _ _ _ h).1;rw[AB,EC _ _ _ _ _ (by omega)];exact⟨row,h1⟩
def EE.surj{ks:List WA}{k:Nat}{as:List V}{bs:List Nat}{u:Nat→Value}(he:EE w ρ bad g N0 ks k as bs u):∀b∈bs,∃q,ZA ks k bs q=some b:=by
 induction he with
 | nil=>intro b hb;simp at hb
 | plain hv hn hr ih=>intro b hb;obtain⟨q,h⟩:=ih b hb;exact⟨q,h⟩
 | mv hv hl hq hc hr ih=>intro b hb;obtain⟨q,h⟩:=ih b hb;exact⟨q,h⟩
 | ptr ri hρb YV hu hg hl hq hc D8 hr ih=>
  rename_i ow ks k b cs as bs u;intro b' aX
  rcases List.mem_cons.1 aX with rfl | aX
  ·exact⟨128 *k+127,by simp[ZA]⟩
  ·obtain⟨q,h⟩:=ih b' aX;refine⟨q,?_⟩;have:=(WD _ _ _ _ _ h).1;simp only[ZA];rw[if_neg (by omega)];exact h
def kR{bad2:Nat→Prop}{ri:RI}{t:TN}{l:List (El t)}(hr:KC w ρ bad ri (.arr t l))(hb:∀b,bad2 b→bad b)(ρ2:Nat→Option RI):KC w ρ2 bad2 ri (.arr t l):=by
 refine⟨hr.1,?_⟩
 rcases hr.2 with h | ⟨h1,he,h2,h3,h4,h5⟩
 ·exact .inl h
 ·refine .inr ⟨h1,he,h2,h3,h4,λi hi j hj=>?_⟩;obtain⟨u,h6,h7⟩:=h5 i hi j hj;exact⟨u,h6,(h7.noRef (λS=>aJ S t _ j) ρ2).mono (λ_ _ h=>h) (λ_ _ _=>rfl) λb h=> .inl (hb b h)⟩
end
end Go.D
namespace Go.D
variable [fA]
inductive Rk(m:Nat):V→Prop where
 | undef:Rk m .undef
 | bool (b:Bool):Rk m (.bool b)
 | int (k:IntKind) (n:Int):Rk m (.int k n)
 | str (s:List UInt8):Rk m (.str s)
 | nil:Rk m .nil
 | sl (t:TN) (l:List (El t)) (h:t.rank<m):Rk m (.sl t l)
 | ow (r:Nat):Rk m (.ow r)
 | bp (r off:Nat):Rk m (.bp r off)
 | agg (cs:List V) (h:∀c∈cs,Rk m c):Rk m (.agg cs)
 | tup (cs:List V) (h:∀c∈cs,Rk m c):Rk m (.tup cs)
 | nili:Rk m .nili
 | ifc (b:Bool):Rk m (.ifc b)
def zbR(m:Nat):V→Bool
 | .sl t _=>Nat.blt t.rank m
 | .bool _ | .int _ _ | .str _ | .nil | .undef | .nili | .ifc _=>true
 | _=>false
omit [fA]in
def Rk.of_low{m:Nat}{v:V}(h:zbR m v=true):Rk m v:=by
 cases v<;>simp only[zbR]at h<;>try (cases h;done)
 ·exact .undef
 ·exact .bool _
 ·exact .int _ _
 ·exact .str _
 ·exact .nil
 ·exact .sl _ _ (by simpa[Nat.blt_eq]using h)
 ·exact .nili
 ·exact .ifc _
omit [fA]in
def Rk.mono{m m':Nat}(hm:m≤m'){v:V}(h:Rk m v):Rk m' v:=by
 induction h with
 | undef=>exact .undef
 | bool=>exact .bool _
 | int=>exact .int _ _
 | str=>exact .str _
 | nil=>exact .nil
 | sl t l h=>exact .sl _ _ (Nat.lt_of_lt_of_le h hm)
 | ow=>exact .ow _
 | bp=>exact .bp _ _
 | agg cs h ih=>exact .agg _ ih
 | tup cs h ih=>exact .tup _ ih
 | nili=>exact .nili
 | ifc=>exact .ifc _
omit [fA]in
def zmo(t:TN)(x:El t):(enc t x).all (zbR t.rank)=true:=by cases t<;>rfl
omit [fA]in
def zeu(t:TN)(x:El t)(j:Nat):Rk t.rank ((enc t x).getD j .undef):=by
 rw[List.getD_eq_getElem?_getD]
 by_cases hj:j<(enc t x).length
 ·rw[List.getElem?_eq_getElem hj];exact .of_low (List.all_eq_true.1 (zmo t x) _ (List.getElem_mem hj))
 ·rw[List.getElem?_eq_none (by omega)];exact .undef
variable {w:World} {ρ:Nat→Option RI} {bad bad':Nat→Prop} {v:Value} {d:V}
def VR.widen(h:VR w ρ bad v d){m:Nat}(hd:Rk m d)(hb:∀b,bad' b→bad b∨(fA.base≤b∧∃t,dE w b t∧m≤t.rank)):VR w ρ bad' v d:=by
 induction h with
 | undef=>exact .undef _
 | bool=>exact .bool _
 | int k n h=>exact .int _ _ h
 | str s h=>exact .str _ h
 | nil=>exact .nil
 | slE t a cap h=>exact .slE _ _ _ h
 | slC t l b off cap u D8 hl hc he hu hv ih=>
  cases hd with | sl _ _ hr=>
  by_cases OZ:l.length=0
  ·obtain rfl:l=[]:=List.eq_nil_of_length_eq_zero OZ;exact .slE _ _ _ hc
  ·refine .slC t l b off cap u (λh=>?_) hl hc he hu λi hi j hj=>ih i hi j hj ((zeu t l[i] j).mono (Nat.le_of_lt hr))
   rcases hb b h with h | ⟨h1,t',h2,h3⟩
   ·exact D8 h
   ·rcases he (by rintro rfl;simp at OZ)with h4 | h4
    ·omega
    ·have:=h4.uniq h2;subst this;omega
 | ow r ri h hn hc YV=>exact .ow _ _ h hn hc YV
 | owN r ri ao h hn YV=>exact .owN _ _ _ h hn YV
 | ov=>cases hd
 | bp r off ri h YV=>exact .bp _ _ _ h YV
 | ep=>cases hd
 | fp=>cases hd
 | fn=>cases hd
 | agg cs vs hs hv ih=>cases hd with | agg _ hd=>exact .agg _ _ hs λj hj=>ih j hj (hd _ (List.getElem_mem hj))
 | tup cs vs hs hv ih=>cases hd with | tup _ hd=>exact .tup _ _ hs λj hj=>ih j hj (hd _ (List.getElem_mem hj))
 | nili=>exact .nili
 | ifc=>exact .ifc _ _
 | ifn=>exact .ifn
def VU(m:Nat):ND→Prop
 | .box cs=>∀c∈cs,Rk m c
 | .arr t _=>t.rank≤m
def KC.keepR{w':World}{ρ':Nat→Option RI}{ri:RI}{c:ND}{m:Nat}(hr:KC w ρ bad ri c)(hc:VU m c)
  (hw:ri.nl=false→w'.heap[ri.b]?=w.heap[ri.b]?)
  (hv:∀u d,Rk m d→VR w ρ bad u d→VR w' ρ' bad' u d):KC w' ρ' bad' ri c:=by
 cases c with
 | box cs=>
  refine⟨hr.1,λj hj=>?_⟩;obtain⟨h1,u,h2,h3⟩:=hr.2 j hj;have hb:=hw hr.1;exact⟨by rw[←h1];simp[World.frozen?,wA,hb],u,by rw[←h2];exact ZG hb,hv _ _ (hc _ (List.getElem_mem hj)) h3⟩
 | arr t l=>
  refine⟨hr.1,?_⟩
  rcases hr.2 with h | ⟨h0,he,h1,h2,h3,h4⟩
  ·exact .inl h
  ·have hb:=hw h0;refine .inr ⟨h0,he.same hb,h1,h2,λj hj=>?_,λi hi j hj=>?_⟩
   ·have:=h3 j hj;exact⟨by rw[←this.1];simp[World.frozen?,wA,hb],by rw[←this.2];congr 1;exact ZG hb⟩
   ·obtain⟨u,h5,h6⟩:=h4 i hi j hj;exact⟨u,by rw[←h5];exact ZG hb,hv _ _ ((zeu t _ j).mono hc) h6⟩
omit [fA]in
def zkx{m:Nat}{v:V}(h:XI v=true):Rk m v:=by
 cases v<;>simp[XI]at h
 ·exact .bool _
 ·exact .int _ _
 ·exact .str _
omit [fA]in
def YT(ow:List Nat)(base:Nat):∀(vs:List V) (p m m':Nat),oD ow p vs=some m→m≤m'→
  (∀v∈HA ow base p vs,Rk m' v)∧∀q t l,PA ow base (λ_=>none) p vs q=some ⟨.arr t l, .own⟩→t.rank≤m'
 | [],p,m,m',h,hm=>⟨λv hv=>by simp[HA]at hv,λq t l hq=>by simp[PA]at hq⟩
 | v :: vs,p,m,m',h,hm=>by
  cases v
  case sl t l=>
   simp only[oD]at h;split at h
   case h_2=>cases h
   rename_i m1 h1;cases h;have hm1:m1≤m':=Nat.le_trans (Nat.le_max_right _ _) hm;have z3:=Nat.le_trans (Nat.le_max_left _ _) hm;obtain⟨i1,i2⟩:=YT ow base vs (p+1) m1 m' h1 hm1;cases ho:ow.any (Nat.beq p)
   ·simp only[ho,cond_false]at z3;simp only[HA,PA,ho,cond_false];refine⟨λv hv=>?_,i2⟩
    rcases List.mem_cons.1 hv with rfl | hv
    ·exact .sl _ _ (by omega)
    ·exact i1 v hv
   ·simp only[ho,cond_true]at z3;simp only[HA,PA,ho,cond_true];refine⟨λv hv=>?_,λq t' l' hq=>?_⟩
    ·rcases List.mem_cons.1 hv with rfl | hv
     ·exact .ow _
     ·exact i1 v hv
    ·by_cases M0:q=base+p
     ·subst M0;rw[EA]at hq;cases hq;exact z3
     ·rw[tA _ _ _ _ M0]at hq;exact i2 q t' l' hq
  case nil=>
   simp only[oD]at h;obtain⟨i1,i2⟩:=YT ow base vs (p+1) m m' h hm;simp only[HA,PA];refine⟨λv hv=>?_,i2⟩
   rcases List.mem_cons.1 hv with rfl | hv
   ·exact .nil
   ·exact i1 v hv
  all_goals
   simp only[oD]at h
   first
   | (simp only[XI,cond_false]at h;cases h;done)
   | (simp only [XI,cond_true] at h
      obtain⟨i1,i2⟩:=YT ow base vs (p+1) m m' h hm;simp only[HA,PA];refine⟨λv hv=>?_,i2⟩
      rcases List.mem_cons.1 hv with rfl | hv
      ·exact zkx rfl
      ·exact i1 v hv)
omit [fA]in
def zev{m:Nat}:∀(sh:List (Bool×Nat)) (vs:List V),(∀v∈vs,Rk m v)→∀v∈pD sh vs,Rk m v
 | [],vs,h,v,hv=>by simp[pD]at hv
 | (ag,n) :: sh,vs,h,v,hv=>by
  simp only[pD]at hv
  rcases List.mem_cons.1 hv with rfl | hv
  ·cases ag
   ·cases vs with
    | nil=>exact .undef
    | cons x vs=>exact h x (by simp)
   ·exact .agg _ λc hc=>h c (List.mem_of_mem_take hc)
  ·exact zev sh (vs.drop n) (λv hv=>h v (List.mem_of_mem_drop hv)) v hv
omit [fA]in
def zmB{m:Nat}(sh:List (Bool×Nat))(vs:List V)(h:∀v∈vs,Rk m v):Rk m (rG sh vs):=by
 have:=zev sh vs h;unfold rG;split
 ·grind
 ·exact .tup _ this
omit [fA]in
def nT{m:Nat}:∀(ks:List WA) (as:List V) (bs:List Nat) (vs:List V) (r:Nat) (row:kA),(∀v∈vs,Rk m v)→lB ks as bs vs (λ_=>none) r=some row→VU m row.c
 | [],as,bs,vs,r,row,hv,h=>by cases as<;>simp[lB]at h
 | .plain :: ks,[],bs,vs,r,row,hv,h=>by simp[lB]at h
 | .plain :: ks,a :: as,bs,vs,r,row,hv,h=>by simp only[lB]at h;exact nT ks as bs vs r row hv h
 | .mv ow :: ks,[],bs,vs,r,row,hv,h=>by simp[lB]at h
 | .mv ow :: ks,a :: as,bs,vs,r,row,hv,h=>by simp only[lB]at h;exact nT ks as bs vs r row hv h
 | .ptr ow :: ks,[],bs,vs,r,row,hv,h=>by simp[lB]at h
 | .ptr ow :: ks,a :: as,[],vs,r,row,hv,h=>by cases a<;>simp[lB]at h
 | .ptr ow :: ks,a :: as,b :: bs,vs,r,row,hv,h=>by
  cases a<;>try (simp[lB]at h;done)
  simp only[lB]at h
  by_cases hr:r=b
  ·subst hr;rw[EA]at h;cases h;exact λc hc=>hv c (List.mem_of_mem_take hc)
  ·rw[tA _ _ _ _ hr]at h;exact nT ks as bs _ r row (λv G0=>hv v (List.mem_of_mem_drop G0)) h
omit [fA]in
def zmZ{ci:OA}{as:List V}{bs:List Nat}{base:Nat}{rs:List V}{m:Nat}(hm:oD ci.own 0 rs=some m)(hp:ci.pb=false):
  (∀r row,UC ci as bs base rs r=some row→VU m row.c)∧Rk m (QG ci base rs):=by
 obtain⟨h1,h2⟩:=YT ci.own base rs 0 m m hm (Nat.le_refl _);refine⟨λr row h=>?_,?_⟩
 ·unfold UC BD at h;rw[hp,cond_false,yI]at h;split at h
  ·rename_i x hx;cases h;exact nT _ _ _ _ _ _ (λv hv=>h1 v (List.mem_of_mem_drop hv)) hx
  ·obtain⟨t,l,h0,_,_⟩:=gD _ _ _ _ _ _ h;subst h0;exact h2 r t l h
 ·unfold QG;rw[hp,cond_false];exact zmB _ _ h1
end Go.D
namespace Go.D
variable [fA]
structure rE(C:Cx):Prop where
 ok:∀k ci,C.Φ k=some ci→cB C.P (k % 1048576) ci C.g
section
variable {C:Cx} {w0:World} {outer own:Nat→Prop} {ρ:Nat→Option RI} {st st':St} {a:Act} {w:World} {h:Nat→Option kA}
def NA.grow(hr:NA C w0 outer own ρ st a w){w1:World}(hx:Wx w w1)(ho:∀b,b<w.heap.size→w1.heap[b]?=w.heap[b]?):NA C w0 outer own ρ st a w1:=by
 have hv:∀u d,VR w ρ (jA outer ρ st.h) u d→VR w1 ρ (jA outer ρ st.h) u d:=λu d hu=>hu.mono (λ_ _ h=>h) (λb _ hb=>ho b hb) λb hb=> .inl hb;refine⟨⟨hr.heap.wx.trans hx,λb hb hn=>(ho b (Nat.lt_of_lt_of_le hb hr.heap.wx.size)).trans (hr.heap.old b hb hn),hr.heap.outLt,λr row h=>?_,hr.heap.inj⟩,λi=>hv _ _ (hr.slots i),hr.size,hr.defers,hr.glob⟩;obtain⟨ri,h1,h2,h3⟩:=hr.heap.rows r row h;exact⟨ri,h1,h2.keep (λhn=>ho _ (h3 hn).2) hv,λhn=>⟨(h3 hn).1,Nat.lt_of_lt_of_le (h3 hn).2 hx.size⟩⟩
inductive Sc:V→Prop where
 | undef:Sc .undef
 | bool (b:Bool):Sc (.bool b)
 | int (k:IntKind) (n:Int):Sc (.int k n)
 | str (s:List UInt8):Sc (.str s)
 | nil:Sc .nil
 | ow (r:Nat):Sc (.ow r)
 | agg (cs:List V) (h:∀c∈cs,Sc c):Sc (.agg cs)
 | tup (cs:List V) (h:∀c∈cs,Sc c):Sc (.tup cs)
def VR.sc{ρ':Nat→Option RI}{bad bad':Nat→Prop}{w':World}{v:Value}{d:V}(h:VR w ρ bad v d)(hs:Sc d)(hρ:∀r ri,ρ r=some ri→ρ' r=some ri):VR w' ρ' bad' v d:=by
 induction h with
 | undef=>exact .undef _
 | bool=>exact .bool _
 | int k n h=>exact .int _ _ h
 | str s h=>exact .str _ h
 | nil=>exact .nil
 | ow r ri h h1 h2 h3=>exact .ow _ _ (hρ _ _ h) h1 h2 h3
 | owN r ri ao h h1 h2=>exact .owN _ _ _ (hρ _ _ h) h1 h2
 | agg cs vs RV hv ih=>
  cases hs with
  | agg _ hs=>exact .agg _ _ RV λj hj=>ih j hj (hs _ (List.getElem_mem hj))
 | tup cs vs RV hv ih=>
  cases hs with
  | tup _ hs=>exact .tup _ _ RV λj hj=>ih j hj (hs _ (List.getElem_mem hj))
 | _=>cases hs
omit [fA]in
def PU{v:V}(h:XI v=true):Sc v:=by
 cases v<;>simp[XI]at h
 ·exact .bool _
 ·exact .int _ _
 ·exact .str _
omit [fA]in
def zna{t:TN}(h:t.flat=true)(x:El t)(j:Nat):Sc ((enc t x).getD j .undef):=by
 have E8:∀c∈enc t x,Sc c:=by
  cases t<;>simp[TN.flat]at h<;>intro c hc<;>simp[enc]at hc<;>(try subst hc)<;>(try exact PU rfl)<;>(repeat' (rcases hc with rfl | hc))<;>(try subst hc)<;>first | exact PU rfl | skip
  all_goals (simp[OT,VS,DT,LT]at hc;repeat' (rcases hc with rfl | hc))<;>(try subst hc)<;>exact PU rfl
 rw[List.getD_eq_getElem?_getD]
 by_cases hj:j<(enc t x).length
 ·rw[List.getElem?_eq_getElem hj];exact E8 _ (List.getElem_mem hj)
 ·rw[List.getElem?_eq_none (by omega)];exact .undef
omit [fA]in
def zen:∀(sh:List (Bool×Nat)) (vs:List V),(∀v∈vs,Sc v)→∀v∈pD sh vs,Sc v
 | [],vs,h,v,hv=>by simp[pD]at hv
 | (ag,n) :: sh,vs,h,v,hv=>by
  simp only[pD]at hv
  rcases List.mem_cons.1 hv with rfl | hv
  ·cases ag
   ·cases vs with
    | nil=>exact .undef
    | cons x vs=>exact h x (by simp)
   ·exact .agg _ λc hc=>h c (List.mem_of_mem_take hc)
  ·exact zen sh (vs.drop n) (λv hv=>h v (List.mem_of_mem_drop hv)) v hv
omit [fA]in
def zmE(sh:List (Bool×Nat))(vs:List V)(h:∀v∈vs,Sc v):Sc (rG sh vs):=by
 have:=zen sh vs h;unfold rG;split
 ·rename_i v hv;exact this v (by rw[hv];simp)
 ·exact .tup _ this
omit [fA]in
def zbb(ow:List Nat)(base:Nat):∀(vs:List V) (p:Nat),NP ow p vs=true→(∀v∈HA ow base p vs,Sc v)∧∀q t l,PA ow base (λ_=>none) p vs q=some ⟨.arr t l, .own⟩→t.flat=true
 | [],p,h=>⟨λv hv=>by simp[HA]at hv,λq t l hq=>by simp[PA]at hq⟩
 | v :: vs,p,h=>by
  cases v<;>simp only[NP,Bool.and_eq_true]at h
  case sl t l=>
   obtain⟨⟨h1,h2⟩,h3⟩:=h;obtain⟨i1,i2⟩:=zbb ow base vs (p+1) h3;simp only[HA,PA,h1,cond_true];refine⟨λv hv=>?_,λq t' l' hq=>?_⟩
   ·rcases List.mem_cons.1 hv with rfl | hv
    ·exact .ow _
    ·exact i1 v hv
   ·by_cases M0:q=base+p
    ·subst M0;rw[EA]at hq;cases hq;exact h2
    ·rw[tA _ _ _ _ M0]at hq;exact i2 q t' l' hq
  all_goals
   obtain⟨h1,h3⟩:=h;obtain⟨i1,i2⟩:=zbb ow base vs (p+1) h3;simp only[HA,PA];refine⟨λv hv=>?_,i2⟩
   rcases List.mem_cons.1 hv with rfl | hv
   ·exact PU h1
   ·exact i1 v hv
omit [fA]in
def zcu:∀(ks:List WA) (as:List V) (bs:List Nat) (vs:List V) (h:Nat→Option kA),ks.all WA.isPlain=true→lB ks as bs vs h=h
 | [],as,bs,vs,h,hp=>by cases as<;>rfl
 | .plain :: ks,[],bs,vs,h,hp=>rfl
 | .plain :: ks,a :: as,bs,vs,h,hp=>by
  simp only[List.all_cons,Bool.and_eq_true]at hp;show lB ks as bs vs h=h
  exact zcu ks as bs vs h hp.2
 | .ptr _ :: ks,as,bs,vs,h,hp=>by simp[WA.isPlain]at hp
 | .mv _ :: ks,as,bs,vs,h,hp=>by simp[WA.isPlain]at hp
omit [fA]in
def zc2:∀(ks:List WA) (k:Nat) (as:List V),ks.all WA.isPlain=true→yA ks k as=λ_=>none
 | [],k,as,h=>by cases as<;>rfl
 | .plain :: ks,k,[],h=>rfl
 | .plain :: ks,k,a :: as,h=>by
  simp only[List.all_cons,Bool.and_eq_true]at h;show yA ks (k+1) as=_
  exact zc2 ks (k+1) as h.2
 | .ptr _ :: ks,k,as,h=>by simp[WA.isPlain]at h
 | .mv _ :: ks,k,as,h=>by simp[WA.isPlain]at h
omit [fA]in
def zd0(h:Nat→Option kA):eE (mK h) h:=λr row' hr=>by
 unfold mK at hr;split at hr
 ·rename_i c h1;cases hr;exact⟨_,h1,rfl,λ_=>rfl⟩
 ·exact⟨row',hr,rfl,id⟩
omit [fA]in
def zj7(h:Nat→Option kA):eE h (mK h):=λr row hr=>by
 unfold mK;obtain⟨c,m⟩:=row;cases m
 ·exact⟨_,by rw[hr],rfl,λ_=>rfl⟩
 ·exact⟨_,by rw[hr],rfl,λh=>h⟩
 ·exact⟨⟨c, .own⟩,by rw[hr],rfl,λ_=>rfl⟩
def NA.less(hr:NA C w0 outer own ρ st a w){h':Nat→Option kA}(hl:eE h' st.h):NA C w0 outer own ρ {st with h:=h'} a w:=
 ⟨(hr.heap.less hl).1,λi=>(hr.heap.less hl).2 _ _ (hr.slots i),hr.size,hr.defers,hr.glob⟩
variable {o:Oper} {i:Nat} (hr:NA C w0 outer own ρ st a w)
include hr
def zeP(yX:∃N,∀r,N≤r→ρ r=none)(qW:∀q,q<128→ρ (i+q)=none)(f:Nat)(args:Array Value)(as:List V)(RV:args.size=as.length)
  (iW:∀j (hj:j<as.length),VR w ρ (jA outer ρ st.h) (args.getD j undef) as[j]) (TV:(execOp a.eval o).run C.P w=(callFunc f args).run C.P w)
  {ci:OA} (m7:cB C.P f ci C.g) {as':List V} {h':Nat→Option kA} {bs:List Nat} (JY:CB ci.ks as st.h=some (as',h',bs)) {x:ci.A} (uY:ci.dA as'=some x) {r:ci.R} (hF:ci.F x=some r)
  (cW:(ci.eR r).length≤128) (hk:IA C o.dst {st with h:=xF ci as' bs i (ci.eR r) (eI ci (ci.eR r) st.h h')} (QG ci i (ci.eR r)) some=some st'):
  RB C.P o a w (JB C w0 outer own i ρ st'):=by
 obtain⟨N,hN⟩:=yX
 -- the arguments
 have F8:∀q,N≤q→st.h q=none:=λq hq=>by
  cases hg:st.h q with
  | none=>rfl
  | some row=>obtain⟨ri,h3,_⟩:=hr.heap.rows _ _ hg;rw[hN q hq]at h3;cases h3
 obtain⟨ρ',g',c1,c2,c3,c4,c5,c6,c7,c8,c9,JE,YE⟩:=dT N ci.ks as st.h h' as' bs 0 ρ st.h (λj=>args.getD j undef) JY hr.heap iW (λ_ _ h=>h) (λr hr=>hN r (by omega)) F8;have UV:=XN _ _ _ _ JY;simp only at UV;let φ:Nat→Nat:=λq=>(ZA ci.ks 0 bs q).getD (N+q);let E:=yA ci.ks 0 as';let ρc:Nat→Option RI:=λq=>if(E q).isSome=true then ρ' (φ q)else none
 let ownc:Nat→Prop:=λb=>∃q row ri,E q=some row∧ρc q=some ri∧ri.nl=false∧ri.b=b;let outc:Nat→Prop:=jA outer ρ' h'
 have G8:∀b∈bs,b<N:=λb hb=>by
  rcases Nat.lt_or_ge b N with h3 | h3
  ·exact h3
  ·exact absurd (F8 b h3) (c8 b hb).2
 have hφbox:∀q b,ZA ci.ks 0 bs q=some b→φ q=b:=λq b h=>by simp[φ,h]
 have hφarr:∀q,q % 128≠127→φ q=N+q:=λq hq=>by
  have:ZA ci.ks 0 bs q=none:=by
   cases hb:ZA ci.ks 0 bs q with
   | none=>rfl
   | some b=>exact absurd (WD _ _ _ _ _ hb).2.1 hq
  simp[φ,this]
 -- the rows of the entry
 have hE:∀q row,E q=some row→∃row' ri,g' (φ q)=some row'∧row'.m= .own∧h' (φ q)=none∧ρc q=some ri∧ρ' (φ q)=some ri:=λq row hq=>by
  obtain⟨h1,h2,h3⟩:=c7.row hq;have NV:(E q).isSome=true:=by show(yA ci.ks 0 as' q).isSome=true;have h0:yA ci.ks 0 as' q=some row:=hq;rw[h0];rfl
  rcases h3 with⟨b,ow,k',cs,ri,e1,e2,e3,e4,e5,e6,e7,e8⟩ | ⟨t,l,e1,e2,e3⟩
  ·refine⟨_,ri,by rw[hφbox q b e1];exact e6,rfl,by rw[hφbox q b e1];exact(c8 b (WD _ _ _ _ _ e1).2.2).1,?_,by rw[hφbox q b e1];exact e7⟩;simp only[ρc,NV,if_true,hφbox q b e1,e7]
  ·obtain⟨ri,f1,_⟩:=c1.rows _ _ e2;subst e1;refine⟨_,ri,by rw[hφarr q e3];exact e2,rfl,by rw[hφarr q e3];exact c3 _ (F8 _ (by omega)),?_,by rw[hφarr q e3];exact f1⟩;simp only[ρc,NV,if_true,hφarr q e3,f1]
 have V1:∀b,ownc b→∃q row ri,g' q=some row∧row.m= .own∧h' q=none∧ρ' q=some ri∧ri.nl=false∧ri.b=b:=by
  rintro b ⟨q,row,ri,h1,h2,h3,h4⟩;obtain⟨row',ri',f1,f2,f3,f4,f5⟩:=hE q row h1;rw[h2]at f4;cases f4;exact⟨_,row',ri,f1,f2,f3,f5,h3,h4⟩
 have PV:∀q row,h' q=some row→∃ri,ρ' q=some ri∧(ri.nl=false→¬ownc ri.b∧ri.b<w.heap.size∧(¬outer ri.b∧(row.m.isRo=false→w0.heap.size≤ri.b∨own ri.b))):=λq row hq=>by
  obtain⟨ri,f1,_,f2⟩:=c1.rows q row (c2 q row hq);refine⟨ri,f1,λhn=>⟨λho=>?_,(f2 hn).2,(f2 hn).1⟩⟩;obtain⟨q',row',ri',e1,e2,e3,e4,e5,e6⟩:=V1 _ ho;have:=c1.inj q q' row row' ri ri' (c2 q row hq) e1 f1 e4 hn e5 e6.symm;subst this;rw[hq]at e3;cases e3
 have jX:∀b,ownc b→b<w.heap.size∧(w0.heap.size≤b∨own b):=λb hb=>by
  obtain⟨q',row',ri',e1,e2,e3,e4,e5,e6⟩:=V1 _ hb;obtain⟨ri2,f1,_,f2⟩:=c1.rows q' row' e1;rw[e4]at f1;cases f1;rw[←e6];exact⟨(f2 e5).2,(f2 e5).1.2 (by rw[e2];rfl)⟩
 have QW:∀b,outc b→b<w.heap.size∧¬ownc b:=by
  rintro b (hb | ⟨q,row,ri,f1,f2,f3,f4,f5⟩)
  ·obtain⟨g1,g2⟩:=c1.outLt b hb;refine⟨Nat.lt_of_lt_of_le g1 c1.wx.size,λho=>?_⟩
   rcases(jX b ho).2 with h3 | h3
   ·omega
   ·exact g2 h3
  ·obtain⟨ri',k1,k2⟩:=PV q row f1;rw[f3]at k1;cases k1;rw[←f5];exact⟨(k2 f4).2.1,(k2 f4).1⟩
 have dZ:∀b,jA outc ρc E b→jA outer ρ' g' b:=by
  rintro b (hb | ⟨q,row,ri,f1,f2,f3,f4,f5⟩)
  ·exact hb.mono λq row h1 h2=>⟨row,c2 q row h1,h2⟩
  ·obtain⟨row',ri',k1,k2,k3,k4,k5⟩:=hE q row f1;rw[f3]at k4;cases k4;exact .inr ⟨_,row',ri,k1,by rw[k2];rfl,k5,f4,f5⟩
 have hρcbox:∀q b,ZA ci.ks 0 bs q=some b→q<128 *ci.ks.length→ρc q=ρ' b:=λq b h _=>by
  obtain⟨row,h0⟩:=c7.found h;have NV:(E q).isSome=true:=by show(yA ci.ks 0 as' q).isSome=true;rw[h0];rfl
  simp only[ρc,NV,if_true,hφbox q b h]
 have eZ:∀q b,ZA ci.ks 0 bs q=some b→q<128 *ci.ks.length:=λq b h=>by have:=mT _ _ _ _ _ h;omega
 have W1:VA w outc ownc ρc E w:=by
  refine c1.sub φ (Wx.refl _) (λ_ _ _=>rfl) QW (λq row hq=>?_) (λq q' row row' h1 h2 h3=>?_)
  ·obtain⟨h1,h2,h3⟩:=c7.row hq;obtain⟨row',ri,f1,f2,f3,f4,f5⟩:=hE q row hq;refine⟨row',ri,f1,f4,f5,?_,λhn=>⟨λho=>(QW _ ho).2 ⟨q,row,ri,hq,f4,hn,rfl⟩,λ_=> .inr ⟨q,row,ri,hq,f4,hn,rfl⟩⟩⟩;obtain⟨ri2,k1,k2,_⟩:=c1.rows _ _ f1;rw[f5]at k1;cases k1
   rcases h3 with⟨b,ow,k',cs,ri',e1,e2,e3,e4,e5,e6,e7,e8,e9,e10,e11,e12⟩ | ⟨t,l,e1,e2,e3⟩
   ·rw[hφbox q b e1,e6]at f1;cases f1;subst e5;refine⟨k2.1,λj hj=>?_⟩;rw[UD]at hj;obtain⟨g1,x,g2,g3⟩:=k2.2 j (by rw[UD];exact hj);refine⟨g1,x,g2,?_⟩
    have:=LO (w:=w) (ρ:=ρ') (ρ2:=ρc) (bad:=jA outer ρ' g') (bad2:=jA outc ρc E) ow (N+128 *k') (128 *k') cs 0 (λj=>(w.cell? (wA ri.b j)).getD undef) (λq' _ h4 h5 h6=>by
      obtain⟨t,l,h6⟩:=h6;have h0:=e12 q' t l (by simpa using h6) h5;have NV:(E (128 *k'+q')).isSome=true:=by show(yA ci.ks 0 as' (128 *k'+q')).isSome=true;rw[h0];rfl
      simp only[ρc,NV,if_true];rw[hφarr _ (by omega)];congr 1;omega) e10 dZ (λj hj=>by
      obtain⟨_,x,g2,g3⟩:=k2.2 j hj;rw[g2];exact g3) j (by rw[UD];exact hj)
    rw[g2]at this;exact this
   ·subst e1;rw[hφarr q e3,e2]at f1;cases f1;exact kR k2 dZ ρc
  ·obtain⟨_,_,h4⟩:=c7.row h1;obtain⟨_,_,h5⟩:=c7.row h2
   rcases h4 with⟨b,_,_,_,_,e1,_⟩ | ⟨_,_,_,_,e3⟩<;>rcases h5 with⟨b',_,_,_,_,e1',_⟩ | ⟨_,_,_,_,e3'⟩
   ·rw[hφbox q b e1,hφbox q' b' e1']at h3;subst h3;exact gP _ _ _ _ _ _ c9 e1 e1'
   ·rw[hφbox q b e1,hφarr q' e3']at h3;have:=G8 b (WD _ _ _ _ _ e1).2.2;omega
   ·rw[hφbox q' b' e1',hφarr q e3]at h3;have:=G8 b' (WD _ _ _ _ _ e1').2.2;omega
   ·rw[hφarr q e3,hφarr q' e3']at h3;omega
 obtain⟨PZ,hv2⟩:=c7.vals dZ (λq b h=>hρcbox q b h (eZ q b h)) λq row h h3=>by
  have NV:(E q).isSome=true:=by show(yA ci.ks 0 as' q).isSome=true;rw[h];rfl
  simp only[ρc,NV,if_true,hφarr q h3]
 have GX:∀q,ρ q≠none→Out i 128 q:=λq hq h3=>hq (by
  have:=qW (q - i) (by omega);rwa [show i+(q - i)=q by omega]at this)
 have hsthρ:∀q row,st.h q=some row→ρ q≠none:=λq row hq=>by
  obtain⟨ri,h3,_⟩:=hr.heap.rows _ _ hq;rw[h3];simp
 have hbsρ:∀b∈bs,ρ b≠none:=λb hb=>by
  cases hq:st.h b with
  | none=>exact absurd hq (c8 b hb).2
  | some row=>exact hsthρ b row hq
 have G:=m7 w args as' outc ownc ρc x r i bs (by rw[RV,JE]) PZ W1 hv2 (λq hq=>by simp only[ρc];rw[if_neg];show ¬(yA ci.ks 0 as' q).isSome=true;rw[hq];simp) c9 (λb hb=>GX b (hbsρ b hb)) uY hF cW
  ⟨C.g.stay w0 w (λc hc=>hr.heap.old c (Nat.lt_of_lt_of_le hc (C.g.lt _ hr.glob.p)) (hr.glob.own c hc)) hr.glob.p,λc hc ho=>by
   have:=Nat.lt_of_lt_of_le hc (C.g.lt _ hr.glob.p)
   rcases(jX c ho).2 with h | h
   ·omega
   ·exact hr.glob.own c hc h,Nat.le_trans hr.glob.base hr.heap.wx.size,λc hc ho=>by
   have:=Nat.lt_of_lt_of_le hc hr.glob.base
   rcases(jX c ho).2 with h | h
   ·omega
   ·exact hr.glob.low c hc h⟩
 -- a call that leaves all as it is
 cases vY:iJ ci (ci.eR r)
 case true=>
  simp only[eI,vY,cond_true]at hk;simp only[iJ,Bool.and_eq_true,Bool.not_eq_true']at vY;obtain⟨⟨L0,GY⟩,hsc⟩:=vY;have hE0:E=λ_=>none:=zc2 _ _ _ GY
  have YW:∀b,¬ownc b:=by
   rintro b ⟨q,row,ri,h1,_⟩;rw[hE0]at h1;cases h1
  obtain⟨s1,s2⟩:=zbb ci.own i (ci.eR r) 0 hsc
  have RW:Sc (QG ci i (ci.eR r)):=by
   unfold QG;rw[L0,cond_false];exact zmE _ _ s1
  have H8:UC ci as' bs i (ci.eR r)=PA ci.own i (λ_=>none) 0 (ci.eR r):=by
   unfold UC BD;rw[L0,cond_false,zcu _ _ _ _ _ GY]
  have fin0:∀v w1,(∃ρx,VA w outc ownc ρx (UC ci as' bs i (ci.eR r)) w1∧
    VR w1 ρx (jA outc ρx (UC ci as' bs i (ci.eR r))) v (QG ci i (ci.eR r))∧
    (∀q b,ZA ci.ks 0 bs q=some b→ρx b=ρc q)∧(∀r,ρx r≠none→(i≤r∧r<i+128)∨r∈bs))→JB C w0 outer own i ρ st' (a.put o.dst v) w1:=by
   rintro v w1 ⟨ρx,hX,hV,_,X1⟩;have hg:=hr.grow hX.wx λb hb=>hX.old b hb (YW b)
   have E3:∀q,xF ci as' bs i (ci.eR r) st.h q=match UC ci as' bs i (ci.eR r) q with | some x=>some x | none=>st.h q:=λq=>by
    rw[cK]
    all_goals (cases UC ci as' bs i (ci.eR r) q<;>rfl)
   generalize n7:UC ci as' bs i (ci.eR r)=X at hX hV E3 H8;generalize xF ci as' bs i (ci.eR r) st.h=KW at hk E3;let ρn:Nat→Option RI:=λq=>if i≤q∧q<i+128 then ρx q else ρ q
   have GX:∀q,ρ q≠none→¬(i≤q∧q<i+128):=λq hq h3=>hq (by
    have:=qW (q - i) (by omega);rwa [show i+(q - i)=q by omega]at this)
   have I8:∀q row,X q=some row→i≤q∧q<i+128:=λq row hq=>by
    rw[H8]at hq;obtain⟨_,_,_,e1,e2⟩:=gD _ _ _ _ _ _ hq;omega
   have hρo:∀q ri,ρ q=some ri→ρn q=some ri:=λq ri hq=>by
    simp only[ρn,GX q (by rw[hq];simp),if_false];exact hq
   have hρX:∀q row ri,X q=some row→ρx q=some ri→ρn q=some ri:=λq row ri hq h3=>by
    simp only[ρn,I8 q row hq,and_self,if_true];exact h3
   have rW:∀q row,X q=some row→∃ri t l,row=⟨.arr t l, .own⟩∧t.flat=true∧ρx q=some ri∧KC w1 ρx (jA outc ρx X) ri (.arr t l)∧(ri.nl=false→w.heap.size≤ri.b∧ri.b<w1.heap.size):=λq row hq=>by
    obtain⟨ri,k1,k2,k3⟩:=hX.rows q row hq;have vX:=hq;rw[H8]at vX;obtain⟨t,l,e0,_,_⟩:=gD _ _ _ _ _ _ vX;subst e0;refine⟨ri,t,l,rfl,s2 q t l vX,k1,k2,λhn=>⟨?_,(k3 hn).2⟩⟩
    rcases(k3 hn).1.2 rfl with h | h
    ·exact h
    ·exact absurd h (YW _)
   have jW:∀q row,KW q=some row→X q=some row∨(X q=none∧st.h q=some row):=λq row hq=>by
    rw[E3]at hq;cases hx:X q with
    | some y=>rw[hx]at hq;exact .inl hq
    | none=>rw[hx]at hq;exact .inr ⟨rfl,hq⟩
   have O0:∀q row ri,st.h q=some row→ρ q=some ri→ri.nl=false→ri.b<w.heap.size:=λq row ri hq h3 hn=>by
    obtain⟨ri',k1,_,k3⟩:=hr.heap.rows q row hq;rw[h3]at k1;cases k1;exact(k3 hn).2
   have hstρ:∀q row,st.h q=some row→∃ri,ρ q=some ri:=λq row hq=>by
    obtain⟨ri,k1,_⟩:=hr.heap.rows q row hq;exact⟨ri,k1⟩
   have kX:∀b,jA outer ρn KW b→jA outer ρ st.h b∨w.heap.size≤b:=by
    rintro b (hb | ⟨q,row,ri,f1,f2,f3,f4,f5⟩)
    ·exact .inl (.inl hb)
    ·rcases jW q row f1 with h3 | ⟨_,h3⟩
     ·obtain⟨ri',t,l,_,_,k1,_,k2⟩:=rW q row h3;rw[hρX q row ri' h3 k1]at f3;cases f3;exact .inr (by rw[←f5];exact(k2 f4).1)
     ·obtain⟨ri',k1⟩:=hstρ q row h3;rw[hρo q ri' k1]at f3;cases f3;exact .inl (.inr ⟨q,row,_,h3,f2,k1,f4,f5⟩)
   have keepAll:∀u d,VR w ρ (jA outer ρ st.h) u d→VR w1 ρn (jA outer ρn KW) u d:=λu d hu=>
    hu.mono hρo (λb _ NV=>hX.old b NV (YW b)) kX
   have fZ:VA w0 outer own ρn KW w1:=by
    refine⟨hg.heap.wx,hg.heap.old,hg.heap.outLt,λq row hq=>?_,λq q' row row' qi qi' h1 h2 h3 h4 h5 h6 h7=>?_⟩
    ·rcases jW q row hq with h3 | ⟨_,h3⟩
     ·obtain⟨ri,t,l,rfl,ht,k1,k2,k3⟩:=rW q row h3;refine⟨ri,hρX q _ ri h3 k1,⟨k2.1,?_⟩,λhn=>⟨⟨λho=>?_,λ_=> .inl (Nat.le_trans hr.heap.wx.size (k3 hn).1)⟩,(k3 hn).2⟩⟩
      ·rcases k2.2 with h4 | ⟨e1,ee,e2,e3,e4,e5⟩
       ·exact .inl h4
       ·refine .inr ⟨e1,ee,e2,e3,e4,λa ha j hj=>?_⟩;obtain⟨u,f1,f2⟩:=e5 a ha j hj;exact⟨u,f1,f2.noRef (λS=>aJ S t _ j) ρn |>.sc (zna ht _ j) λ_ _ h=>h⟩
      ·have:=(hr.heap.outLt _ ho).1;have:=hr.heap.wx.size;have:=(k3 hn).1;omega
     ·obtain⟨ri,k1,k2,k3⟩:=hr.heap.rows q row h3;exact⟨ri,hρo q ri k1,k2.keep (λhn=>hX.old _ (k3 hn).2 (YW _)) keepAll,λhn=>⟨(k3 hn).1,Nat.lt_of_lt_of_le (k3 hn).2 hX.wx.size⟩⟩
    ·rcases jW q row h1 with k1 | ⟨_,k1⟩<;>rcases jW q' row' h2 with k2 | ⟨_,k2⟩
     ·obtain⟨r1,_,_,_,_,e1,_⟩:=rW q row k1;obtain⟨r2,_,_,_,_,e2,_⟩:=rW q' row' k2;rw[hρX q row r1 k1 e1]at h3;cases h3;rw[hρX q' row' r2 k2 e2]at h4;cases h4;exact hX.inj q q' row row' _ _ k1 k2 e1 e2 h5 h6 h7
     ·obtain⟨r1,_,_,_,_,e1,_,e2⟩:=rW q row k1;obtain⟨r2,e3⟩:=hstρ q' row' k2;rw[hρX q row r1 k1 e1]at h3;cases h3;rw[hρo q' r2 e3]at h4;cases h4;have h8:=(e2 h5).1;have h9:=O0 q' row' _ k2 e3 h6;omega
     ·obtain⟨r1,_,_,_,_,e1,_,e2⟩:=rW q' row' k2;obtain⟨r2,e3⟩:=hstρ q row k1;rw[hρX q' row' r1 k2 e1]at h4;cases h4;rw[hρo q r2 e3]at h3;cases h3;have h8:=(e2 h6).1;have h9:=O0 q row _ k1 e3 h5;omega
     ·obtain⟨r1,e1⟩:=hstρ q row k1;obtain⟨r2,e2⟩:=hstρ q' row' k2;rw[hρo q r1 e1]at h3;cases h3;rw[hρo q' r2 e2]at h4;cases h4;exact hr.heap.inj q q' row row' _ _ k1 k2 e1 e2 h5 h6 h7
   have WV:NA C w0 outer own ρn {st with h:=KW} a w1:=hr.turn fZ keepAll;refine⟨ρn,(WV.put (hV.sc RW λq ri hq=>?_) hk).1,λq hq=>?_,hρo⟩
   ·have:i≤q∧q<i+128:=by
     rcases X1 q (by rw[hq];simp)with h | h
     ·exact h
     ·exact absurd h (by
       have:bs=[]:=by
        cases bs with
        | nil=>rfl
        | cons b bs'=>
         obtain⟨q',vX⟩:=c7.surj b (by simp);obtain⟨row,JV⟩:=c7.found vX;have:yA ci.ks 0 as'=λ_=>none:=hE0;rw[this]at JV;cases JV
       rw[this];simp)
    simp only[ρn,this,and_self,if_true];exact hq
   ·simp only[ρn,hq,if_false]
  intro next Q hn;unfold Oper.wp;rw[TV]
  rcases G with⟨G1,G2⟩ | ⟨v,w1,G1,G2⟩
  ·rw[G1,Oper.upon_enter];refine Calls.mono' G2 ?_;rintro e w1 ⟨v,rfl,h3⟩;exact hn _ _ (fin0 v w1 h3)
  ·rw[G1,Oper.upon_value];exact hn _ _ (fin0 v w1 G2)
 simp only[eI,vY,cond_false]at hk
 -- rows that stay the caller's own
 have F3:∀hb,(bif ci.pb then h' else match oD ci.own 0 (ci.eR r)with | some m=>lI m st.h h' | none=>h')=hb→
   ∀q row,hb q=some row→h' q=some row∨(∃t l m c,ci.pb=false∧oD ci.own 0 (ci.eR r)=some m∧m≤t.rank∧row=⟨.arr t l, .own⟩∧st.h q=some row∧h' q=some ⟨c, .ro⟩):=by
  rintro hb rfl q row hq;cases hp:ci.pb
  ·rw[hp,cond_false]at hq;cases hm:oD ci.own 0 (ci.eR r)with
   | none=>rw[hm]at hq;exact .inl hq
   | some m=>
    rw[hm]at hq;have hq:lI m st.h h' q=some row:=hq;unfold lI at hq;split at hq
    ·rename_i t l c h3 h4;cases Y1:Nat.ble m t.rank
     ·rw[Y1,cond_false]at hq;exact .inl (by rw[h4];exact hq)
     ·rw[Y1,cond_true]at hq;cases hq;exact .inr ⟨t,l,m,c,rfl,rfl,Nat.le_of_ble_eq_true Y1,rfl,h3,h4⟩
    ·exact .inl hq
  ·rw[hp,cond_true]at hq;exact .inl hq
 generalize hbe:(bif ci.pb then h' else match oD ci.own 0 (ci.eR r)with | some m=>lI m st.h h' | none=>h')=hb at hk
 replace F3:=F3 hb hbe
 clear hbe
 -- behind the call
 have oB:∀v w1,(∃ρx,VA w outc ownc ρx (UC ci as' bs i (ci.eR r)) w1∧
   VR w1 ρx (jA outc ρx (UC ci as' bs i (ci.eR r))) v (QG ci i (ci.eR r))∧
   (∀q b,ZA ci.ks 0 bs q=some b→ρx b=ρc q)∧(∀r,ρx r≠none→(i≤r∧r<i+128)∨r∈bs))→JB C w0 outer own i ρ st' (a.put o.dst v) w1:=by
  rintro v w1 ⟨ρx,hX,hV,LW,X1⟩;generalize n7:UC ci as' bs i (ci.eR r)=X at hX hV
  have hrk:∀m,ci.pb=false→oD ci.own 0 (ci.eR r)=some m→(∀q row,X q=some row→VU m row.c)∧Rk m (QG ci i (ci.eR r)):=λm hp hm=>by
   have:=zmZ (as:=as') (bs:=bs) (base:=i) hm hp;rw[n7]at this;exact this
  have E3:∀q,xF ci as' bs i (ci.eR r) hb q=match X q with | some x=>some x | none=>hb q:=λq=>by
   rw[cK,n7]
   all_goals (cases X q<;>rfl)
  generalize MX:xF ci as' bs i (ci.eR r) hb=KW at hk E3;let ρn:Nat→Option RI:=λq=>if i≤q∧q<i+128 then ρx q else ρ q
  have hρbs:∀b∈bs,ρx b=ρ b:=λb hb=>by
   obtain⟨q,hq⟩:=c7.surj b hb;rw[LW q b hq,hρcbox q b hq (eZ q b hq),YE b (G8 b hb)]
  have hρx:∀q,ρx q≠none→ρn q=ρx q:=λq hq=>by
   by_cases lW:i≤q∧q<i+128
   ·simp only[ρn,lW,and_self,if_true]
   ·simp only[ρn,lW,if_false]
    rcases X1 q hq with h3 | h3
    ·exact absurd h3 lW
    ·exact(hρbs q h3).symm
  have hρo:∀q,ρ q≠none→ρn q=ρ q:=λq hq=>by
   have:¬(i≤q∧q<i+128):=GX q hq;simp only[ρn,this,if_false]
  have hρ':∀q ri,ρ q≠none→ρ' q=some ri→ρ q=some ri:=λq ri hq h3=>by
   cases h4:ρ q with
   | none=>exact absurd h4 hq
   | some ri'=>have:=c5 _ _ h4;rw[h3]at this;rw[this]
  have jW:∀q row,KW q=some row→X q=some row∨(X q=none∧hb q=some row):=λq row hq=>by
   rw[E3]at hq;cases hx:X q with
   | some y=>rw[hx]at hq;exact .inl hq
   | none=>rw[hx]at hq;exact .inr ⟨rfl,hq⟩
  have hh'ρ:∀q row,h' q=some row→ρ q≠none:=λq row hq=>by
   obtain⟨row',h3,_⟩:=UV q row hq;exact hsthρ q row' h3
  have hbρ:∀q row,hb q=some row→ρ q≠none:=λq row hq=>by
   rcases F3 q row hq with h3 | ⟨_,_,_,_,_,_,_,_,_,h3⟩
   ·exact hh'ρ q row h3
   ·exact hh'ρ q _ h3
  have hXρ:∀q row,X q=some row→ρn q=ρx q:=λq row hq=>by
   obtain⟨ri,h3,_⟩:=hX.rows q row hq;exact hρx q (by rw[h3];simp)
  -- the OB of rows that stay the caller's own
  let Rest:Nat→Prop:=λb=>∃q t l m c ri,ci.pb=false∧oD ci.own 0 (ci.eR r)=some m∧m≤t.rank∧st.h q=some ⟨.arr t l, .own⟩∧h' q=some ⟨c, .ro⟩∧ρ q=some ri∧ri.nl=false∧ri.b=b
  have kX:∀b,jA outer ρn KW b→jA outc ρx X b∨Rest b:=by
   rintro b (aX | ⟨q,row,ri,f1,f2,f3,f4,f5⟩)
   ·exact .inl (.inl (.inl aX))
   ·rcases jW q row f1 with h3 | ⟨_,h3⟩
    ·rw[hXρ q row h3]at f3;exact .inl (.inr ⟨q,row,ri,h3,f2,f3,f4,f5⟩)
    ·rw[hρo q (hbρ q row h3)]at f3
     rcases F3 q row h3 with h3 | ⟨t,l,m,c,e1,e2,e3,rfl,e5,e6⟩
     ·exact .inl (.inl (.inr ⟨q,row,ri,h3,f2,c5 _ _ f3,f4,f5⟩))
     ·exact .inr ⟨q,t,l,m,c,ri,e1,e2,e3,e5,e6,f3,f4,f5⟩
  have wY:∀b,ownc b→jA outer ρ' g' b:=λb hb=>by
   obtain⟨q,row,ri,e1,e2,e3,e4,e5,e6⟩:=V1 b hb;exact .inr ⟨q,row,ri,e1,by rw[e2];rfl,e4,e5,e6⟩
  have xY:∀b,jA outc ρx X b→jA outer ρ' g' b∨w.heap.size≤b:=by
   rintro b (hb | ⟨q,row,ri,f1,f2,f3,f4,f5⟩)
   ·exact .inl (hb.mono λq row h1 h2=>⟨row,c2 q row h1,h2⟩)
   ·obtain⟨ri',k1,_,k2⟩:=hX.rows q row f1;rw[f3]at k1;cases k1
    rcases(k2 f4).1.2 f2 with h3 | h3
    ·exact .inr (by omega)
    ·exact .inl (by rw[←f5];exact wY _ h3)
  -- what the arguments' taking keeps clear of was kept clear of before
  have P0:∀b,BN w b→jA outer ρ' g' b→jA outer ρ st.h b:=by
   rintro b ⟨o,u,hu⟩ aX;refine Classical.byContradiction λhn=>?_
   have h1:VR w ρ (jA outer ρ st.h) (.pointer (some (wA b (o+0)))) (.fp [.undef] 0):=
    .fp [.undef] 0 b o (fun _ => u) (by simp) hn (fun j hj => by have : j = 0 := by simpa using hj
                                                                 subst this;exact hu) λj hj=>by
     have:j=0:=by simpa using hj
     subst this;exact .undef _
   have h2:=c6 _ _ h1;generalize hp:Value.pointer (some (wA b (o+0)))=pv at h2;cases h2 with
   | fp _ _ b2 o2 u2 _ SZ hu2 _=>
    have:b=b2:=by injection hp with hp;injection hp with hp;exact congrArg Addr.block hp
    subst this;exact SZ aX
  have Q0:∀b,Rest b→jA outer ρ st.h b∧b<w.heap.size∧¬ownc b∧fA.base≤b∧∃t m,dE w b t∧ci.pb=false∧oD ci.own 0 (ci.eR r)=some m∧m≤t.rank:=by
   rintro b ⟨q,t,l,m,c,ri,e1,e2,e3,e4,e5,e6,e7,e8⟩;obtain⟨ri2,k1,k2,k3⟩:=hr.heap.rows q _ e4;rw[e6]at k1;cases k1;obtain⟨ri3,n1,n2⟩:=PV q _ e5;have:=c5 _ _ e6;rw[n1]at this;cases this;subst e8;refine⟨.inr ⟨q,_,ri,e4,rfl,e6,e7,rfl⟩,(k3 e7).2,(n2 e7).1,?_,t,m,?_,e1,e2,e3⟩
   ·rcases(k3 e7).1.2 rfl with h | h
    ·exact Nat.le_trans hr.glob.base h
    ·exact Nat.le_of_not_lt λh'=>hr.glob.low _ h' h
   ·rcases k2.2 with h | ⟨_,he,_⟩
    ·rw[e7]at h;cases h.1
    ·exact he
  have keepAll:∀u d,VR w ρ (jA outer ρ st.h) u d→VR w1 ρn (jA outer ρn KW) u d:=λu d hu=>
   hu.keep2 hu.refs (λq ri hq h3=>by rw[hρo q hq];exact h3)
    (fun b hb hc=>by
     obtain⟨_,_,yY⟩:=hc;exact hX.old b (rP yY) λho=>hb (P0 b ⟨_,_,yY⟩ (wY b ho)))
    λb hc aX=>by
     obtain⟨_,_,yY⟩:=id hc;have:=rP yY
     rcases kX b aX with h | h
     ·rcases xY b h with h | h
      ·exact P0 b hc h
      ·omega
     ·exact(Q0 b h).1
  have keepX:∀u d,(∀m,ci.pb=false→oD ci.own 0 (ci.eR r)=some m→Rk m d)→VR w1 ρx (jA outc ρx X) u d→VR w1 ρn (jA outer ρn KW) u d:=λu d hk hu=>by
   have h0:VR w1 ρx (jA outer ρn KW) u d:=by
    by_cases hm:∃m,ci.pb=false∧oD ci.own 0 (ci.eR r)=some m
    ·obtain⟨m,hp,hm⟩:=hm;refine hu.widen (hk m hp hm) λb aX=>?_
     rcases kX b aX with h | h
     ·exact .inl h
     ·obtain⟨_,h1,h2,h3,t,m',h4,_,h5,h6⟩:=Q0 b h;rw[hm]at h5;cases h5;exact .inr ⟨h3,t,h4.same (hX.old b h1 h2),h6⟩
    ·refine hu.mono (λ_ _ h=>h) (λ_ _ _=>rfl) λb aX=>?_
     rcases kX b aX with h | ⟨_,_,_,m,_,_,h1,h2,_⟩
     ·exact .inl h
     ·exact absurd ⟨m,h1,h2⟩ hm
   exact h0.keep h0.refs (λq ri hq h3=>by rw[hρx q hq];exact h3) (λ_ _ _=>rfl) λb hb=> .inl hb
  have keepRow:∀q row ri,X q=some row→KC w1 ρx (jA outc ρx X) ri row.c→KC w1 ρn (jA outer ρn KW) ri row.c:=λq row ri hq QV=>by
   by_cases hm:∃m,ci.pb=false∧oD ci.own 0 (ci.eR r)=some m
   ·obtain⟨m,hp,hm⟩:=hm;exact QV.keepR ((hrk m hp hm).1 q row hq) (λ_=>rfl) λu d hd hu=>keepX u d (λm' _ hm'=>by rw[hm]at hm';cases hm';exact hd) hu
   ·exact QV.keep (λ_=>rfl) λu d hu=>keepX u d (λm hp h=>absurd ⟨m,hp,h⟩ hm) hu
  have rW:∀q row,X q=some row→∃ri,ρn q=some ri∧ρx q=some ri∧KC w1 ρx (jA outc ρx X) ri row.c∧(ri.nl=false→(w.heap.size≤ri.b∨ownc ri.b)∧ri.b<w1.heap.size):=λq row hq=>by
   obtain⟨ri,k1,k2,k3⟩:=hX.rows q row hq;exact⟨ri,by rw[hXρ q row hq];exact k1,k1,k2,λhn=>⟨(k3 hn).1.2 (by rw[zbh cW (by rw[←n7]at hq;exact hq)];rfl),(k3 hn).2⟩⟩
  have NX:∀q row,hb q=some row→∃ri,ρn q=some ri∧ρ q=some ri∧ρ' q=some ri∧KC w ρ (jA outer ρ st.h) ri row.c∧(ri.nl=false→¬ownc ri.b∧ri.b<w.heap.size∧(¬outer ri.b∧(row.m.isRo=false→w0.heap.size≤ri.b∨own ri.b))):=λq row hq=>by
   rcases F3 q row hq with hq | ⟨t,l,m,c,e1,e2,e3,rfl,e5,e6⟩
   ·obtain⟨row',h3,h4,_⟩:=UV q row hq;obtain⟨ri,k1,k2,_⟩:=hr.heap.rows q row' h3;obtain⟨ri',k3,k4⟩:=PV q row hq;have:=c5 _ _ k1;rw[k3]at this;cases this;exact⟨ri,by rw[hρo q (hh'ρ q row hq)];exact k1,k1,k3,by rw[←h4];exact k2,k4⟩
   ·obtain⟨ri,k1,k2,k5⟩:=hr.heap.rows q _ e5;obtain⟨ri',k3,k4⟩:=PV q _ e6;have:=c5 _ _ k1;rw[k3]at this;cases this;exact⟨ri,by rw[hρo q (hh'ρ q _ e6)];exact k1,k1,k3,k2,λhn=>⟨(k4 hn).1,(k4 hn).2.1,(k5 hn).1⟩⟩
  have hbg:∀q row,hb q=some row→∃row',g' q=some row':=λq row hq=>by
   rcases F3 q row hq with hq | ⟨t,l,m,c,e1,e2,e3,rfl,e5,e6⟩
   ·exact⟨_,c2 q row hq⟩
   ·exact⟨_,c2 q _ e6⟩
  have fZ:VA w0 outer own ρn KW w1:=by
   refine⟨hr.heap.wx.trans hX.wx,λb hb ho=>?_,hr.heap.outLt,λq row hq=>?_,λq q' row row' qi qi' h1 h2 h3 h4 h5 h6 h7=>?_⟩
   ·rw[←hr.heap.old b hb ho];refine hX.old b (Nat.lt_of_lt_of_le hb hr.heap.wx.size) λJ8=>?_
    rcases(jX b J8).2 with h3 | h3
    ·omega
    ·exact ho h3
   ·rcases jW q row hq with h3 | ⟨_,h3⟩
    ·obtain⟨ri,k1,k2,k3,k4⟩:=rW q row h3;refine⟨ri,k1,keepRow q row ri h3 k3,λhn=>⟨?_,(k4 hn).2⟩⟩
     have hx:w0.heap.size≤ri.b∨own ri.b:=by
      rcases(k4 hn).1 with h4 | h4
      ·exact .inl (Nat.le_trans hr.heap.wx.size h4)
      ·exact(jX _ h4).2
     refine⟨λho=>?_,λ_=>hx⟩;obtain⟨g1,g2⟩:=hr.heap.outLt _ ho
     rcases hx with hx | hx
     ·omega
     ·exact g2 hx
    ·obtain⟨ri,k1,k2,k3,k4,k5⟩:=NX q row h3;refine⟨ri,k1,k4.keep (λhn=>hX.old _ (k5 hn).2.1 (k5 hn).1) keepAll,λhn=>⟨(k5 hn).2.2,Nat.lt_of_lt_of_le (k5 hn).2.1 hX.wx.size⟩⟩
   ·rcases jW q row h1 with k1 | ⟨_,k1⟩<;>rcases jW q' row' h2 with k2 | ⟨_,k2⟩
    ·obtain⟨r1,e1,e2,_⟩:=rW q row k1;obtain⟨r2,e3,e4,_⟩:=rW q' row' k2;rw[h3]at e1;cases e1;rw[h4]at e3;cases e3;exact hX.inj q q' row row' qi qi' k1 k2 e2 e4 h5 h6 h7
    ·obtain⟨r1,e1,e2,_,e5⟩:=rW q row k1;obtain⟨r2,e3,e4,e6,_,e7⟩:=NX q' row' k2;rw[h3]at e1;cases e1;rw[h4]at e3;cases e3
     rcases(e5 h5).1 with h8 | h8
     ·have:=(e7 h6).2.1;omega
     ·rw[h7]at h8;exact absurd h8 (e7 h6).1
    ·obtain⟨r1,e1,e2,_,e5⟩:=rW q' row' k2;obtain⟨r2,e3,e4,e6,_,e7⟩:=NX q row k1;rw[h4]at e1;cases e1;rw[h3]at e3;cases e3
     rcases(e5 h6).1 with h8 | h8
     ·have:=(e7 h5).2.1;omega
     ·rw[←h7]at h8;exact absurd h8 (e7 h5).1
    ·obtain⟨r1,e1,e2,e2',_⟩:=NX q row k1;obtain⟨r2,e3,e4,e4',_⟩:=NX q' row' k2;rw[h3]at e1;cases e1;rw[h4]at e3;cases e3;obtain⟨y1,y2⟩:=hbg q row k1;obtain⟨y3,y4⟩:=hbg q' row' k2;exact c1.inj q q' y1 y3 qi qi' y2 y4 e2' e4' h5 h6 h7
  have WV:NA C w0 outer own ρn {st with h:=KW} a w1:=hr.turn fZ keepAll;refine⟨ρn,(WV.put (keepX _ _ (λm hp hm=>(hrk m hp hm).2) hV) hk).1,λq hq=>?_,λq ri hq=>?_⟩
  ·simp only[ρn,hq,if_false]
  ·rw[hρo q (by rw[hq];simp)];exact hq
 intro next Q hn;unfold Oper.wp;rw[TV]
 rcases G with⟨G1,G2⟩ | ⟨v,w1,G1,G2⟩
 ·rw[G1,Oper.upon_enter];refine Calls.mono' G2 ?_;rintro e w1 ⟨v,rfl,h3⟩;exact hn _ _ (oB v w1 h3)
 ·rw[G1,Oper.upon_value];exact hn _ _ (oB v w1 G2)
omit hr in
omit [fA]in
def zmy{ci:OA}{as:List V}{bs:List Nat}{i:Nat}{rs:List V}{h h':Nat→Option kA}(hl:eE h h'):eE (xF ci as bs i rs h) (xF ci as bs i rs h'):=λr row hr=>by
 rw[cK]at hr⊢;split at hr
 ·rename_i x hx;cases hr;exact⟨_,rfl,rfl,id⟩
 ·exact hl r row hr
omit hr in
omit [fA]in
def znl{dst:Option Nat}{st st':St}{v:V}{h:Nat→Option kA}(hk:IA C dst st v some=some st'):IA C dst {st with h:=h} v some=some {st' with h:=h}:=by
 cases dst with
 | none=>simp only[IA,Option.some.injEq]at hk⊢;subst hk;rfl
 | some d=>
  simp only[IA]at hk⊢;cases hb:Nat.blt d C.nt
  ·simp[hb]at hk
  ·simp only[hb,XB,Option.some.injEq]at hk⊢;subst hk;rfl
omit hr in
omit [fA]in
def zkn{dst:Option Nat}{st st':St}{v:V}(hk:IA C dst st v some=some st'):st'.h=st.h:=by
 cases dst with
 | none=>simp only[IA,Option.some.injEq]at hk;subst hk;rfl
 | some d=>
  simp only[IA]at hk;cases hb:Nat.blt d C.nt
  ·simp[hb]at hk
  ·simp only[hb,XB,Option.some.injEq]at hk;subst hk;rfl
def zlg(hΦ:rE C)(yX:∃N,∀r,N≤r→ρ r=none)(qW:∀q,q<128→ρ (i+q)=none)(f:Nat)(args:Array Value)(as:List V)(RV:args.size=as.length)
  (iW:∀j (hj:j<as.length),VR w ρ (jA outer ρ st.h) (args.getD j undef) as[j]) (TV:(execOp a.eval o).run C.P w=(callFunc f args).run C.P w)
  (hk:tH C i o.dst st f as some=some st'):RB C.P o a w (JB C w0 outer own i ρ st'):=by
 unfold tH at hk;split at hk
 ·cases hk
 rename_i ci Z1
 have m7:cB C.P f ci C.g:=by
  cases NV:Nat.blt f 1048576
  ·simp[NV]at Z1
  ·simp only[NV,cond_true]at Z1;have:=hΦ.ok _ _ Z1;rwa [zke f as (by simpa using NV)]at this
 split at hk
 ·split at hk
  ·cases hk
  rename_i as' h' bs JY;obtain⟨x,uY,hk⟩:=Option.bind_eq_some_iff.1 ((vN _ _).symm.trans hk);obtain⟨r,hF,hk⟩:=Option.bind_eq_some_iff.1 hk;cases cW:(Nat.ble (ci.eR r).length 128&&iJ ci (ci.eR r))
  case false=>simp[cW]at hk
  simp only[cW,XB]at hk;simp only[Bool.and_eq_true]at cW;have HW:NA C w0 outer own ρ {st with h:=mK st.h} a w:=hr.less (zd0 _)
  have D:=zeP (o:=o) HW yX qW f args as RV (λj hj=>(hr.heap.less (zd0 st.h)).2 _ _ (iW j hj)) TV m7 JY uY hF (Nat.le_of_ble_eq_true cW.1)
   (st':= { st' with h:=xF ci as' bs i (ci.eR r) (mK st.h) }) (by
    rw[eI,cW.2,cond_true];exact znl (st:={st with h:=xF ci as' bs i (ci.eR r) st.h}) hk)
  refine λnext Q hn=>D next Q λa' w' ⟨ρ',h1,h2,h3⟩=>hn a' w' ⟨ρ',?_,h2,h3⟩;have e:st'.h=xF ci as' bs i (ci.eR r) st.h:=zkn hk;have:=h1.less (h':=st'.h) (by rw[e];exact zmy (zj7 _));exact this
 ·rename_i as' h' bs JY;obtain⟨x,uY,hk⟩:=Option.bind_eq_some_iff.1 ((vN _ _).symm.trans hk);obtain⟨r,hF,hk⟩:=Option.bind_eq_some_iff.1 hk;cases cW:Nat.ble (ci.eR r).length 128
  case false=>simp[cW]at hk
  simp only[cW,XB]at hk;exact zeP hr yX qW f args as RV iW TV m7 JY uY hF (Nat.le_of_ble_eq_true cW) hk
end
end Go.D
namespace Go.D
variable [fA]
section
variable {C:Cx} {w0:World} {outer own:Nat→Prop} {ρ:Nat→Option RI} {st st':St} {a:Act} {w:World} {h:Nat→Option kA}
variable {o:Oper} {i:Nat} (hr:NA C w0 outer own ρ st a w)
include hr
def zmC(hΦ:rE C)(yX:∃N,∀r,N≤r→ρ r=none)(qW:∀q,q<128→ρ (i+q)=none)(x:Operand)(args:Array Operand)(argTypes:Array TypeId)
  (ho:o.op= .call {callee:= .value x,args,argTypes}) (hk:UA C i o st some=some st'):RB C.P o a w (JB C w0 outer own i ρ st'):=by
 simp only[UA,ho]at hk;split at hk
 case h_2=>cases hk
 rename_i f cs VV;have hx:=hr.opd x;rw[VV]at hx;generalize hv:a.eval x=v at hx;cases hx with
 | fn _ _ caps hs hvc=>
 refine zlg hr hΦ yX qW f (args.map a.eval++caps) _ (by simp[hs]) (λj hj=>?_) ?_ hk
 ·by_cases GW:j<args.size
  ·rw[List.getElem_append_left (by simpa using GW),Array.getD_eq_getD_getElem?,Array.getElem?_append_left (by simpa using GW)];simp only[Array.getElem?_map,Array.getElem?_eq_getElem GW,Option.map_some,Option.getD_some,List.getElem_map,Array.getElem_toList];exact hr.opd _
  ·have sW:j - args.size<cs.length:=by simp at hj;omega
   rw[List.getElem_append_right (by simp;omega),Array.getD_eq_getD_getElem?,Array.getElem?_append_right (by simp;omega)];have:=hvc (j - args.size) sW;rw[Array.getD_eq_getD_getElem?]at this;simpa using this
 ·simp[execOp,ho,resolve,Deferred.ofValue,hv,invoke]
def zk0(c x y:Operand)(ho:o.op= .pick c x y)(t:Bool)(hc:opd st.s c= .bool t)(hk:IA C o.dst st (cond t (opd st.s x) (opd st.s y)) some=some st'):
  RB C.P o a w (JB C w0 outer own i ρ st'):=by
 have h1:=hr.opd c;rw[hc]at h1;generalize O7:a.eval c=vc at h1;cases h1;refine vB (v:=if t then a.eval x else a.eval y) (w':=w) ?_ (hr.after ?_ hk)
 ·cases t<;>simp[execOp,ho,O7,asBool]
 ·cases t
  ·exact hr.opd y
  ·exact hr.opd x
def zfg(hC:iE C)(hΦ:rE C)(yX:∃N,∀r,N≤r→ρ r=none)(qW:∀q,q<128→ρ (i+q)=none)(hk:UA C i o st some=some st'):
  RB C.P o a w (JB C w0 outer own i ρ st'):=by
 have hi:ρ i=none:=qW 0 (by omega);have none_of:∀{p:Prop},UA C i o st some=none→p:=λh=>by rw[h]at hk;cases hk
 cases ho:o.op with
 | move x=>exact zeV hr x (.inl ho) (by simpa only[UA,ho]using hk)
 | assign x=>exact zeV hr x (.inr ho) (by simpa only[UA,ho]using hk)
 | pick c x y=>
  simp only[UA,ho]at hk;split at hk
  case h_2=>cases hk
  rename_i t hc;split at hk
  ·rename_i p q hx hy;exact zme hr c x y ho t p q hc hx hy hk
  ·exact zk0 hr c x y ho t hc hk
 | alloc e=>
  simp only[UA,ho]at hk;split at hk
  case h_2=>cases hk
  rename_i cs hz;exact zlU hr e ho hi cs hz hk
 | box e x=>
  simp only[UA,ho]at hk;cases hb:rF (cellsOf (opd st.s x))
  case false=>simp[hb]at hk
  simp only[hb,XB]at hk;exact zm2 hr e x ho hi hb hk
 | build t parts=>exact zlc hr t parts ho hk
 | buildSlice t len parts=>exact ziv hr hC t len parts ho hi hk
 | load t x=>exact zmN hr t x ho hk
 | store t x y=>exact zlr hr t x y ho hk
 | nilCheck x=>exact zji hr x ho hk
 | binOp op t x y t'=>exact zlW hr op t t' x y ho hk
 | unOp op t x=>exact zmP hr op t x ho hk
 | convert s d x=>exact zjW hr hC s d x ho hi hk
 | makeFunc fn first captured=>
  cases fn with
  | func f=>exact zi2 hr f first captured ho hk
  | _=>exact none_of (by simp only[UA,ho])
 | makeSlice t x y=>exact ziF hr hC t x y ho hi hk
 | slice t x lo hi mx=>exact zk9 hr hC t x lo hi mx ho hk
 | fieldAddr t x f=>exact ziQ hr t x f ho hk
 | field t x f=>exact zli hr t x f ho hk
 | indexAddr t x y=>exact ziX hr hC t x y ho hk
 | index t x y=>exact zlo hr t x y ho hk
 | extract x ix=>exact zjK hr x ix ho hk
 | call c=>
  obtain⟨callee,args,argTypes⟩:=c;cases callee with
  | value x=>exact zmC hr hΦ yX qW x args argTypes ho hk
  | invoke r m=>exact none_of (by simp only[UA,ho])
  | builtin b=>
   cases b with
   | len=>exact zm1 hr args argTypes ho hk
   | append=>exact zkd hr hC args argTypes ho hi hk
   | min=>exact znh hr args argTypes ho hk
   | max=>exact zno hr args argTypes ho hk
   | _=>exact none_of (by simp only[UA,ho])
 | _=>exact none_of (by simp only[UA,ho])
end
end Go.D
namespace Go.D
variable [fA]
section
variable {C:Cx} {R:Type} {st:St} {K:St→Option R}
omit [fA]in
def aN(dst:Option Nat)(st:St)(v:V)(K:St→Option R):IA C dst st v K=(IA C dst st v some).bind K:=by
 cases dst with
 | none=>rfl
 | some d=>simp only[IA];cases Nat.blt d C.nt<;>rfl
omit [fA]in
def zlH(dst:Option Nat)(st:St)(r:Nat)(c:ND)(v:V)(K:St→Option R):OD C dst st r c v K=(OD C dst st r c v some).bind K:=aN _ _ _ _
omit [fA]in
def zin{K1:V→Option St}{K2:V→Option R}(h:∀v,K2 v=(K1 v).bind K)(ag:Bool)(n:Nat)(cs:List V)(off:Nat):yE ag n cs off K2=(yE ag n cs off K1).bind K:=by
 cases ag<;>simp only[yE,XB,jN]
 ·grind
 ·cases Nat.ble (off+n) cs.length
  ·rfl
  ·exact h _
omit [fA]in
def zlC{K1:V→Option St}{K2:V→Option R}(h:∀v,K2 v=(K1 v).bind K)(op:BinOp)(x y:V):mJ op x y K2=(mJ op x y K1).bind K:=by
 have hb:∀(b:Bool) (v:V),(bif b then none else K2 v)=(bif b then none else K1 v:Option St).bind K:=λb v=>by cases b;exact h v;rfl
 have aX:∀(b:Bool) (v:V),(bif b then K2 v else none)=(bif b then K1 v else none:Option St).bind K:=λb v=>by cases b;rfl;exact h v
 unfold mJ
 grind
omit [fA]in
def zdk{f1:Nat→Option St}{f2:Nat→Option R}(h:∀k,f2 k=(f1 k).bind K)(i:Int):∀(n k:Nat),HG f2 i k n=(HG f1 i k n).bind K
 | 0,k=>rfl
 | n+1,k=>by
  simp only[HG];cases i==(k:Int)
  ·exact zdk h i n (k+1)
  ·exact h k
omit [fA]in
def zk4{K1:V→Option St}{K2:V→Option R}(h:∀v,K2 v=(K1 v).bind K)(d:TypeDesc)(tk:TypeId→TN→Bool)(hp:Nat→Option kA)(x:V)(lo hi:Option V):
  pK d tk hp x lo hi K2=(pK d tk hp x lo hi K1).bind K:=by
 have aX:∀(b:Bool) (v:V),(bif b then K2 v else none)=(bif b then K1 v else none:Option St).bind K:=λb v=>by cases b;rfl;exact h v
 unfold pK;split
 ·rfl
 split
 case h_2=>rfl
 rename_i len _ _ _ a b _ _;cases decide (0≤a)&&decide (a≤b)&&decide (b≤(len:Int))
 ·rfl
 simp only[cond_true];split
 ·exact aX _ _
 ·exact h _
 ·split
  ·exact aX _ _
  ·rfl
 ·exact aX _ _
 ·rfl
omit [fA]in
def zaR{α:Type}(x:Option α){f1:α→Option St}{f2:α→Option R}(h:∀v,f2 v=(f1 v).bind K):Option.bind x f2=(Option.bind x f1).bind K:=by
 cases x with
 | none=>rfl
 | some v=>exact h v
omit [fA]in
def zlZ(b:Bool){x1:Option St}{x2:Option R}(h:x2=x1.bind K):(bif b then x2 else none)=(bif b then x1 else none:Option St).bind K:=by
 grind
omit [fA]in
def zkS(b:Bool){x1:Option St}{x2:Option R}(h:x2=x1.bind K):(bif b then none else x2)=(bif b then none else x1:Option St).bind K:=by
 grind
omit [fA]in
def zbG(b:Bool){x1:Option St}{x2:Option R}(h:x2=x1.bind K):gd b x2 none=(gd b x1 none:Option St).bind K:=by
 cases b
 ·rfl
 ·exact h
omit [fA]in
def zmd(b:Bool){x1:Option St}{x2:Option R}(h:x2=x1.bind K):gd b none x2=(gd b none x1:Option St).bind K:=by
 cases b
 ·exact h
 ·rfl
omit [fA]in
def zbx{α:Type}(x:Option α){f1:α→Option St}{f2:α→Option R}(h:∀v,f2 v=(f1 v).bind K):BH x f2=(BH x f1).bind K:=by
 cases x with
 | none=>rfl
 | some v=>exact h v
omit [fA]in
def zkF(i:Nat)(dst:Option Nat)(f:Nat)(as:List V):tH C i dst st f as K=(tH C i dst st f as some).bind K:=by
 unfold tH;split
 ·rfl
 split
 ·split
  ·rfl
  exact zbx _ λ_=>zaR _ λ_=>zbG _ (aN _ _ _ _)
 exact zbx _ λ_=>zaR _ λ_=>zbG _ (aN _ _ _ _)
omit [fA]in
def LM(i:Nat)(o:Oper):UA C i o st K=(UA C i o st some).bind K:=by
 unfold UA
 repeat' first
  | rfl
  | exact aN _ _ _ _
  | exact zlH _ _ _ _ _ _
  | exact zkF _ _ _ _
  | refine zin (λ_=>?_) _ _ _ _
  | refine zlC (λ_=>?_) _ _ _
  | refine zdk (λ_=>?_) _ _ _
  | refine zk4 (λ_=>?_) _ _ _ _ _ _
  | refine zlZ _ ?_
  | refine zkS _ ?_
  | refine zbG _ ?_
  | refine zmd _ ?_
  | refine zbx _ (λ_=>?_)
  | refine zaR _ (λ_=>?_)
  | split
end
end Go.D
namespace Go.D
variable [fA]
def AC(π:Nat→Prop)(h h':Nat→Option kA):Prop:=∀r row,π r→h r=some row→row.m.isOwn=false→h' r=some row
omit [fA]in
def AC.refl(π:Nat→Prop)(h:Nat→Option kA):AC π h h:=λ_ _ _ h _=>h
omit [fA]in
def AC.trans{π:Nat→Prop}{a b c:Nat→Option kA}(h:AC π a b)(k:AC π b c):AC π a c:=λr row hn hr hm=>k r row hn (h r row hn hr hm) hm
omit [fA]in
def LH{π:Nat→Prop}{h h':Nat→Option kA}(k:AC π h h')(r:Nat)(x:Option kA)(hr:¬π r∨∃row,h r=some row∧row.m.isOwn=true):AC π h (sA h' r x):=λq row hn hq hm=>by
 rw[tA]
 ·exact k q row hn hq hm
 grind
omit [fA]in
def CJ{π:Nat→Prop}{h:Nat→Option kA}(ids:List Nat)(hl:∀r∈ids,∀row,h r=some row→row.m.isLock=false):AC π h (FB h ids):=λq row hn hq hm=>by
 rw[SD]
 by_cases hi:q∈ids
 ·have:=hl q hi row hq;obtain⟨c,m⟩:=row;cases m
  ·cases hm
  ·simp[hi,hq]
  ·cases this
 ·simp[hi,hq]
def JG(h:Nat→Option kA)(ids:List Nat):Prop:=∀r∈ids,∀row,h r=some row→row.m.isLock=false
omit [fA]in
def NO(h:Nat→Option kA):JG h []:=λr hr=>by simp at hr
omit [fA]in
def zdu{h:Nat→Option kA}{i j:List Nat}(a:JG h i)(b:JG h j):JG h (i++j):=λr hr=>by
 rcases List.mem_append.1 hr with hr | hr
 ·exact a r hr
 ·exact b r hr
omit [fA]in
def zam{h:Nat→Option kA}{r:Nat}{j:List Nat}(a:∀row,h r=some row→row.m.isLock=false)(b:JG h j):JG h (r :: j):=λq hq=>by
 rcases List.mem_cons.1 hq with rfl | hq
 ·exact a
 ·exact b q hq
omit [fA]in
def BV{h:Nat→Option kA}{v:V}{x:V×List Nat}(hf:ME h v=some x):JG h x.2:=by
 unfold ME at hf;split at hf
 ·split at hf
  ·rename_i t l m hr;cases hm:m.isLock<;>simp[hm]at hf
   subst hf;exact zam (λrow h1=>by rw[hr]at h1;cases h1;exact hm) (NO _)
  ·cases hf
 ·split at hf
  ·rename_i t' l m hr;cases hm:m.isLock
   ·simp only[hm,cond_false]at hf;split at hf
    ·simp at hf;subst hf;exact zam (λrow h1=>by rw[hr]at h1;cases h1;exact hm) (NO _)
    ·cases hf
   ·simp[hm]at hf
  ·cases hf
 ·cases hb:CE 8 v<;>simp[hb]at hf
  subst hf;exact NO _
omit [fA]in
def PN{h:Nat→Option kA}:∀{vs:List V} {x:List V×List Nat},pE h vs=some x→JG h x.2
 | [],x,hf=>by simp[pE]at hf;subst hf;exact NO _
 | v :: vs,x,hf=>by
  simp only[pE]at hf;split at hf
  ·cases hf
  rename_i h1;split at hf
  ·cases hf
  rename_i h2;cases hf;exact zdu (BV h1) (PN h2)
omit [fA]in
def tS{h:Nat→Option kA}{v:V}{x:V×List Nat}(hf:zF h v=some x):JG h x.2:=by
 unfold zF at hf;split at hf
 ·split at hf
  ·rename_i h1;cases hf;exact(PN h1:_)
  ·cases hf
 ·split at hf
  ·rename_i cs m hr;cases hb:(m.isLock||cs.isEmpty)
   case true=>simp[hb]at hf
   simp only[hb,cond_false]at hf;split at hf
   ·rename_i h1;cases hf;refine zam (λrow h2=>?_) (PN h1)
    grind
   ·cases hf
  ·cases hf
 ·exact BV hf
omit [fA]in
def AV{h:Nat→Option kA}:∀{vs:List V} {x:List V×List Nat},WH h vs=some x→JG h x.2
 | [],x,hf=>by simp[WH]at hf;subst hf;exact NO _
 | v :: vs,x,hf=>by
  simp only[WH]at hf;split at hf
  ·cases hf
  rename_i h1;split at hf
  ·cases hf
  rename_i h2;cases hf;exact zdu (tS h1) (AV h2)
omit [fA]in
def zdH{π:Nat→Prop}{h:Nat→Option kA}{t:TN}{v:V}{l:List (El t)}{r:Option Nat}(ht:oN h t v=some (l,r)):AC π h (jK h r):=by
 cases r with
 | none=>exact AC.refl _ _
 | some r=>
  refine LH (AC.refl _ _) r none (.inr ?_);unfold oN at ht;split at ht
  ·cases ht
  ·split at ht
   ·rename_i hr;split at ht
    ·cases ht;exact⟨_,hr,rfl⟩
    ·cases ht
   ·cases ht
  ·split at ht
   ·rename_i hr;split at ht
    ·cases ht;exact⟨_,hr,rfl⟩
    ·cases ht
   ·cases ht
  ·cases ht
omit [fA]in
def CH(π:Nat→Prop)(ow:List Nat):∀(cs:List V) (p:Nat) (h:Nat→Option kA) (x:List V×(Nat→Option kA)),DC ow p cs h=some x→AC π h x.2
 | [],p,h,x,ht=>by simp[DC]at ht;subst ht;exact AC.refl π h
 | c :: cs,p,h,x,ht=>by
  simp only[DC]at ht;cases hb:ow.any (Nat.beq p)
  ·simp only[hb,cond_false]at ht;split at ht
   case h_2=>cases ht
   rename_i hf;split at ht
   case h_2=>cases ht
   rename_i hr;cases ht;have k:=CH π ow cs (p+1) _ _ hr;exact(CJ _ (BV hf)).trans k
  ·simp only[hb,cond_true]at ht;split at ht
   ·split at ht
    case h_2=>cases ht
    rename_i JV;split at ht
    case h_2=>cases ht
    rename_i hr;cases ht;have k:=CH π ow cs (p+1) _ _ hr;exact(LH (AC.refl π h) _ none (.inr ⟨_,JV,rfl⟩)).trans k
   ·split at ht
    case h_2=>cases ht
    rename_i hr;cases ht;have:=CH π ow cs _ _ _ hr;exact this
   ·split at ht
    case h_2=>cases ht
    rename_i JV;split at ht
    case h_2=>cases ht
    rename_i hr;cases ht;have k:=CH π ow cs (p+1) _ _ hr;exact(LH (AC.refl π h) _ none (.inr ⟨_,JV,rfl⟩)).trans k
   ·cases ht
omit [fA]in
def AQ(π:Nat→Prop):∀(ks:List WA) (as:List V) (h:Nat→Option kA) (x:List V×(Nat→Option kA)×List Nat),CB ks as h=some x→
  AC π h x.2.1∧∀b∈x.2.2,∃row,h b=some row∧row.m.isOwn=true
 | [],[],h,x,ht=>by simp[CB]at ht;subst ht;exact⟨AC.refl π h,λb hb=>by simp at hb⟩
 | [],_ :: _,h,x,ht=>by simp[CB]at ht
 | .plain :: ks,[],h,x,ht=>by simp[CB]at ht
 | .ptr _ :: ks,[],h,x,ht=>by simp[CB]at ht
 | .mv _ :: ks,[],h,x,ht=>by simp[CB]at ht
 | .mv ow :: ks,v :: vs,h,x,ht=>by
  obtain⟨cs,rfl⟩:=zao ht;simp only[CB]at ht;cases hb:Nat.ble cs.length 127
  case false=>simp[hb]at ht
  simp only[hb,cond_true]at ht;split at ht
  ·cases ht
  rename_i hl;split at ht
  ·cases ht
  rename_i hr;cases ht;obtain⟨k1,k2⟩:=AQ π ks vs _ _ hr;refine⟨(CH π _ _ _ _ _ hl).trans k1,λb hb=>?_⟩;obtain⟨row,h1,h2⟩:=k2 b hb;obtain⟨row2,h3,h4,h5⟩:=rI _ _ _ _ _ hl b row h1;refine⟨row2,h3,?_⟩;cases ho:row2.m.isOwn with
  | true=>rfl
  | false=>
   have:=CH (λ_=>True) _ _ _ _ _ hl b row2 trivial h3 ho
   grind
 | .plain :: ks,v :: vs,h,x,ht=>by
  simp only[CB]at ht;split at ht
  ·cases ht
  rename_i v' ids hf;split at ht
  ·cases ht
  rename_i hr;cases ht;obtain⟨k1,k2⟩:=AQ π ks vs _ _ hr;refine⟨(CJ _ (tS hf)).trans k1,λb hb=>?_⟩;obtain⟨row,h1,h2⟩:=k2 b hb;obtain⟨row',h3,h4,h5⟩:=BO h ids b row h1;rw[SD]at h1
  by_cases hm:b∈ids
  ·simp[hm,h3]at h1;subst h1;cases h2
  grind
 | .ptr ow :: ks,v :: vs,h,x,ht=>by
  obtain⟨r,rfl⟩:=zaf ht;simp only[CB]at ht;split at ht
  case h_2=>cases ht
  rename_i cs JV;cases hb:Nat.ble cs.length 127
  case false=>simp[hb]at ht
  simp only[hb,cond_true]at ht;split at ht
  ·cases ht
  rename_i hl;split at ht
  ·cases ht
  rename_i hr;cases ht;obtain⟨k1,k2⟩:=AQ π ks vs _ _ hr;refine⟨(LH (AC.refl π h) _ none (.inr ⟨_,JV,rfl⟩)).trans ((CH π _ _ _ _ _ hl).trans k1),λb hb=>?_⟩
  rcases List.mem_cons.1 hb with rfl | hb
  ·exact⟨_,JV,rfl⟩
  ·obtain⟨row,h1,h2⟩:=k2 b hb;obtain⟨row2,h3,h4,h5⟩:=rI _ _ _ _ _ hl b row h1;have C0:b≠r:=by rintro rfl;rw[EA]at h3;cases h3
   rw[tA _ _ _ _ C0]at h3;refine⟨row2,h3,?_⟩;cases ho:row2.m.isOwn with
   | true=>rfl
   | false=>
    have:=CH (λ_=>True) _ _ _ _ _ hl b row2 trivial (by rw[tA _ _ _ _ C0];exact h3) ho
    grind
def YB{α:Type}(p:α→Prop)(x:Option α):Prop:=∀y,x=some y→p y
structure vK(π:Nat→Prop)(dst:Option Nat)(st st':St):Prop where
 slots:∀s,dst≠some s→st'.s s=st.s s
 rows:AC π st.h st'.h
 nx:st'.nx=st.nx
section
variable {C:Cx} {st:St} {π:Nat→Prop} {dst:Option Nat}
omit [fA]in
def FD{α:Type}{p:α→Prop}:YB p none:=λ_ h=>by cases h
omit [fA]in
def ZI{h':Nat→Option kA}(hk:AC π st.h h')(v:V):YB (vK π dst st) (IA C dst {st with h:=h'} v some):=by
 intro st' h;cases dst with
 | none=>simp[IA]at h;subst h;exact⟨λ_ _=>rfl,hk,rfl⟩
 | some d=>
  simp only[IA]at h;cases hb:Nat.blt d C.nt<;>simp[hb]at h
  subst h;exact⟨λs hs=>tA _ _ _ _ (λe=>hs (by rw[e])),hk,rfl⟩
omit [fA]in
def JT(v:V):YB (vK π dst st) (IA C dst st v some):=ZI (AC.refl π st.h) v
omit [fA]in
def zff{h':Nat→Option kA}(hk:AC π st.h h'){i:Nat}(hi:∀q,q<128→¬π (i+q))(c:ND)(v:V):YB (vK π dst st) (OD C dst {st with h:=h'} i c v some):=ZI (LH hk i _ (.inl (hi 0 (by omega)))) v
omit [fA]in
def zlI{i:Nat}(hi:∀q,q<128→¬π (i+q))(c:ND)(v:V):YB (vK π dst st) (OD C dst st i c v some):=ZI (LH (AC.refl π st.h) i _ (.inl (hi 0 (by omega)))) v
omit [fA]in
def UM{α:Type}{p:α→Prop}(b:Bool){x:Option α}(h:b=true→YB p x):YB p (bif b then x else none):=by
 cases b
 ·exact FD
 ·exact h rfl
omit [fA]in
def AM{α:Type}{p:α→Prop}(b:Bool){x:Option α}(h:b=false→YB p x):YB p (bif b then none else x):=by
 cases b
 ·exact h rfl
 ·exact FD
omit [fA]in
def YM{α β:Type}{p:β→Prop}(x:Option α){f:α→Option β}(h:∀v,x=some v→YB p (f v)):YB p (Option.bind x f):=by
 cases x with
 | none=>exact FD
 | some v=>exact h v rfl
omit [fA]in
def qH{α:Type}{p:α→Prop}(b:Bool){x:Option α}(h:b=true→YB p x):YB p (gd b x none):=by
 cases b
 ·exact FD
 ·exact h rfl
omit [fA]in
def zeT{α:Type}{p:α→Prop}(b:Bool){x:Option α}(h:b=false→YB p x):YB p (gd b none x):=by
 cases b
 ·exact h rfl
 ·exact FD
omit [fA]in
def qN{α β:Type}{p:β→Prop}(x:Option α){f:α→Option β}(h:∀v,x=some v→YB p (f v)):YB p (BH x f):=by
 cases x with
 | none=>exact FD
 | some v=>exact h v rfl
omit [fA]in
def zer{p:St→Prop}{K:V→Option St}(h:∀v,YB p (K v))(ag:Bool)(m:Nat)(cs:List V)(off:Nat):YB p (yE ag m cs off K):=by
 cases ag<;>simp only[yE,XB,jN]
 ·split
  ·exact h _
  ·exact FD
 ·exact qH _ λ_=>h _
omit [fA]in
def ze7{p:St→Prop}{K:V→Option St}(h:∀v,YB p (K v))(op:BinOp)(x y:V):YB p (mJ op x y K):=by
 unfold mJ;split
 ·exact UM _ λ_=>AM _ λ_=>h _
 ·exact UM _ λ_=>AM _ λ_=>h _
 ·exact AM _ λ_=>h _
 ·exact AM _ λ_=>h _
 ·exact UM _ λ_=>h _
 ·split
  ·exact h _
  ·exact FD
omit [fA]in
def zaF{p:St→Prop}{f:Nat→Option St}(h:∀k,YB p (f k))(i:Int):∀(m k:Nat),YB p (HG f i k m)
 | 0,k=>FD
 | m+1,k=>by
  simp only[HG];cases i==(k:Int)
  ·exact zaF h i m (k+1)
  ·exact h k
omit [fA]in
def zeY{p:St→Prop}{K:V→Option St}(h:∀v,YB p (K v))(d:TypeDesc)(tk:TypeId→TN→Bool)(hp:Nat→Option kA)(x:V)(lo hi:Option V):YB p (pK d tk hp x lo hi K):=by
 unfold pK;split
 ·exact FD
 split
 case h_2=>exact FD
 refine UM _ λ_=>?_;split
 ·exact qH _ λ_=>h _
 ·exact h _
 ·split
  ·exact qH _ λ_=>h _
  ·exact FD
 ·exact qH _ λ_=>h _
 ·exact FD
omit [fA]in
def zc6:∀(ks:List WA) (as:List V) (h:Nat→Option kA) (x:List V×(Nat→Option kA)×List Nat),ks.all WA.isPlain=true→CB ks as h=some x→x.2.2=[]
 | [],[],h,x,_,ht=>by simp[CB]at ht;subst ht;rfl
 | [],_ :: _,h,x,_,ht=>by simp[CB]at ht
 | .plain :: ks,[],h,x,_,ht=>by simp[CB]at ht
 | .plain :: ks,v :: vs,h,x,hp,ht=>by
  simp only[List.all_cons,Bool.and_eq_true]at hp;simp only[CB]at ht;split at ht
  ·cases ht
  split at ht
  ·cases ht
  rename_i hr;cases ht;have:=zc6 ks vs _ _ hp.2 hr;exact this
 | .ptr _ :: ks,as,h,x,hp,ht=>by simp[WA.isPlain]at hp
 | .mv _ :: ks,as,h,x,hp,ht=>by simp[WA.isPlain]at hp
omit [fA]in
def zjh{ci:OA}{rs:List V}{h h':Nat→Option kA}{q:Nat}{row:kA}(hq:eI ci rs h h' q=some row):h q=some row∨h' q=some row:=by
 unfold eI at hq;cases hp:iJ ci rs
 ·rw[hp,cond_false]at hq;cases hb:ci.pb
  ·rw[hb,cond_false]at hq;cases hm:oD ci.own 0 rs with
   | none=>rw[hm]at hq;exact .inr hq
   | some m=>
    rw[hm]at hq;have hq:lI m h h' q=some row:=hq;unfold lI at hq
    grind
  grind
 grind
omit [fA]in
def zjI{ci:OA}{rs:List V}{h h':Nat→Option kA}{q:Nat}{row:kA}(h1:h q=some row)(h2:h' q=some row)(hm:row.m.isOwn=false):eI ci rs h h' q=some row:=by
 unfold eI;cases iJ ci rs
 ·cases ci.pb
  ·simp only[cond_false];cases oD ci.own 0 rs with
   | none=>exact h2
   | some m=>
    show lI m h h' q=some row
    unfold lI
    grind
  ·exact h2
 ·exact h1
omit [fA]in
def zle{i:Nat}(hi:∀q,q<128→¬π (i+q))(f:Nat)(as:List V):YB (vK π dst st) (tH C i dst st f as some):=by
 unfold tH;split
 ·exact FD
 rename_i ci _;split
 ·split
  ·exact FD
  rename_i as' h' bs JY;refine qN _ λx _=>YM _ λr _=>qH _ λLV=>ZI ?_ _;simp only[Bool.and_eq_true]at LV;intro q row hq JV hm;rw[cK]
  have YW:UC ci as' bs i (ci.eR r) q=none:=by
   cases hx:UC ci as' bs i (ci.eR r) q with
   | none=>rfl
   | some y=>
    rcases zfk (Nat.le_of_ble_eq_true LV.1) hx with h1 | h1
    ·have hp:=LV.2;simp only[iJ,Bool.and_eq_true]at hp;have hb:bs=[]:=zc6 ci.ks as _ _ hp.1.2 JY
     grind
    ·exact absurd hq (by have:=hi (q - i) (by omega);rwa [show i+(q - i)=q by omega]at this)
  grind
 rename_i as' h' bs JY;refine qN _ λx _=>YM _ λr _=>qH _ λLV=>ZI ?_ _;obtain⟨k1,k2⟩:=AQ π _ _ _ _ JY;intro q row hq JV hm;have LV:=Nat.le_of_ble_eq_true LV;rw[cK]
 have YW:UC ci as' bs i (ci.eR r) q=none:=by
  cases hx:UC ci as' bs i (ci.eR r) q with
  | none=>rfl
  | some y=>
   rcases zfk LV hx with h1 | h1
   ·grind
   ·exact absurd hq (by have:=hi (q - i) (by omega);rwa [show i+(q - i)=q by omega]at this)
 rw[YW];exact zjI JV (k1 q row hq JV hm) hm
omit [fA]in
def zc0{i:Nat}(hi:∀q,q<128→¬π (i+q))(o:Oper):YB (vK π o.dst st) (UA C i o st some):=by
 unfold UA
 repeat' first
  | exact FD
  | exact JT _
  | exact zlI hi _ _
  | exact zle hi _ _
  | exact ZI (CJ _ (AV ‹_›)) _
  | exact zff (CJ _ (AV ‹_›)) hi _ _
  | exact zff (zdH ‹_›) hi _ _
  | exact ZI (LH (AC.refl π st.h) _ _ (.inr ⟨_, ‹_›,rfl⟩)) _
  | exact ZI (LH (CJ _ (PN ‹_›)) _ _ (.inr ⟨_, ‹_›,rfl⟩)) _
  | refine zer (λ_=>?_) _ _ _ _
  | refine ze7 (λ_=>?_) _ _ _
  | refine zaF (λ_=>?_) _ _ _
  | refine zeY (λ_=>?_) _ _ _ _ _ _
  | refine UM _ (λ_=>?_)
  | refine AM _ (λ_=>?_)
  | refine qH _ (λ_=>?_)
  | refine zeT _ (λ_=>?_)
  | refine qN _ (λ_ _=>?_)
  | refine YM _ (λ_ _=>?_)
  | split
end
abbrev dC(n:Nat)(h h':Nat→Option kA):Prop:=AC (λr=>r<n) h h'
omit [fA]in
def dC.refl(n:Nat)(h:Nat→Option kA):dC n h h:=AC.refl _ h
omit [fA]in
def dC.trans{n:Nat}{a b c:Nat→Option kA}(h:dC n a b)(k:dC n b c):dC n a c:=AC.trans h k
omit [fA]in
def dC.le{n m:Nat}{a b:Nat→Option kA}(h:dC n a b)(hm:m≤n):dC m a b:=λr row hr=>h r row (by have:r<m:=hr;show r<n;omega)
omit [fA]in
def zdF{C:Cx}{st:St}{n:Nat}{i:Nat}(hi:n≤i)(o:Oper):YB (vK (λr=>r<n) o.dst st) (UA C i o st some):=zc0 (λq _ h=>by omega) o
end Go.D

/-
 One operation, continued: conversions, closures, what is made.
-/
import Derived.Test.YthmhafeaiaigoaaGreatL3
import Derived.Laws.IdiomStrings
import Derived.Laws.BytesArg
import Derived.Laws.MakeOwn
set_option linter.all false
namespace Go.D
variable [jA]
omit [jA]in
def zer(t:TN):sz t≤128:=by cases t<;>simp[sz]
section
variable {C:Cx} {w0:World} {outer own:Nat→Prop} {ρ:Nat→Option RI} {st st':St} {a:Act} {w:World} {h:Nat→Option vA}
omit [jA]in
def zjv:∀(parts:List (Nat×Operand)) (k:Nat) (vs:List V),uV st.s k parts=some vs→vs.length=parts.length∧
  ∀j (hj:j<parts.length),(parts[j]).1=k+j∧∃(h:j<vs.length),vs[j]=opd st.s (parts[j]).2
 | [],k,vs,h=>by simp[uV]at h;subst h;exact⟨rfl,λj hj=>by simp at hj⟩
 | (j,x) :: r,k,vs,h=>by
  simp only[uV]at h;cases hb:Nat.beq k j
  case false=>simp[hb]at h
  have hkj:=Nat.eq_of_beq_eq_true hb;simp only[hb,cond_true]at h;split at h
  ·cases h
  rename_i vs' hv;cases h;obtain⟨h1,h2⟩:=zjv r (k+1) vs' hv;refine⟨by simp[h1],λq hq=>?_⟩;cases q with
  | zero=>exact⟨by simp[hkj],by simp,rfl⟩
  | succ q=>
   grind
omit [jA]in
def zlC(off:Nat):∀(l:List (Value×Nat)) (k:Nat) (cs:Array Value),(∀j (hj:j<l.length),(l[j]).2=k+j)→
  (l.foldl (λcs (c,j)=>cs.setIfInBounds (off+j) c) cs).size=cs.size∧
  ∀p,p<cs.size→(l.foldl (λcs (c,j)=>cs.setIfInBounds (off+j) c) cs).getD p undef=if h:off+k≤p∧p<off+k+l.length then(l[p - (off+k)]'(by omega)).1 else cs.getD p undef
 | [],k,cs,_=>⟨rfl,λp hp=>by simp;omega⟩
 | (c,j) :: l,k,cs,hl=>by
  have hj:j=k:=hl 0 (by simp);subst hj;obtain⟨h1,h2⟩:=zlC off l (j+1) (cs.setIfInBounds (off+j) c) (λq hq=>by have:=hl (q+1) (by simp;omega);simp at this;omega);refine⟨by simp only[List.foldl_cons];rw[h1];simp,λp hp=>?_⟩;simp only[List.foldl_cons];rw[h2 p (by simpa using hp)]
  by_cases IW:off+(j+1)≤p∧p<off+(j+1)+l.length
  ·grind
  ·rw[dif_neg IW]
   by_cases he:p=off+j
   ·subst he;rw[dif_pos ⟨Nat.le_refl _,by simp⟩];rw[Array.getD_eq_getD_getElem?,Array.getElem?_setIfInBounds];simp[hp]
   ·rw[dif_neg (by simp;omega)];rw[Array.getD_eq_getD_getElem?,Array.getElem?_setIfInBounds,if_neg (by omega),Array.getD_eq_getD_getElem?]
omit [jA]in
def zkz(v:Value)(off:Nat)(cs:Array Value):(v.cells.zipIdx.foldl (λcs (c,j)=>cs.setIfInBounds (off+j) c) cs).size=cs.size∧
  ∀p,p<cs.size→(v.cells.zipIdx.foldl (λcs (c,j)=>cs.setIfInBounds (off+j) c) cs).getD p undef=if off≤p∧p<off+v.cells.size then v.cells.getD (p - off) undef else cs.getD p undef:=by
 rw[←Array.foldl_toList];obtain⟨h1,h2⟩:=zlC off v.cells.zipIdx.toList 0 cs (λj hj=>by simp);refine⟨h1,λp hp=>?_⟩;rw[h2 p hp]
 by_cases IW:off≤p∧p<off+v.cells.size
 ·rw[if_pos IW,dif_pos (by simpa using IW)];rw[Array.getD_eq_getD_getElem?,Array.getElem?_eq_getElem (by omega)];simp
 ·grind
omit [jA]in
def zlz(size:Nat):∀(parts:List (Nat×Value)) (k:Nat) (cs:Array Value),(∀j (hj:j<parts.length),(parts[j]).1=k+j∧(parts[j]).2.cells.size=size)→
  (k+parts.length) *size≤cs.size→∃ cs',Instr.fill (fun i=>some (i *size,size)) cs parts=some cs'∧cs'.size=cs.size∧
   (∀j (hj:j<parts.length) q,q<size→cs'.getD ((k+j) *size+q) undef=(parts[j]).2.cells.getD q undef)∧∀p,p<k *size→cs'.getD p undef=cs.getD p undef
 | [],k,cs,_,_=>⟨cs,rfl,rfl,λj hj=>by simp at hj,λ_ _=>rfl⟩
 | (i,v) :: r,k,cs,hp,hs=>by
  obtain⟨h1,h2⟩:=hp 0 (by simp);simp only[List.getElem_cons_zero,Nat.add_zero]at h1 h2;subst h1;simp only[List.length_cons]at hs;have E5:(i+1+r.length) *size=i *size+size+r.length *size:=by rw[Nat.add_mul,Nat.add_mul,Nat.one_mul]
  have hs3:(i+(r.length+1)) *size=i *size+size+r.length *size:=by rw[Nat.add_mul,Nat.add_mul,Nat.one_mul];omega
  obtain⟨h3,h4⟩:=zkz v (i *size) cs;obtain⟨cs',h5,h6,h7,h8⟩:=zlz size r (i+1) _ (λj hj=>by have:=hp (j+1) (by simp;omega);simpa[Nat.add_assoc,Nat.add_comm 1 j]using this) (by rw[h3];omega);have YV:∀j,j<r.length→(i+1+j) *size≥i *size+size:=λj _=>by rw[Nat.add_mul,Nat.add_mul,Nat.one_mul];omega
  refine⟨cs',?_,by rw[h6,h3],λj hj q hq=>?_,λp T9=>?_⟩
  ·simp only[Instr.fill]
   grind
  ·cases j with
   | zero=>
    grind
   | succ j=>
    grind
  grind
omit [jA]in
def zkN(t:TN):∀(css:List (List V)) (l:List (El t)),zax t css=some l→l.length=css.length∧∀j (hj:j<css.length) (oX:j<l.length),aC css[j] (enc t l[j])
 | [],l,h=>by simp[zax]at h;subst h;exact⟨rfl,λj hj=>by simp at hj⟩
 | cs :: css,l,h=>by
  simp only[zax]at h;split at h
  ·cases h
  rename_i x hx;split at h
  ·cases h
  rename_i l' hl;cases h;obtain⟨h1,h2⟩:=zkN t css l' hl;refine⟨by simp[h1],λj hj oX=>?_⟩;cases j with
  | zero=>exact MF t hx
  | succ j=>simpa using h2 j (by simpa using hj) (by simpa using oX)
variable {o:Oper} {i:Nat} (hr:ZA C w0 outer own ρ st a w)
include hr
def zr2(xs:List Operand):∀j (hj:j<(xs.map (opd st.s)).length),VR w ρ (uA outer ρ st.h) ((xs.map a.eval).getD j undef) (xs.map (opd st.s))[j]:=λj hj=>by
 have oX:j<xs.length:=by simpa using hj
 rw[List.getD_eq_getElem?_getD,List.getElem?_map,List.getElem?_eq_getElem oX,List.getElem_map];exact hr.opd xs[j]
def zr1(f:Nat)(first captured:Array Operand)(ho:o.op= .makeFunc (.func f) first captured)(hk:qB C i o st some=some st'):QC C.P o a w (KC C w0 outer own i ρ st'):=by
 simp only[qB,ho]at hk;cases he:first.isEmpty
 case false=>simp[he]at hk
 simp only[he,dD]at hk;split at hk
 case h_2=>cases hk
 rename_i cs ids zZ;have he:first= #[]:=by simpa using he
 subst he;obtain⟨h1,h2⟩:=hr.heap.mark ids;obtain⟨h3,h4⟩:=zfM hr.heap (zr2 hr captured.toList) zZ;have NV:ZA C w0 outer own ρ {st with h:=BC st.h ids} a w:=hr.turn h1 h2;refine pC (v:= .func (.func f) #[] (captured.map a.eval)) (w':=w) (by simp[execOp,ho,Instr.makeFunc]) (NV.after (.fn f cs _ (by simp[h3]) λj hj=>?_) hk);have:=(h4 j hj).1;rw[Array.getD_eq_getD_getElem?]
 grind
def zri(hC:VF C)(t:TypeId)(len:Nat)(parts:Array (Nat×Operand))(ho:o.op= .buildSlice t len parts)(hi:ρ i=none)(hk:qB C i o st some=some st'):
  QC C.P o a w (KC C w0 outer own i ρ st'):=by
 simp only[qB,ho]at hk;split at hk
 ·cases hk
 rename_i tn YW;obtain⟨e,he,F3⟩:=Option.bind_eq_some_iff.1 YW
 have hu:C.P.underlying t=some (.slice e):=by
  unfold OO at he
  grind
 obtain⟨info,z,iZ,hi2,G5,A4,Z5⟩:=hC.ok e tn F3;split at hk
 ·cases hk
 rename_i vs D4;cases hb:(Nat.beq vs.length len&&Nat.ble len 1000)
 case false=>simp[hb]at hk
 simp only[hb,dD]at hk;simp only[Bool.and_eq_true]at hb;have KV:=Nat.eq_of_beq_eq_true hb.1;have wW:=Nat.le_of_ble_eq_true hb.2;split at hk
 ·cases hk
 rename_i vs' ids zZ;obtain⟨l,hl,hk⟩:=Option.bind_eq_some_iff.1 ((eT _ _).symm.trans hk);obtain⟨d6,U9⟩:=zjv parts.toList 0 vs D4;have CZ:parts.toList.length=len:=by omega
 have hps:parts.size=len:=by rw[←Array.length_toList];exact CZ
 have GX:∀j (hj:j<vs.length),VR w ρ (uA outer ρ st.h) (a.eval ((parts.toList.map (·.2)).getD j (.const undef))) vs[j]:=λj hj=>by
  obtain⟨_,h4,h5⟩:=U9 j (by omega);rw[h5,List.getD_eq_getElem?_getD,List.getElem?_map,List.getElem?_eq_getElem (by omega)];exact hr.opd _
 obtain⟨h1,h2⟩:=hr.heap.mark ids;obtain⟨h3,h4⟩:=zfM hr.heap GX zZ;obtain⟨h5,h6⟩:=zkN tn _ l hl;have NV:ZA C w0 outer own ρ {st with h:=BC st.h ids} a w:=hr.turn h1 h2
 -- the cells
 let pv:List (Nat×Value):=parts.toList.map λp=>(p.1,a.eval p.2);have V9:pv.length=len:=by simp[pv];omega
 have P8:l.length=len:=by rw[h5,List.length_map];omega
 have W9:∀j (hj:j<pv.length),(pv[j]).1=0+j∧(pv[j]).2.cells.size=sz tn∧∀q,q<sz tn→∃(oX:j<l.length),VR w ρ (uA outer ρ (BC st.h ids)) ((pv[j]).2.cells.getD q undef) ((enc tn l[j]).getD q .undef):=λj hj=>by
  have hjv:j<vs'.length:=by omega
  have B0:j<l.length:=by omega
  obtain⟨e1,e2,e3⟩:=U9 j (by omega);obtain⟨g1,g2⟩:=h4 j hjv
  have mZ:(parts.toList.map (·.2)).getD j (.const undef)=(parts.toList[j]'(by omega)).2:=by
   grind
  rw[mZ]at g1;have BW:=h6 j (by simpa using hjv) B0;rw[List.getElem_map]at BW;have R1:(cellsOf vs'[j]).length=sz tn:=by rw[BW.len,qD]
  have X9:pv[j]=((parts.toList[j]'(by omega)).1,a.eval (parts.toList[j]'(by omega)).2):=by simp[pv]
  rw[X9]
  have m6:lH (cellsOf vs'[j])=true:=by
   rw[lH,List.all_eq_true];intro c hc;obtain⟨q,hq,rfl⟩:=List.mem_iff_getElem.1 hc;have hs:=BW.get q hq (by rw[←BW.len];exact hq);have fZ:=ziX tn l[j] q (by omega);rw[US _ _ _ (by rw[qD];omega)]at fZ;generalize (cellsOf vs'[j])[q]=c at hs;generalize (enc tn l[j])[q]'_=d at hs fZ;cases hs<;>first | exact fZ | rfl
  obtain⟨f1,f2,f3⟩:=zc0 g1 m6;refine⟨e1,by rw[f1,R1],λq hq=>⟨B0,?_⟩⟩;have:=VR.sub (BW.get q (by omega) (by rw[qD];exact hq)) (f2 q (by omega))
  grind
 obtain⟨cs',c1,c2,c3,_⟩:=zlz (sz tn) pv 0 ((Array.range (len *sz tn)).map (λk=>(if len *sz tn=0 then(#[]:Array Value)else z.cells)[k % (if len *sz tn=0 then(#[]:Array Value)else z.cells).size]!))
  (λj hj=>⟨(W9 j hj).1,(W9 j hj).2.1⟩) (by simp[V9])
 have Y9:cs'.size=len *sz tn:=by rw[c2];simp
 have Z9:¬(2^24<len *sz tn):=by
  have h1:=zer tn;have:len *sz tn≤1000 *128:=Nat.mul_le_mul wW h1;omega
 have GV:(execOp a.eval o).run C.P w= .ok (.value (.slice (some ⟨w.heap.size,0,none⟩) len len)) (w.alloc (.cells cs' e)):=by
  have hpm:(parts.map λx=>(x.1,a.eval x.2)).toList=pv:=by simp[pv]
  simp only[execOp,ho,Instr.buildSlice,Sem.run_bind,AF hu,Result.andThen_ok,sizeOf,typeInfo,run_program,iZ,Sem.run_pure,hi2,gt_iff_lt,Z9,if_false]
  by_cases h0:len *sz tn=0
  ·simp only[h0,if_true]at c1⊢;simp only[Sem.run_bind,Sem.run_pure,Result.andThen_ok,hpm,c1];rfl
  ·simp only[h0,if_false]at c1⊢;simp only[Sem.run_bind,Sem.run_pure,Result.andThen_ok,zeroValue,typeInfo,run_program,iZ,A4,hpm,c1];rfl
 refine pC GV (NV.newRow hi ⟨w.heap.size,len,len,false⟩ (λ_=>rfl) _ (EV _ _) (λb hb=>vU _ _ _ hb) (λ_=>by simp) (c:= .arr tn l) (λbad IV=>?_) (λbad=>?_) hk)
 ·refine⟨P8.symm, .inr ⟨rfl,zgh (hC.tys e tn F3),Nat.le_refl _,by unfold maxLen;simp;omega,λj hj=>⟨World.frozen?_alloc_new _ _ _ _,?_⟩,λi' nW j hj=>?_⟩⟩
  ·have oX:j<len *sz tn:=hj;rw[fO w cs' e j (by omega)];rfl
  ·have hip:i'<pv.length:=by omega
   have MV:i' *sz tn+j<cs'.size:=by
    rw[Y9];have:(i'+1) *sz tn≤len *sz tn:=Nat.mul_le_mul_right _ (by omega)
    grind
   obtain⟨_,_,g3⟩:=W9 i' hip;obtain⟨_,g4⟩:=g3 j hj;refine⟨_,fO w cs' e _ MV,?_⟩
   grind
 ·exact .ow i ⟨w.heap.size,len,len,false⟩ (QA _ _ _) (Nat.le_refl _) (by unfold maxLen;simp;omega) rfl
end
end Go.D
namespace Go.D
variable [jA]
section
variable {C:Cx} {w0:World} {outer own:Nat→Prop} {ρ:Nat→Option RI} {st st':St} {a:Act} {w:World}
def zkr(hr:ZA C w0 outer own ρ st a w)(pl:List (Nat×Nat)):∀(parts:List (Nat×Operand)) (cs cs':List V) (vs:Array Value),
  zag pl st.s cs parts=some cs'→vs.size=cs.length→(∀j (hj:j<cs.length),VR w ρ (uA outer ρ st.h) (vs.getD j undef) cs[j])→
  ∃vs',Instr.fill (λi=>pl[i]?) vs (parts.map λp=>(p.1,a.eval p.2))=some vs'∧vs'.size=cs'.length∧∀j (hj:j<cs'.length),VR w ρ (uA outer ρ st.h) (vs'.getD j undef) cs'[j]
 | [],cs,cs',vs,hf,hs,hv=>by simp[zag]at hf;subst hf;exact⟨vs,rfl,hs,hv⟩
 | (f,x) :: r,cs,cs',vs,hf,hs,hv=>by
  simp only[zag]at hf;split at hf
  ·cases hf
  rename_i off n hp;cases hb:(Nat.beq n (cellsOf (opd st.s x)).length&&lH (cellsOf (opd st.s x))&&Nat.ble (off+n) cs.length)
  case false=>simp[hb]at hf
  simp only[hb,cond_true]at hf;simp only[Bool.and_eq_true]at hb;obtain⟨⟨J3,E2⟩,hb3⟩:=hb;have hn:=Nat.eq_of_beq_eq_true J3;have wW:=Nat.le_of_ble_eq_true hb3;obtain⟨g1,g2,_⟩:=zc0 (hr.opd x) E2;obtain⟨k1,k2⟩:=zkz (a.eval x) off vs;obtain⟨s1,s2⟩:=zfZ cs off (cellsOf (opd st.s x)) (by omega)
  obtain⟨vs',h1,h2,h3⟩:=zkr hr pl r _ cs' _ hf (by rw[k1,s1,hs]) (λj hj=>by
   rw[s2 j (by omega) hj,k2 j (by omega)]
   by_cases IW:off≤j∧j<off+(cellsOf (opd st.s x)).length
   ·rw[dif_pos IW,if_pos (by omega)];exact g2 _ (by omega)
   ·rw[dif_neg IW,if_neg (by omega)];exact hv j (by omega))
  refine⟨vs',?_,h2,h3⟩;simp only[List.map_cons,Instr.fill,hp];rw[if_neg]
  ·exact h1
  ·simp;omega
omit [jA]in
def zkW{f g:Nat→Option (Nat×Nat)}(hfg:∀k p,f k=some p→g k=some p):∀(cs:Array Value) (l:List (Nat×Value)) (r:Array Value),Instr.fill f cs l=some r→Instr.fill g cs l=some r
 | cs,[],r,h=>h
 | cs,(i,v) :: l,r,h=>by
  simp only[Instr.fill]at h⊢;cases hf:f i with
  | none=>rw[hf]at h;cases h
  | some p=>
   obtain⟨off,n⟩:=p;rw[hf]at h;rw[hfg i _ hf];simp only at h⊢;split at h
   ·cases h
   ·rename_i hc;rw[if_neg hc];exact zkW hfg _ l r h
variable {o:Oper} {i:Nat} (hr:ZA C w0 outer own ρ st a w)
include hr
def zuw(t:TypeId)(parts:Array (Nat×Operand))(ho:o.op= .build t parts)(hk:qB C i o st some=some st'):QC C.P o a w (KC C w0 outer own i ρ st'):=by
 simp only[qB,ho]at hk;split at hk
 case h_2=>cases hk
 rename_i cs pl hz CZ;obtain⟨cs',hf,IV⟩:=Option.bind_eq_some_iff.1 ((eT _ _).symm.trans hk);unfold zeroCells at hz;split at hz
 case h_2=>cases hz
 rename_i z gZ;cases hb:lH (z.cells.toList.map WO)<;>simp[hb]at hz
 subst hz;obtain⟨info,iZ,hi2⟩:=Option.bind_eq_some_iff.1 gZ
 obtain⟨vs',h1,h2,h3⟩:=zkr hr pl parts.toList _ cs' z.cells hf (by simp) (λj hj=>by
  rw[List.getElem_map];have oX:j<z.cells.size:=by simpa using hj
  rw[Array.getD_eq_getD_getElem?,Array.getElem?_eq_getElem oX];exact zdS _)
 have E4:C.P.built t (parts.map λ(i,x)=>(i,a.eval x)).toList=some vs':=by
  unfold zmk at CZ;split at CZ
  ·rename_i fs hu;simp only[Program.built,iZ,hu,hi2,CZ,Array.toList_map];simpa using h1
  ·rename_i n e hu;split at CZ
   case h_2=>cases CZ
   rename_i ie n6;cases hb:Nat.ble n 128<;>simp[hb]at CZ
   subst CZ;simp only[Program.built,iZ,hu,hi2,n6,Array.toList_map];refine zkW (λk p hp=>?_) _ _ _ h1;simp only[List.getElem?_map]at hp;cases hk:(List.range n)[k]? with
   | none=>simp[hk]at hp
   | some y=>
    simp[hk]at hp
    have:y=k:=by
     obtain⟨MV,hy⟩:=List.getElem?_eq_some_iff.1 hk;simpa using hy.symm
    subst this;rw[←hp]
  ·cases CZ
 refine pC (v:= .agg vs') (w':=w) ?_ (hr.after (.agg cs' vs' h2 h3) IV);simp only[execOp,ho,Sem.run_bind,run_build w t _ vs' E4,Result.andThen_ok];rfl
def zry(hC:VF C)(t:TypeId)(x y:Operand)(ho:o.op= .makeSlice t x y)(hi:ρ i=none)(hk:qB C i o st some=some st'):QC C.P o a w (KC C w0 outer own i ρ st'):=by
 simp only[qB,ho]at hk;split at hk
 case h_2=>cases hk
 rename_i tn z YW hz;obtain⟨e,he,F3⟩:=Option.bind_eq_some_iff.1 YW
 have hu:C.P.underlying t=some (.slice e):=by
  unfold OO at he;split at he
  ·rename_i h1;cases he;exact h1
  ·cases he
 obtain⟨info,z',iZ,hi2,G5,A4,Z5⟩:=hC.ok e tn F3;rw[he,Option.bind_some]at hz;unfold zeroCells at hz;rw[iZ,Option.bind_some,A4]at hz;simp only at hz;cases hb:lH (z'.cells.toList.map WO)<;>simp[hb]at hz
 subst hz;split at hk
 case h_2=>cases hk
 rename_i n c hn hc;cases DZ:(decide (0≤n)&&decide (n≤(bA:Int))&&(n==c))
 case false=>simp[DZ]at hk
 simp only[DZ,cond_true]at hk;simp only[Bool.and_eq_true,decide_eq_true_eq,beq_iff_eq]at DZ;obtain⟨⟨h0,MW⟩,rfl⟩:=DZ;obtain⟨x0,lY,hk⟩:=Option.bind_eq_some_iff.1 ((eT _ _).symm.trans hk);have hx:=hr.opd x;rw[hn]at hx;have hy:=hr.opd y;rw[hc]at hy;generalize C0:a.eval x=vx at hx;generalize D0:a.eval y=vy at hy;cases hx;cases hy
 have GV:=run_make (P:=C.P) w t e info z' hu iZ A4 .i64 .i64 n n h0 (Int.le_refl _) (by
  have h1:info.bytes *n≤1024 *n:=Int.mul_le_mul_of_nonneg_right (by omega) h0;unfold bA at MW;omega) (by unfold bA at MW;omega)
 have o6:(execOp a.eval o).run C.P w= .ok (.value (.slice (some ⟨w.heap.size,0,none⟩) n.toNat n.toNat)) (w.alloc (.cells (madeCells z'.cells (n.toNat *info.size)) e)):=by
  simp only[execOp,ho,C0,D0,Sem.run_bind,GV,Result.andThen_ok];rfl
 have hnm:n.toNat≤maxLen:=by unfold maxLen;unfold bA at MW;omega
 have YV:(madeCells z'.cells (n.toNat *info.size)).size=n.toNat *sz tn:=by rw[size_madeCells,hi2]
 refine pC o6 (hr.newRow hi ⟨w.heap.size,n.toNat,n.toNat,false⟩ (λ_=>rfl) _ (EV _ _) (λb hb=>vU _ _ _ hb) (λ_=>by simp) (c:= .arr tn (List.replicate n.toNat x0)) (λbad IV=>?_) (λbad=>?_) hk)
 ·refine⟨by simp, .inr ⟨rfl,zgh (hC.tys e tn F3),Nat.le_refl _,hnm,λj hj=>⟨World.frozen?_alloc_new _ _ _ _,?_⟩,λi' nW j hj=>?_⟩⟩
  ·have oX:j<n.toNat *sz tn:=hj;rw[fO w _ e j (by omega)];rfl
  ·have IW:i'<n.toNat:=by simpa using nW
   have MV:i' *sz tn+j<(madeCells z'.cells (n.toNat *info.size)).size:=by
    rw[YV];have:(i'+1) *sz tn≤n.toNat *sz tn:=Nat.mul_le_mul_right _ IW;rw[Nat.add_mul,Nat.one_mul]at this;omega
   refine⟨_,fO w _ e _ MV,?_⟩;have VW:j<z'.cells.size:=by omega
   have mZ:(madeCells z'.cells (n.toNat *info.size)).getD (i' *sz tn+j) undef=z'.cells.getD j undef:=by
    rw[Array.getD_eq_getD_getElem?,Array.getElem?_eq_getElem MV,Array.getD_eq_getD_getElem?,Array.getElem?_eq_getElem VW];simp only[madeCells,Array.getElem_map,Array.getElem_range,Option.getD_some]
    have aAA:(i' *sz tn+j) % z'.cells.size=j:=by
     rw[Z5,Nat.add_comm,Nat.mul_comm,Nat.add_mul_mod_self_left,Nat.mod_eq_of_lt hj]
    rw[aAA,getElem!_pos z'.cells j VW]
   rw[mZ,List.getElem_replicate];have hs:=MF tn lY;have E5:=hs.get j (by simpa using VW) (by rw[qD];exact hj);rw[US _ _ _ (by rw[qD];exact hj)];refine IV _ _ (VR.sub E5 ?_);rw[List.getElem_map,Array.getD_eq_getD_getElem?,Array.getElem?_eq_getElem VW];simpa using zdS z'.cells[j]
 ·exact .ow i ⟨w.heap.size,n.toNat,n.toNat,false⟩ (QA _ _ _) (Nat.le_refl _) hnm rfl
def zs7(hC:VF C)(src d:TypeId)(x:Operand)(ho:o.op= .convert src d x)(hi:ρ i=none)(hk:qB C i o st some=some st'):QC C.P o a w (KC C w0 outer own i ρ st'):=by
 simp only[qB,ho]at hk;have hx:=hr.opd x
 have aW:∀v w',(convert src d (a.eval x)).run C.P w= .ok v w'→(execOp a.eval o).run C.P w= .ok (.value v) w':=λv w' h1=>by
  simp[execOp,ho,h1]
 split at hk
 ·rename_i k0 k k1 n h1 h2 h3;rw[h3]at hx;generalize hv:a.eval x=v at hx aW;cases hx;refine pC (aW (.int k (k.wrap n)) w ?_) (hr.after (.int _ _ (iS _ _)) hk);simp[convert,run_underlying h1,run_underlying h2,Conv.intToInt]
 ·rename_i e s h1 h2 h3;split at hk
  case h_2=>cases hk
  rename_i h4 h5;rw[h3]at hx;cases MW:Nat.ble s.length bA
  case false=>simp[MW]at hk
  simp only[MW,cond_true]at hk;have MW:=Nat.le_of_ble_eq_true MW;generalize hv:a.eval x=v at hx aW;cases hx with
  | str _ hs=>
  obtain⟨info,z,iZ,hi2,G5,A4,Z5⟩:=hC.ok e .byte h4;have GV:=run_bytes_of_string (P:=C.P) w src d e ⟨s.toArray⟩ h1 h2 h5;have hss:(ByteArray.mk s.toArray).size=s.length:=by simp[ByteArray.size]
  rw[hss]at GV;have vY:=grownCap_ge w s.length 0 e;have I5:grownCap w s.length 0 e≤maxLen:=grownCap_le_maxLen w s.length 0 e hs;generalize I0:grownCap w s.length 0 e=cap at GV vY I5;have F4:(bytesRow ⟨s.toArray⟩ cap).size=cap:=by simp[bytesRow,hss];omega
  refine pC (aW _ _ GV) (hr.newRow hi ⟨w.heap.size,s.length,cap,false⟩ (λ_=>rfl) _ (Wx.trans (zl6 w) (EV _ _))
   (λb hb=>vU w.drew _ b hb) (λ_=>by simp) (c:= .arr .byte s) (λbad IV=>?_) (λbad=>?_) hk)
  ·have ZV:∀j,j<cap→(w.drew.alloc (.cells (bytesRow ⟨s.toArray⟩ cap) e ((bytesRow ⟨s.toArray⟩ cap).size,(bytesRow ⟨s.toArray⟩ cap).size+1))).cell? (at_ w.heap.size j)=(bytesRow ⟨s.toArray⟩ cap)[j]?:=λj hj=>by
    have hh:(w.drew.alloc (.cells (bytesRow ⟨s.toArray⟩ cap) e ((bytesRow ⟨s.toArray⟩ cap).size,(bytesRow ⟨s.toArray⟩ cap).size+1))).heap[w.heap.size]?=some (.cells (bytesRow ⟨s.toArray⟩ cap) e ((bytesRow ⟨s.toArray⟩ cap).size,(bytesRow ⟨s.toArray⟩ cap).size+1)):=by
     show(w.heap.push _)[w.heap.size]?=_
     simp
    unfold World.cell? at_;rw[hh];rfl
   refine⟨rfl, .inr ⟨rfl,⟨_,e,_,by show(w.heap.push _)[w.heap.size]?=_;rw[Array.getElem?_push_size],hC.tys e .byte h4⟩,vY,I5,λj hj=>?_,λi' nW j hj=>?_⟩⟩
   ·have oX:j<cap:=by simpa[sz]using hj
    refine⟨?_,?_⟩
    ·have:=World.frozen?_alloc_mark w.drew (bytesRow ⟨s.toArray⟩ cap) e (bytesRow ⟨s.toArray⟩ cap).size ((bytesRow ⟨s.toArray⟩ cap).size+1) j;rw[World.size_drew]at this;show World.frozen? _ ⟨w.heap.size,j,none⟩=false
     rw[this,F4];simp;omega
    ·rw[ZV j oX,Array.getElem?_eq_getElem (by omega)];rfl
   ·have s6:j=0:=by simp[sz]at hj;exact hj
    subst s6;have E3:i'<s.length:=nW;refine⟨.int .u8 (s[i'].toNat:Int),?_,?_⟩
    ·simp only[sz,Nat.mul_one,Nat.add_zero];rw[ZV i' (by omega),bytesRow_at _ _ _ (by simpa using E3)];simp
    ·have:=s[i'].toNat_lt;exact .int _ _ ⟨by simp[IntKind.min,IntKind.signed],by simp[IntKind.max,IntKind.signed,IntKind.bits];omega⟩
  ·exact .ow i ⟨w.heap.size,s.length,cap,false⟩ (QA _ _ _) vY I5 rfl
 ·rename_i e h1 h2;split at hk
  case h_2=>cases hk
  rename_i l h5 h4;cases MW:Nat.ble l.length bA
  case false=>simp[MW]at hk
  simp only[MW,cond_true]at hk;have MW:=Nat.le_of_ble_eq_true MW;obtain⟨ao,cap,hv,O0⟩:=zlu hr hx h4;refine pC (aW (.string ⟨l.toArray⟩) w ?_) (hr.after (.str l (by unfold bA at MW;unfold maxLen;omega)) hk);rw[hv]
  have empty:∀(ao:Option Addr) (c:Nat),(convert src d (.slice ao 0 c)).run C.P w= .ok (.string ⟨#[]⟩) w:=λao c=>by
   cases ao with
   | none=>exact run_convert_bytes_nil w src e h1 h5 0 c d h2
   | some ad=>exact run_convert_bytes_back w src d e ad c [] h1 h5 h2 (λj hj=>by simp at hj)
  rcases O0 with rfl | ⟨b,off,rfl,hc⟩
  ·exact empty ao cap
  ·refine run_convert_bytes_back w src d e (at_ b off) cap l h1 h5 h2 λj hj=>?_;obtain⟨u,c1,c2⟩:=hc j hj 0 (by simp[sz]);simp only[sz,Nat.mul_one,Nat.add_zero]at c1;rw[tG,c1];have:(enc .byte l[j]).getD 0 .undef= .int .u8 (l[j].toNat:Int):=rfl;rw[this]at c2;cases c2;rfl
 ·rename_i e0 e r h1 h2 h3;split at hk
  case h_2=>cases hk
  rename_i y l hsd h5 h4;have hsd:=Nat.eq_of_beq_eq_true hsd;subst hsd;have he:e0=e:=by rw[h1]at h2;cases h2;rfl
  subst he;rw[h3]at hx;obtain⟨ri,hρ,WV,Z3⟩:=hr.heap.rows r _ h4;obtain⟨KV,O0⟩:=WV;generalize hv:a.eval x=v at hx aW;cases hx with
  | owN _ ri' ao P0 hn fW=>
   rw[hρ]at P0;cases P0;rw[hn]at KV;simp at KV
  | ow _ ri' P0 hn hc fW=>
  rw[hρ]at P0;cases P0
  rcases O0 with⟨t6,_⟩ | ⟨_,ce,_,_,OX,PX⟩
  ·rw[fW]at t6;cases t6
  have G3:0<ri.cap *sz .byte:=by
   have:0<ri.n:=by rw[KV];simp
   simp[sz];omega
  obtain⟨c,elem,lo,nW,I2⟩:∃c elem lo nW,w.heap[ri.b]?=some (.cells c elem (lo,nW)):=by
   have:=(OX 0 G3).2;unfold World.cell? at_ at this;simp only at this;split at this
   ·rename_i c elem fr hb;exact⟨c,elem,fr.1,fr.2,hb⟩
   ·cases this
  have gX:(w.freeze ⟨ri.b,c.size,none⟩ 1).heap=w.heap.modify ri.b fun
    | .cells c' elem (lo,hi)=> .cells c' elem (if lo==hi then(c.size,c.size+1)else(min lo c.size,max hi (c.size+1)))
    | o=>o:=by
   unfold World.freeze;rw[if_neg (by decide)];rfl
  generalize hW:w.freeze ⟨ri.b,c.size,none⟩ 1=W at gX
  have G4:∀b,b≠ri.b→W.heap[b]?=w.heap[b]?:=λb hb=>by
   rw[gX,Array.getElem?_modify,if_neg (Ne.symm hb)]
  have ZV:∀j,W.cell? (at_ ri.b j)=w.cell? (at_ ri.b j):=λj=>by
   unfold World.cell? at_;simp only[gX,Array.getElem?_modify,I2,if_true,Option.map_some]
  have ceW:OF W ri.b .byte:=by
   obtain⟨c',e',z',k1,k2⟩:=ce;rw[I2]at k1;cases k1;exact⟨c,elem,_,by rw[gX,Array.getElem?_modify,if_pos rfl,I2];rfl,k2⟩
  have GV:(convert src src (.slice (some (at_ ri.b 0)) ri.n ri.cap)).run C.P w= .ok (.slice (some (at_ ri.b 0)) ri.n ri.cap) W:=by
   have hsh:w.shape? ri.b=some (elem,c.size):=by simp[World.shape?,I2]
   simp[convert,run_underlying h1,run_underlying h5,markStringish,at_,hsh];exact hW
  have yZ:Wx w W:=by
   rw[←hW];unfold World.freeze;rw[if_neg (by decide)];exact⟨rfl,rfl,rfl,by simp⟩
  have XW:=hr.heap.write h4 hρ fW W yZ (by rw[gX];simp) G4 (.box []) (λ_=>⟨fW,λj hj=>by simp at hj⟩)
  have bW:=XW.1.less (h':=AA st.h r none) (λq row' hq=>by
   by_cases gW:q=r
   ·subst gW;rw[QA]at hq;cases hq
   ·rw[CA _ _ _ _ gW]at hq;exact⟨row',by rw[CA _ _ _ _ gW];exact hq,rfl,λh=>h⟩)
  have nZ:=hr.turn bW.1 (λu d hu=>bW.2 _ _ (XW.2 u d hu))
  have Q8:¬uA outer ρ (AA st.h r none) ri.b:=by
   rintro(hb | ⟨q,row,qi,q1,q2,q3,q4,q5⟩)
   ·exact(Z3 fW).1.1 hb
   ·by_cases gW:q=r
    ·subst gW;rw[QA]at q1;cases q1
    ·rw[CA _ _ _ _ gW]at q1;exact gW (hr.heap.inj q r row _ qi ri q1 h4 q3 hρ q4 fW q5)
  refine pC (aW _ _ GV) (nZ.after ?_ hk);have I4:ri.n=(y :: l).length:=KV;rw[I4];rw[I4]at hn;refine .slC .byte (y :: l) ri.b 0 ri.cap (λi _=> .int .u8 ((((y :: l).getD i 0:UInt8).toNat:Nat):Int)) Q8 hn hc (λ_=> .inr ceW) (λi hi j hj=>?_) (λi hi j hj=>?_)
  ·have s6:j=0:=by simp[sz]at hj;exact hj
   subst s6;obtain⟨u,c1,c2⟩:=PX i hi 0 (by simp[sz]);rw[ZV];simp only[Nat.zero_add];rw[c1];have e2:(enc .byte (y :: l)[i]).getD 0 .undef= .int .u8 ((y :: l)[i].toNat:Int):=rfl;rw[e2]at c2;cases c2;have e3:(y :: l).getD i (0:UInt8)=(y :: l)[i]:=by rw[List.getD_eq_getElem?_getD,List.getElem?_eq_getElem hi];rfl
   rw[e3]
  ·have s6:j=0:=by simp[sz]at hj;exact hj
   subst s6;have e3:(y :: l).getD i (0:UInt8)=(y :: l)[i]:=by rw[List.getD_eq_getElem?_getD,List.getElem?_eq_getElem hi];rfl
   rw[e3];have:=UInt8.toNat_lt (y :: l)[i];show VR _ _ _ _ (.int .u8 ((((y :: l)[i]:UInt8).toNat:Nat):Int))
   exact .int _ _ ⟨by simp[IntKind.min,IntKind.signed],by simp[IntKind.max,IntKind.signed,IntKind.bits];omega⟩
 ·cases hk
end
end Go.D
namespace Go.D
variable [jA]
section
variable {C:Cx} {w0:World} {outer own:Nat→Prop} {ρ:Nat→Option RI} {st st':St} {a:Act} {w:World} {h:Nat→Option vA}
def Out(base N r:Nat):Prop:=¬(base≤r∧r<base+N)
omit [jA]in
def xC(ow:List Nat)(base:Nat)(h:Nat→Option vA):∀(es:List V) (p r:Nat),bB ow base h p es r=match bB ow base (λ_=>none) p es r with | some x=>some x | none=>h r
 | [],p,r=>rfl
 | e :: es,p,r=>by
  have ih:=xC ow base h es (p+1) r;cases e<;>simp only[bB]<;>try exact ih
  cases hb:ow.any (Nat.beq p)
  ·simpa using ih
  ·simp only[cond_true]
   by_cases hr:r=base+p
   ·subst hr;simp[QA]
   ·simp only[CA _ _ _ _ hr];exact ih
omit [jA]in
def dE(ow:List Nat)(base:Nat):∀(es:List V) (p r:Nat),(r<base+p∨base+p+es.length≤r)→bB ow base (λ_=>none) p es r=none
 | [],p,r,_=>rfl
 | e :: es,p,r,hr=>by
  have ih:=dE ow base es (p+1) r (by simp at hr;omega);cases e<;>simp only[bB]<;>try exact ih
  cases hb:ow.any (Nat.beq p)
  ·simpa using ih
  ·simp only[cond_true];rw[CA _ _ _ _ (by simp at hr;omega)];exact ih
omit [jA]in
def FF(ow:List Nat)(base:Nat):∀(es:List V) (p:Nat),(RA ow base p es).length=es.length
 | [],p=>rfl
 | e :: es,p=>by cases e<;>simp[RA,FF ow base es (p+1)]
def oH(h g:Nat→Option vA):Prop:=∀r row,h r=some row→g r=some row
omit [jA]in
def zfp{c:V}{h g:Nat→Option vA}{x:V×List Nat}(hg:oH h g)(hf:IG h c=some x):IG g c=some x∧∀r∈x.2,∃row,h r=some row:=by
 unfold IG at hf;split at hf
 ·rename_i r;split at hf
  ·rename_i t l m hr;refine⟨by simp only[IG,hg _ _ hr];exact hf,?_⟩;cases hm:m.isLock<;>simp[hm]at hf
   subst hf;intro q hq;simp at hq;subst hq;exact⟨_,hr⟩
  ·cases hf
 ·rename_i r t off len;split at hf
  ·rename_i t' l m hr;refine⟨by simp only[IG,hg _ _ hr];exact hf,?_⟩;cases hm:m.isLock
   ·simp only[hm,cond_false]at hf;split at hf
    ·simp at hf;subst hf;intro q hq;simp at hq;subst hq;exact⟨_,hr⟩
    ·cases hf
   ·simp[hm]at hf
  ·cases hf
 ·cases hb:uG 8 c<;>simp[hb]at hf
  subst hf;refine⟨?_,by simp⟩;unfold IG;split
  ·simp[uG]at hb
  ·simp[uG]at hb
  ·simp[hb]
omit [jA]in
def zfr{h g:Nat→Option vA}(hg:oH h g):∀{cs:List V} {x:List V×List Nat},bG h cs=some x→bG g cs=some x∧∀r∈x.2,∃row,h r=some row
 | [],x,hf=>by simp[bG]at hf;subst hf;simp[bG]
 | c :: cs,x,hf=>by
  simp only[bG]at hf;split at hf
  ·cases hf
  rename_i c' i h1;split at hf
  ·cases hf
  rename_i cs' j h2;cases hf;obtain⟨k1,k2⟩:=zfp hg h1;obtain⟨k3,k4⟩:=zfr hg h2;refine⟨by simp[bG,k1,k3],λr hr=>?_⟩
  rcases List.mem_append.1 hr with hr | hr
  ·exact k2 r hr
  ·exact k4 r hr
omit [jA]in
def zlp{c:V}{h g:Nat→Option vA}{x:V×List Nat}(hg:oH h g)(hf:uH h c=some x):uH g c=some x∧∀r∈x.2,∃row,h r=some row:=by
 unfold uH at hf;split at hf
 ·split at hf
  ·rename_i cs cs' i h1;cases hf;obtain⟨k1,k2⟩:=zfr hg h1;exact⟨by simp[uH,k1],k2⟩
  ·cases hf
 ·rename_i r off;split at hf
  ·rename_i cs m hr;cases hb:(m.isLock||cs.isEmpty)
   case true=>simp[hb]at hf
   simp only[hb,cond_false]at hf;split at hf
   ·rename_i cs' i h1;cases hf;obtain⟨k1,k2⟩:=zfr hg h1;refine⟨by simp[uH,hg _ _ hr,hb,k1],λq hq=>?_⟩
    rcases List.mem_cons.1 hq with rfl | hq
    ·exact⟨_,hr⟩
    ·exact k2 q hq
   ·cases hf
  ·cases hf
 ·rename_i h1 h2;obtain⟨k1,k2⟩:=zfp hg hf;refine⟨?_,k2⟩;unfold uH;split
  ·exact absurd rfl (h1 _)
  ·exact absurd rfl (h2 _ _)
  ·exact k1
omit [jA]in
def zga{h g:Nat→Option vA}(hg:oH h g)(ids:List Nat):oH (BC h ids) (BC g ids):=by
 intro r row hr;rw[EF]at hr⊢
 by_cases hm:r∈ids
 ·simp only[hm,if_true,Option.map_eq_some_iff]at hr⊢;obtain⟨row',h1,rfl⟩:=hr;exact⟨row',hg _ _ h1,rfl⟩
 ·simp only[hm,if_false]at hr⊢;exact hg _ _ hr
def zf7{bad bad':Nat→Prop}{ri:RI}{ρ':Nat→Option RI}{t:TN}{l:List (El t)}(hr:jE w ρ bad ri (.arr t l))
  (hv:∀u d,VR w ρ bad u d→VR w ρ' bad' u d):jE w ρ' bad' ri (.arr t l):=hr.keep (λ_=>rfl) hv
def rB.rename(hh:rB w0 outer own ρ h w){r i:Nat}{t:TN}{l:List (El t)}{ri:RI}(hr:h r=some ⟨.arr t l, .own⟩)(hρ:ρ r=some ri)(hi:ρ i=none):
  rB w0 outer own (AA ρ i (some ri)) (AA (AA h r none) i (some ⟨.arr t l, .own⟩)) w∧
   ∀u d,VR w ρ (uA outer ρ h) u d→VR w (AA ρ i (some ri)) (uA outer (AA ρ i (some ri)) (AA (AA h r none) i (some ⟨.arr t l, .own⟩))) u d:=by
 obtain⟨ri',h1,h2,h3⟩:=hh.rows r _ hr;rw[hρ]at h1;cases h1;cases hn:ri.nl
 ·exact hh.move hr hρ hn hi rfl hn w (Wx.refl _) rfl (λ_ _=>rfl) _ λbad hv=>zf7 h2 hv
 ·obtain⟨k1,k2⟩:=hh.less (h':=AA h r none) (λq row' hq=>by
   by_cases gW:q=r
   ·subst gW;rw[QA]at hq;cases hq
   ·rw[CA _ _ _ _ gW]at hq;exact⟨row',hq,rfl,id⟩)
  obtain⟨k3,k4⟩:=k1.alloc i hi ri (λh=>by rw[hn]at h;cases h) w (Wx.refl _) (λ_ _=>rfl) (λh=>by rw[hn]at h;cases h) (.arr t l)
   λhv=>zf7 (zf7 h2 k2) hv
  exact⟨k3,λu d hu=>k4 _ _ (k2 _ _ hu)⟩
def rB.empty(hh:rB w0 outer own ρ h w){i:Nat}(t:TN)(hi:ρ i=none):
  rB w0 outer own (AA ρ i (some ⟨0,0,0,true⟩)) (AA h i (some ⟨.arr t [], .own⟩)) w∧
   ∀u d,VR w ρ (uA outer ρ h) u d→VR w (AA ρ i (some ⟨0,0,0,true⟩)) (uA outer (AA ρ i (some ⟨0,0,0,true⟩)) (AA h i (some ⟨.arr t [], .own⟩))) u d:=
 hh.alloc i hi ⟨0,0,0,true⟩ (λh=>by cases h) w (Wx.refl _) (λ_ _=>rfl) (λh=>by cases h) (.arr t []) λ_=>⟨rfl, .inl ⟨rfl,rfl⟩⟩
def rB.cut(hh:rB w0 outer own ρ h w){r i len:Nat}{t:TN}{l:List (El t)}{v:Value}(hr:h r=some ⟨.arr t l, .own⟩)(hi:ρ i=none)(hv:VR w ρ (uA outer ρ h) v (.ov r t 0 len)):
  ∃ri',rB w0 outer own (AA ρ i (some ri')) (AA (AA h r none) i (some ⟨.arr t (l.take len), .own⟩)) w∧
   (∀u d,VR w ρ (uA outer ρ h) u d→VR w (AA ρ i (some ri')) (uA outer (AA ρ i (some ri')) (AA (AA h r none) i (some ⟨.arr t (l.take len), .own⟩))) u d)∧
   VR w (AA ρ i (some ri')) (uA outer (AA ρ i (some ri')) (AA (AA h r none) i (some ⟨.arr t (l.take len), .own⟩))) v (.ow i):=by
 obtain⟨ri,hρq,WV,_⟩:=hh.rows r _ hr;have dZ:ri.n=l.length:=WV.1;obtain⟨ao,cap,h1,h2,h3,h4,h5⟩:=hv.ov_inv hρq
 rcases h3 with⟨rfl,rfl⟩ | ⟨rfl,fW,hc⟩
 ·obtain⟨k1,k2⟩:=hh.less (h':=AA h r none) (λq row' hq=>by
   by_cases gW:q=r
   ·subst gW;rw[QA]at hq;cases hq
   ·rw[CA _ _ _ _ gW]at hq;exact⟨row',hq,rfl,id⟩)
  obtain⟨n1,n2⟩:=k1.empty t hi;rw[List.take_zero];exact⟨⟨0,0,0,true⟩,n1,λu d hu=>n2 _ _ (k2 _ _ hu),by rw[h1];exact .owN _ ⟨0,0,0,true⟩ ao (QA _ _ _) rfl rfl⟩
 ·rw[Nat.zero_mul]at h1
  rcases WV.2 with h6 | ⟨_,ce,c1,c2,c3,c4⟩
  ·rw[fW]at h6;cases h6.1
  obtain⟨n1,n2⟩:=hh.move hr hρq fW hi (ri':=⟨ri.b,len,cap,false⟩) rfl rfl w (Wx.refl _) rfl (λ_ _=>rfl) (.arr t (l.take len)) λbad IV=>by
   refine⟨by simp;omega, .inr ⟨rfl,ce,h4,h5,λj hj=>c3 j ?_,λi hi j hj=>?_⟩⟩
   ·have:cap *sz t≤ri.cap *sz t:=Nat.mul_le_mul_right _ (by omega);have hj:j<cap *sz t:=hj;omega
   ·obtain⟨u,f1,f2⟩:=c4 i (by simp at hi;omega) j hj;refine⟨u,f1,?_⟩;rw[List.getElem_take];exact IV _ _ f2
  exact⟨_,n1,n2,by rw[h1];exact .ow _ ⟨ri.b,len,cap,false⟩ (QA _ _ _) h4 h5 rfl⟩
structure zmQ(w0:World)(outer own:Nat→Prop)(w:World)(ow:List Nat)(base N p:Nat)(ρ:Nat→Option RI)(g h h':Nat→Option vA)(es:List V)(u:Nat→Value)
  (ρ':Nat→Option RI) (g':Nat→Option vA):Prop where
 heap:rB w0 outer own ρ' g' w
 lies:oH h' g'
 out:∀r,Out base N r→ρ' r=ρ r∧(h r=none→g' r=g r)
 less:∀r,h r=none→h' r=none
 before:∀q,q<p→g' (base+q)=g (base+q)∧ρ' (base+q)=ρ (base+q)
 new:∀q,p≤q→q<N→g' (base+q)=bB ow base (λ_=>none) p es (base+q)
 ext:∀r ri,ρ r=some ri→ρ' r=some ri
 keep:∀v d,VR w ρ (uA outer ρ g) v d→VR w ρ' (uA outer ρ' g') v d
 vals:∀j (hj:j<(RA ow base p es).length),VR w ρ' (uA outer ρ' g') (u j) (RA ow base p es)[j]
 closed:∀j (hj:j<es.length),nD es[j]∧(es[j]).leaf=true
omit [jA]in
def aC.closed1{c e:V}(hs:WH c e)(h:nD c∧c.leaf=true):nD e∧e.leaf=true:=by
 cases hs with
 | refl=>exact h
 | byte n=>exact⟨λ_=> .int _ _,rfl⟩
 | nil t=>exact⟨BM _ _,rfl⟩
def qV(ow:List Nat)(base N:Nat):∀(cs:List V) (p:Nat) (h h':Nat→Option vA) (cs' es:List V) (ρ:Nat→Option RI) (g:Nat→Option vA) (u:Nat→Value),
  bE ow p cs h=some (cs',h')→aC cs' es→p+cs.length≤N→rB w0 outer own ρ g w→
  (∀j (hj:j<cs.length),VR w ρ (uA outer ρ g) (u j) cs[j])→oH h g→(∀q,q<N→h (base+q)=none)→
  (∀q,p≤q→q<N→ρ (base+q)=none)→∃ρ' g',zmQ w0 outer own w ow base N p ρ g h h' es u ρ' g'∧es.length=cs.length
 | [],p,h,h',cs',es,ρ,g,u,ht,hs,hN,hh,hv,hg,JW,hf=>by
  simp only[bE,Option.some.injEq,Prod.mk.injEq]at ht;obtain⟨rfl,rfl⟩:=ht;cases hs;refine⟨ρ,g,⟨hh,hg,λr hr=>⟨rfl,λ_=>rfl⟩,λ_ h=>h,λq hq=>⟨rfl,rfl⟩,λq h1 h2=>?_,λ_ _ h=>h,λ_ _ h=>h,λj hj=>by simp[RA]at hj,λj hj=>by simp at hj⟩,rfl⟩;cases J5:g (base+q)with
  | none=>rfl
  | some row=>obtain⟨ri,h3,_⟩:=hh.rows _ _ J5;rw[hf q h1 h2]at h3;cases h3
 | c :: cs,p,h,h',cs',es,ρ,g,u,ht,hs,hN,hh,hv,hg,JW,hf=>by
  simp only[List.length_cons]at hN;have IW:¬Out base N (base+p):=λho=>ho ⟨by omega,by omega⟩
  have Q0:∀r row,h r=some row→Out base N r:=λr row hr=>by
   rintro⟨h1,h2⟩;have:=JW (r - base) (by omega);rw[show base+(r - base)=r by omega,hr]at this;cases this
  -- behind a step
  have go:∀(ρ1:Nat→Option RI) (g1 h1:Nat→Option vA) (cs1 es1:List V) (e:V),bE ow (p+1) cs h1=some (cs1,h')→aC cs1 es1→es=e :: es1→rB w0 outer own ρ1 g1 w→
    (∀v d,VR w ρ (uA outer ρ g) v d→VR w ρ1 (uA outer ρ1 g1) v d)→oH h1 g1→(∀r,Out base N r→ρ1 r=ρ r∧(h r=none→g1 r=g r))→(∀r,h r=none→h1 r=none)→(∀q,q<p→g1 (base+q)=g (base+q)∧ρ1 (base+q)=ρ (base+q))→
    (∀q,p+1≤q→q<N→ρ1 (base+q)=ρ (base+q))→(∀r ri,ρ r=some ri→ρ1 r=some ri)→(nD e∧e.leaf=true)→
    (∀ (ρ':Nat→Option RI) (g':Nat→Option vA),(∀ v d,VR w ρ1 (uA outer ρ1 g1) v d→VR w ρ' (uA outer ρ' g') v d)→
     ∃(hl:0<(RA ow base p (e :: es1)).length),VR w ρ' (uA outer ρ' g') (u 0) (RA ow base p (e :: es1))[0])→
    bB ow base (λ_=>none) p (e :: es1) (base+p)=g1 (base+p)→(∀q,q≠p→bB ow base (λ_=>none) p (e :: es1) (base+q)=bB ow base (λ_=>none) (p+1) es1 (base+q))→
    (∀j (hj:j<(RA ow base (p+1) es1).length),∃(hl:j+1<(RA ow base p (e :: es1)).length),(RA ow base p (e :: es1))[j+1]=(RA ow base (p+1) es1)[j])→
    ∃ρ' g',zmQ w0 outer own w ow base N p ρ g h h' es u ρ' g'∧es.length=(c :: cs).length:=by
   rintro ρ1 g1 h1 cs1 es1 e S1 FX rfl v3 SZ o3 ho1 oZ J3 R8 J2 he yX O1 dZ hgl1
   obtain⟨ρ',g',T,KV⟩:=qV ow base N cs (p+1) h1 h' cs1 es1 ρ1 g1 (λj=>u (j+1)) S1 FX (by omega) v3
    (λj hj=>SZ _ _ (hv (j+1) (by simp;omega))) o3 (λq hq=>oZ _ (JW q hq))
    (λq h1 h2=>by rw[R8 q h1 h2];exact hf q (by omega) h2)
   refine⟨ρ',g',⟨T.heap,T.lies,λr hr=>⟨(T.out r hr).1.trans (ho1 r hr).1,λhn=>((T.out r hr).2 (oZ r hn)).trans ((ho1 r hr).2 hn)⟩,λr hr=>T.less r (oZ r hr),λq hq=>?_,λq h1 h2=>?_,λr ri hr=>T.ext _ _ (J2 r ri hr),λv d hd=>T.keep _ _ (SZ _ _ hd),λj hj=>?_,λj hj=>?_⟩,by simp[KV]⟩
   ·obtain⟨b1,b2⟩:=T.before q (by omega);exact⟨b1.trans (J3 q hq).1,b2.trans (J3 q hq).2⟩
   ·by_cases hq:q=p
    ·subst hq;rw[(T.before q (by omega)).1];exact O1.symm
    ·rw[T.new q (by omega) h2,dZ q hq]
   ·cases j with
    | zero=>exact(yX ρ' g' T.keep).2
    | succ j=>
     have oX:j<(RA ow base (p+1) es1).length:=by
      rw[FF]at hj⊢;simpa using hj
     obtain⟨_,h2⟩:=hgl1 j oX;rw[h2];exact T.vals j oX
   ·cases j with
    | zero=>exact he
    | succ j=>exact T.closed j (by simpa using hj)
  simp only[bE]at ht;have J4:ρ (base+p)=none:=hf p (Nat.le_refl _) (by omega)
  have hgp:g (base+p)=none:=by
   cases J5:g (base+p)with
   | none=>rfl
   | some row=>obtain⟨ri,h3,_⟩:=hh.rows _ _ J5;rw[J4]at h3;cases h3
  have TZ:=hv 0 (by simp);simp only[List.getElem_cons_zero]at TZ;cases hb:ow.any (Nat.beq p)
  ·simp only[hb,cond_false]at ht;split at ht
   case h_2=>cases ht
   rename_i c' ids zZ;split at ht
   case h_2=>cases ht
   rename_i cs1 h1 S1;simp only[Option.some.injEq,Prod.mk.injEq]at ht;obtain⟨rfl,rfl⟩:=ht;cases hs with
   | cons JY FX=>
   rename_i e es1;obtain⟨hfz',jZ⟩:=zfp hg zZ;simp only at jZ;obtain⟨k1,k2⟩:=hh.mark ids;have k3:=zfP hh TZ hfz';have T1:∀r,h r=none→r∉ids:=λr hn hm=>by obtain⟨row,h5⟩:=jZ r hm;rw[hn]at h5;cases h5
   have he:=aC.closed1 JY k3.2;have hl:RA ow base p (e :: es1)=e :: RA ow base (p+1) es1:=by cases e<;>simp[RA,hb]
   have v6:∀q,bB ow base (λ_=>none) p (e :: es1) q=bB ow base (λ_=>none) (p+1) es1 q:=λq=>by cases e<;>simp[bB,hb]
   refine go ρ (BC g ids) (BC h ids) cs1 es1 e S1 FX rfl k1 k2 (zga hg ids) (λr hr=>⟨rfl,λhn=>?_⟩) (λr hn=>?_) (λq hq=>⟨?_,rfl⟩) (λ_ _ _=>rfl) (λ_ _ h=>h) he (λρ' g' hk=>?_) ?_ (λq hq=>v6 _) (λj hj=>?_)
   ·rw[EF,if_neg (T1 r hn)]
   ·rw[EF,if_neg (T1 r hn)];exact hn
   ·rw[EF,if_neg (T1 _ (JW q (by omega)))]
   ·simp only[hl];exact⟨by simp,(VR.sub JY (hk _ _ k3.1))⟩
   ·rw[v6,dE _ _ _ _ _ (by omega),EF,if_neg (T1 _ (JW p (by omega))),hgp]
   ·simp only[hl];exact⟨by simpa using hj,by simp⟩
  ·simp only[hb,cond_true]at ht;split at ht
   ·rename_i r;split at ht
    case h_2=>cases ht
    rename_i t l HV;split at ht
    case h_2=>cases ht
    rename_i cs1 h1 S1;simp only[Option.some.injEq,Prod.mk.injEq]at ht;obtain⟨rfl,rfl⟩:=ht;cases hs with
    | cons JY FX=>
    rename_i e es1;cases JY;have WV:=Q0 r _ HV;have T8:g r=some ⟨.arr t l, .own⟩:=hg _ _ HV;obtain⟨ri,hρr,_,_⟩:=hh.rows r _ T8;obtain⟨k1,k2⟩:=hh.rename T8 hρr J4;have hrne:r≠base+p:=by rintro rfl;exact IW WV
    have hl:RA ow base p (.sl t l :: es1)= .ow (base+p) :: RA ow base (p+1) es1:=by simp[RA,hb]
    refine go _ _ (AA h r none) cs1 es1 (.sl t l) S1 FX rfl k1 k2 (λq row hq=>?_) (λq hq=>⟨CA _ _ _ _ ?_,λhn=>?_⟩) (λq hn=>?_) (λq hq=>⟨?_,CA _ _ _ _ (by omega)⟩) (λq h1 _=>CA _ _ _ _ (by omega))
     (λq qi hq=>by rw[CA];exact hq;rintro rfl;rw[J4]at hq;cases hq) ⟨BM _ _,rfl⟩ (λρ' g' hk=>?_) ?_ (λq hq=>?_) (λj hj=>?_)
    ·by_cases gW:q=r
     ·subst gW;rw[QA]at hq;cases hq
     ·rw[CA _ _ _ _ gW]at hq;have:q≠base+p:=by rintro rfl;exact IW (Q0 _ _ hq)
      rw[CA _ _ _ _ this,CA _ _ _ _ gW];exact hg _ _ hq
    ·rintro rfl;exact IW hq
    ·have z6:q≠base+p:=by rintro rfl;exact IW hq
     have gW:q≠r:=by rintro rfl;rw[HV]at hn;cases hn
     rw[CA _ _ _ _ z6,CA _ _ _ _ gW]
    ·by_cases gW:q=r
     ·subst gW;exact QA _ _ _
     ·rw[CA _ _ _ _ gW];exact hn
    ·rw[CA _ _ _ _ (by omega),CA];rintro rfl;exact WV ⟨by omega,by omega⟩
    ·simp only[hl];refine⟨by simp,?_⟩
     have:VR w (AA ρ (base+p) (some ri)) (uA outer (AA ρ (base+p) (some ri)) (AA (AA g r none) (base+p) (some ⟨.arr t l, .own⟩))) (u 0) (.ow (base+p)):=by
      rcases TZ.ow_inv hρr with⟨e1,e2,e3,e4⟩ | ⟨ao,e1,e2,e3⟩
      ·rw[e1];exact .ow _ ri (QA _ _ _) e3 e4 e2
      ·rw[e1];exact .owN _ ri ao (QA _ _ _) e3 e2
     exact hk _ _ this
    ·simp only[bB,hb,cond_true,QA]
    ·simp only[bB,hb,cond_true];rw[CA _ _ _ _ (by omega)]
    ·simp only[hl];exact⟨by simpa using hj,by simp⟩
   ·split at ht
    case h_2=>cases ht
    rename_i cs1 h1 S1;simp only[Option.some.injEq,Prod.mk.injEq]at ht;obtain⟨rfl,rfl⟩:=ht;have E0:u 0= .slice none 0 0:=by generalize u 0=x at TZ;cases TZ;rfl
    cases hs with
    | cons JY FX=>
    rename_i e es1;cases JY with
    | refl=>
     have hl:RA ow base p (.nil :: es1)= .nil :: RA ow base (p+1) es1:=by simp[RA]
     have v6:∀q,bB ow base (λ_=>none) p (.nil :: es1) q=bB ow base (λ_=>none) (p+1) es1 q:=λq=>by simp[bB]
     refine go ρ g h cs1 es1 .nil S1 FX rfl hh (λ_ _ h=>h) hg (λr hr=>⟨rfl,λ_=>rfl⟩) (λ_ h=>h) (λq hq=>⟨rfl,rfl⟩) (λ_ _ _=>rfl) (λ_ _ h=>h) ⟨λ_=> .nil,rfl⟩ (λρ' g' hk=>?_) ?_ (λq hq=>v6 _) (λj hj=>?_)
     ·simp only[hl];exact⟨by simp,by rw[E0];exact .nil⟩
     ·rw[v6,dE _ _ _ _ _ (by omega),hgp]
     ·simp only[hl];exact⟨by simpa using hj,by simp⟩
    | nil t=>
     have hl:RA ow base p (.sl t [] :: es1)= .ow (base+p) :: RA ow base (p+1) es1:=by simp[RA,hb]
     obtain⟨k1,k2⟩:=hh.empty t J4
     refine go _ _ h cs1 es1 (.sl t []) S1 FX rfl k1 k2 (λq row hq=>?_) (λq hq=>⟨CA _ _ _ _ ?_,λhn=>CA _ _ _ _ ?_⟩) (λ_ h=>h) (λq hq=>⟨CA _ _ _ _ (by omega),CA _ _ _ _ (by omega)⟩) (λq h1 _=>CA _ _ _ _ (by omega))
      (λq qi hq=>by rw[CA];exact hq;rintro rfl;rw[J4]at hq;cases hq) ⟨BM _ _,rfl⟩ (λρ' g' hk=>?_) ?_ (λq hq=>?_) (λj hj=>?_)
     ·rw[CA _ _ _ _ (by rintro rfl;exact IW (Q0 _ _ hq))];exact hg _ _ hq
     ·rintro rfl;exact IW hq
     ·rintro rfl;exact IW hq
     ·simp only[hl];refine⟨by simp,hk _ _ ?_⟩;rw[E0];exact .owN _ ⟨0,0,0,true⟩ none (QA _ _ _) rfl rfl
     ·simp only[bB,hb,cond_true,QA]
     ·simp only[bB,hb,cond_true];rw[CA _ _ _ _ (by omega)]
     ·simp only[hl];exact⟨by simpa using hj,by simp⟩
   ·rename_i r t0 len;split at ht
    case h_2=>cases ht
    rename_i t l HV;split at ht
    case h_2=>cases ht
    rename_i cs1 h1 hd S1;have hd:=of_decide_eq_true hd;subst hd;simp only[Option.some.injEq,Prod.mk.injEq]at ht;obtain⟨rfl,rfl⟩:=ht;cases hs with
    | cons JY FX=>
    rename_i e es1;cases JY;have WV:=Q0 r _ HV;have T8:g r=some ⟨.arr t l, .own⟩:=hg _ _ HV;obtain⟨ri,k1,k2,k3⟩:=hh.cut T8 J4 TZ;have hrne:r≠base+p:=by rintro rfl;exact IW WV
    have hl:RA ow base p (.sl t (l.take len) :: es1)= .ow (base+p) :: RA ow base (p+1) es1:=by simp[RA,hb]
    refine go _ _ (AA h r none) cs1 es1 (.sl t (l.take len)) S1 FX rfl k1 k2 (λq row hq=>?_) (λq hq=>⟨CA _ _ _ _ ?_,λhn=>?_⟩) (λq hn=>?_) (λq hq=>⟨?_,CA _ _ _ _ (by omega)⟩) (λq h1 _=>CA _ _ _ _ (by omega))
     (λq qi hq=>by rw[CA];exact hq;rintro rfl;rw[J4]at hq;cases hq) ⟨BM _ _,rfl⟩ (λρ' g' hk=>?_) ?_ (λq hq=>?_) (λj hj=>?_)
    ·by_cases gW:q=r
     ·subst gW;rw[QA]at hq;cases hq
     ·rw[CA _ _ _ _ gW]at hq;have:q≠base+p:=by rintro rfl;exact IW (Q0 _ _ hq)
      rw[CA _ _ _ _ this,CA _ _ _ _ gW];exact hg _ _ hq
    ·rintro rfl;exact IW hq
    ·have z6:q≠base+p:=by rintro rfl;exact IW hq
     have gW:q≠r:=by rintro rfl;rw[HV]at hn;cases hn
     rw[CA _ _ _ _ z6,CA _ _ _ _ gW]
    ·by_cases gW:q=r
     ·subst gW;exact QA _ _ _
     ·rw[CA _ _ _ _ gW];exact hn
    ·rw[CA _ _ _ _ (by omega),CA];rintro rfl;exact WV ⟨by omega,by omega⟩
    ·simp only[hl];refine⟨by simp,?_⟩;exact hk _ _ k3
    ·simp only[bB,hb,cond_true,QA]
    ·simp only[bB,hb,cond_true];rw[CA _ _ _ _ (by omega)]
    ·simp only[hl];exact⟨by simpa using hj,by simp⟩
   ·cases ht
def cV{bad bad2:Nat→Prop}{ρ2:Nat→Option RI}(ow:List Nat)(B B2:Nat):∀(es:List V) (p:Nat) (u:Nat→Value),
  (∀q,p≤q→q<p+es.length→ow.any (Nat.beq q)=true→(∃t l,es[q - p]?=some (.sl t l))→ρ2 (B2+q)=ρ (B+q))→(∀j (hj:j<es.length),nD es[j])→(∀b,bad2 b→bad b)→
  (∀j (hj:j<(RA ow B p es).length),VR w ρ bad (u j) (RA ow B p es)[j])→∀j (hj:j<(RA ow B2 p es).length),VR w ρ2 bad2 (u j) (RA ow B2 p es)[j]
 | [],p,u,hρ,hc,hb,hv,j,hj=>by simp[RA]at hj
 | e :: es,p,u,hρ,hc,hb,hv,j,hj=>by
  have split1:∀(B:Nat),∃e',RA ow B p (e :: es)=e' :: RA ow B (p+1) es∧(e'=e∨e'= .ow (B+p))∧((∃t l,e= .sl t l∧ow.any (Nat.beq p)=true)→e'= .ow (B+p))∧
    ((¬∃t l,e= .sl t l∧ow.any (Nat.beq p)=true)→e'=e):=λB=>by
   cases e<;>simp only[RA]<;>try exact⟨_,rfl, .inl rfl,λ⟨_,_,h,_⟩=>(by cases h),λ_=>rfl⟩
   rename_i t l;cases hb:ow.any (Nat.beq p)
   ·exact⟨_,rfl, .inl rfl,λ⟨_,_,_,h⟩=>(by cases h),λ_=>rfl⟩
   ·exact⟨_,rfl, .inr rfl,λ_=>rfl,λh=>absurd ⟨t,l,rfl,rfl⟩ h⟩
  obtain⟨e1,s1,_,s2,s3⟩:=split1 B;obtain⟨e2,t1,_,t2,t3⟩:=split1 B2
  have ih:=cV ow B B2 es (p+1) (λj=>u (j+1)) (λq h1 h2 h3 h4=>hρ q (by omega) (by simp;omega) h3 (by
    obtain⟨t,l,h4⟩:=h4;exact⟨t,l,by rw[show q - p=(q - (p+1))+1 by omega,List.getElem?_cons_succ];exact h4⟩)) (λj hj=>hc (j+1) (by simp;omega)) hb
   (fun j hj=>by
    have:=hv (j+1) (by rw[s1];simp;omega);simpa[s1]using this)
  simp only[t1]at hj⊢;cases j with
  | succ j=>exact ih j (by simpa using hj)
  | zero=>
   have yX:=hv 0 (by rw[s1];simp);simp only[s1,List.getElem_cons_zero]at yX⊢
   by_cases hs:∃t l,e= .sl t l∧ow.any (Nat.beq p)=true
   ·rw[s2 hs]at yX;rw[t2 hs];have hq:=hρ p (Nat.le_refl _) (by simp) (by obtain⟨_,_,_,h⟩:=hs;exact h) (by obtain⟨t,l,h,_⟩:=hs;exact⟨t,l,by simp[h]⟩);generalize u 0=u0 at yX;cases yX with
    | ow _ ri h1 h2 h3 h4=>exact .ow _ ri (by rw[hq];exact h1) h2 h3 h4
    | owN _ ri ao h1 h2 h3=>exact .owN _ ri ao (by rw[hq];exact h1) h2 h3
   ·rw[s3 hs]at yX;rw[t3 hs];exact(yX.noRef (hc 0 (by simp)) ρ2).mono (λ_ _ h=>h) (λ_ _ _=>rfl) λb h=> .inl (hb b h)
def rB.reread(hh:rB w0 outer own ρ h w){r:Nat}{cs es:List V}{m:rH}(hr:h r=some ⟨.box cs,m⟩)(KV:es.length=cs.length)
  (hv:∀ri,ρ r=some ri→∀j (hj:j<es.length),VR w ρ (uA outer ρ h) ((w.cell? (at_ ri.b j)).getD undef) es[j]):
  rB w0 outer own ρ (AA h r (some ⟨.box es,m⟩)) w∧∀u d,VR w ρ (uA outer ρ h) u d→VR w ρ (uA outer ρ (AA h r (some ⟨.box es,m⟩))) u d:=by
 have mW:∀b,uA outer ρ (AA h r (some ⟨.box es,m⟩)) b→uA outer ρ h b:=λb hb=>hb.mono λq row' h1 h2=>by
  by_cases hq:q=r
  ·subst hq;rw[QA]at h1;cases h1;exact⟨_,hr,h2⟩
  ·rw[CA _ _ _ _ hq]at h1;exact⟨row',h1,h2⟩
 have hk:∀u d,VR w ρ (uA outer ρ h) u d→VR w ρ (uA outer ρ (AA h r (some ⟨.box es,m⟩))) u d:=λu d hu=>hu.mono (λ_ _ h=>h) (λ_ _ _=>rfl) λb hb=> .inl (mW b hb)
 have old:∀q row,AA h r (some ⟨.box es,m⟩) q=some row→∃row',h q=some row'∧(q=r∧row=⟨.box es,m⟩∨row=row'):=λq row hq=>by
  by_cases gW:q=r
  ·subst gW;rw[QA]at hq;cases hq;exact⟨_,hr, .inl ⟨rfl,rfl⟩⟩
  ·rw[CA _ _ _ _ gW]at hq;exact⟨row,hq, .inr rfl⟩
 refine⟨⟨hh.wx,hh.old,hh.outLt,λq row hq=>?_,λq q' row row' qi qi' h1 h2 h3 h4=>?_⟩,hk⟩
 ·obtain⟨row',h1,h2⟩:=old q row hq;obtain⟨ri,h3,h4,h5⟩:=hh.rows q row' h1
  have N9:ri.nl=false→(¬outer ri.b∧(row.m.isRo=false→w0.heap.size≤ri.b∨own ri.b))∧ri.b<w.heap.size:=by
   rcases h2 with⟨rfl,rfl⟩ | rfl
   ·rw[hr]at h1;cases h1;exact h5
   ·exact h5
  refine⟨ri,h3,?_,N9⟩
  rcases h2 with⟨rfl,rfl⟩ | rfl
  ·rw[hr]at h1;cases h1;refine⟨h4.1,λj hj=>?_⟩;obtain⟨f1,u,f2,_⟩:=h4.2 j (by omega);refine⟨f1,u,f2,?_⟩;have:=hv ri h3 j hj;rw[f2]at this;exact hk _ _ this
  ·exact h4.keep (λ_=>rfl) hk
 ·obtain⟨_,g1,_⟩:=old q row h1;obtain⟨_,g2,_⟩:=old q' row' h2;exact hh.inj q q' _ _ qi qi' g1 g2 h3 h4
end
end Go.D
namespace Go.D
variable [jA]
def EA:List sB→Nat→List V→Nat→Option vA
 | .plain :: ks,k,_ :: as=>EA ks (k+1) as
 | .ptr ow :: ks,k, .agg cs :: as=>AA (bB ow (128 *k) (EA ks (k+1) as) 0 cs) (128 *k+127) (some ⟨.box (RA ow (128 *k) 0 cs), .own⟩)
 | .mv ow :: ks,k, .agg cs :: as=>bB ow (128 *k) (EA ks (k+1) as) 0 cs
 | _,_,_=>λ_=>none
def VB:List sB→Nat→List V→List V
 | .plain :: ks,k,v :: as=>v :: VB ks (k+1) as
 | .ptr _ :: ks,k,_ :: as=> .bp (128 *k+127) 0 :: VB ks (k+1) as
 | .mv ow :: ks,k, .agg cs :: as=> .agg (RA ow (128 *k) 0 cs) :: VB ks (k+1) as
 | _,_,_=>[]
def uB:List sB→Nat→List Nat→Nat→Option Nat
 | .plain :: ks,k,bs,q=>uB ks (k+1) bs q
 | .ptr _ :: ks,k,b :: bs,q=>if q=128 *k+127 then some b else uB ks (k+1) bs q
 | .mv _ :: ks,k,bs,q=>uB ks (k+1) bs q
 | _,_,_,_=>none
omit [jA]in
def IF:∀(ks:List sB) (k:Nat) (bs:List Nat) (q b:Nat),uB ks k bs q=some b→128 *k+127≤q∧q % 128=127∧b∈bs
 | [],k,bs,q,b,h=>by simp[uB]at h
 | .plain :: ks,k,bs,q,b,h=>by
  simp only[uB]at h;obtain⟨h1,h2,h3⟩:=IF ks (k+1) bs q b h;exact⟨by omega,h2,h3⟩
 | .mv ow :: ks,k,bs,q,b,h=>by
  simp only[uB]at h;obtain⟨h1,h2,h3⟩:=IF ks (k+1) bs q b h;exact⟨by omega,h2,h3⟩
 | .ptr ow :: ks,k,[],q,b,h=>by simp[uB]at h
 | .ptr ow :: ks,k,c :: bs,q,b,h=>by
  simp only[uB]at h;split at h
  ·cases h;exact⟨by omega,by omega,by simp⟩
  ·obtain⟨h1,h2,h3⟩:=IF ks (k+1) bs q b h;exact⟨by omega,h2,by simp[h3]⟩
omit [jA]in
def sV:∀(ks:List sB) (k:Nat) (bs:List Nat) (q q' b:Nat),bs.Nodup→uB ks k bs q=some b→uB ks k bs q'=some b→q=q'
 | [],k,bs,q,q',b,hn,h,h'=>by simp[uB]at h
 | .plain :: ks,k,bs,q,q',b,hn,h,h'=>sV ks (k+1) bs q q' b hn h h'
 | .mv ow :: ks,k,bs,q,q',b,hn,h,h'=>sV ks (k+1) bs q q' b hn h h'
 | .ptr ow :: ks,k,[],q,q',b,hn,h,h'=>by simp[uB]at h
 | .ptr ow :: ks,k,c :: bs,q,q',b,hn,h,h'=>by
  simp only[uB]at h h';simp only[List.nodup_cons]at hn;split at h<;>split at h'
  ·omega
  ·cases h;exact absurd (IF _ _ _ _ _ h').2.2 hn.1
  ·cases h';exact absurd (IF _ _ _ _ _ h).2.2 hn.1
  ·exact sV ks (k+1) bs q q' b hn.2 h h'
omit [jA]in
def zc2:∀(ks:List sB) (k:Nat) (bs:List Nat) (q b:Nat),uB ks k bs q=some b→q<128 *(k+ks.length)
 | [],k,bs,q,b,h=>by simp[uB]at h
 | .plain :: ks,k,bs,q,b,h=>by
  simp only[uB]at h;have:=zc2 ks (k+1) bs q b h;simp;omega
 | .mv ow :: ks,k,bs,q,b,h=>by
  simp only[uB]at h;have:=zc2 ks (k+1) bs q b h;simp;omega
 | .ptr ow :: ks,k,[],q,b,h=>by simp[uB]at h
 | .ptr ow :: ks,k,c :: bs,q,b,h=>by
  simp only[uB]at h;split at h
  ·simp;omega
  ·have:=zc2 ks (k+1) bs q b h;simp;omega
omit [jA]in
def WU(ow:List Nat)(B B2:Nat):∀(es:List V) (p q:Nat),bB ow B (λ_=>none) p es (B+q)=bB ow B2 (λ_=>none) p es (B2+q)
 | [],p,q=>rfl
 | e :: es,p,q=>by
  have ih:=WU ow B B2 es (p+1) q;cases e<;>simp only[bB]<;>try exact ih
  cases hb:ow.any (Nat.beq p)
  ·simpa using ih
  ·simp only[cond_true]
   by_cases hq:q=p
   ·subst hq;rw[QA,QA]
   ·rw[CA _ _ _ _ (by omega),CA _ _ _ _ (by omega)];exact ih
omit [jA]in
def ME(ow:List Nat)(B:Nat):∀(es:List V) (p r:Nat) (row:vA),bB ow B (λ_=>none) p es r=some row→∃t l,row=⟨.arr t l, .own⟩∧B+p≤r∧r<B+p+es.length
 | [],p,r,row,h=>by simp[bB]at h
 | e :: es,p,r,row,h=>by
  have ih:=ME ow B es (p+1) r row
  have nx:bB ow B (λ_=>none) (p+1) es r=some row→∃t l,row=⟨.arr t l, .own⟩∧B+p≤r∧r<B+p+(e :: es).length:=λh=>by
   obtain⟨t,l,h1,h2,h3⟩:=ih h;exact⟨t,l,h1,by omega,by simp;omega⟩
  cases e<;>simp only[bB]at h<;>try exact nx h
  cases hb:ow.any (Nat.beq p)
  ·simp only[hb,cond_false]at h;exact nx h
  ·simp only[hb,cond_true]at h
   by_cases hr:r=B+p
   ·subst hr;rw[QA]at h;cases h;exact⟨_,_,rfl,Nat.le_refl _,by simp⟩
   ·rw[CA _ _ _ _ hr]at h;exact nx h
omit [jA]in
def zfU(ow:List Nat)(B:Nat):∀(es:List V) (p q:Nat) (t:TN) (l:List (El t)),p≤q→es[q - p]?=some (.sl t l)→ow.any (Nat.beq q)=true→bB ow B (λ_=>none) p es (B+q)=some ⟨.arr t l, .own⟩
 | [],p,q,t,l,hp,he,ho=>by simp at he
 | e :: es,p,q,t,l,hp,he,ho=>by
  by_cases hq:q=p
  ·subst hq;simp at he;subst he;simp only[bB,ho,cond_true,QA]
  ·have ih:=zfU ow B es (p+1) q t l (by omega) (by rw[show q - p=(q - (p+1))+1 by omega,List.getElem?_cons_succ]at he;exact he) ho;cases e<;>simp only[bB]<;>try exact ih
   cases hb:ow.any (Nat.beq p)
   ·simpa using ih
   ·simp only[cond_true];rw[CA _ _ _ _ (by omega)];exact ih
section
variable {C:Cx} {w0:World} {outer own:Nat→Prop} {ρ:Nat→Option RI} {st st':St} {a:Act} {w:World} {h:Nat→Option vA}
inductive wG(w:World)(ρ:Nat→Option RI)(bad:Nat→Prop)(g:Nat→Option vA)(N0:Nat):List sB→Nat→List V→List Nat→(Nat→Value)→Prop
 | nil (k:Nat) (u:Nat→Value):wG w ρ bad g N0 [] k [] [] u
 | plain {ks:List sB} {k:Nat} {v:V} {as:List V} {bs:List Nat} {u:Nat→Value} (hv:VR w ρ bad (u 0) v) (hn:nD v) (hr:wG w ρ bad g N0 ks (k+1) as bs λj=>u (j+1)):
   wG w ρ bad g N0 (.plain :: ks) k (v :: as) bs u
 | ptr {ow:List Nat} {ks:List sB} {k b:Nat} {cs as:List V} {bs:List Nat} {u:Nat→Value} (ri:RI) (hρ:ρ b=some ri) (fW:ri.nl=false) (hu:u 0= .pointer (some (at_ ri.b 0)))
   (hg:g b=some ⟨.box (RA ow (N0+128 *k) 0 cs), .own⟩) (hl:cs.length≤127) (hq:∀q,q<128→g (N0+128 *k+q)=bB ow (N0+128 *k) (λ_=>none) 0 cs (N0+128 *k+q))
   (hc:∀j (hj:j<cs.length),nD cs[j]∧(cs[j]).leaf=true) (hb:b<N0) (hr:wG w ρ bad g N0 ks (k+1) as bs λj=>u (j+1)):
   wG w ρ bad g N0 (.ptr ow :: ks) k (.agg cs :: as) (b :: bs) u
 | mv {ow:List Nat} {ks:List sB} {k:Nat} {cs as:List V} {bs:List Nat} {u:Nat→Value} (hv:VR w ρ bad (u 0) (.agg (RA ow (N0+128 *k) 0 cs)))
   (hl:cs.length≤127) (hq:∀q,q<128→g (N0+128 *k+q)=bB ow (N0+128 *k) (λ_=>none) 0 cs (N0+128 *k+q))
   (hc:∀j (hj:j<cs.length),nD cs[j]∧(cs[j]).leaf=true) (hr:wG w ρ bad g N0 ks (k+1) as bs λj=>u (j+1)):
   wG w ρ bad g N0 (.mv ow :: ks) k (.agg cs :: as) bs u
omit [jA]in
def aC.rfl':∀(cs:List V),aC cs cs
 | []=> .nil
 | c :: cs=> .cons (.refl c) (aC.rfl' cs)
omit [jA]in
def zft{ow:List Nat}{ks:List sB}{v:V}{vs:List V}{x:List V×(Nat→Option vA)×List Nat}(ht:yC (.ptr ow :: ks) (v :: vs) h=some x):∃r,v= .bp r 0:=by
 unfold yC at ht;split at ht
 ·simp_all
 ·simp_all
 ·rename_i e1 e2;simp only[List.cons.injEq]at e2;exact⟨_,e2.1⟩
 ·simp_all
 ·cases ht
omit [jA]in
def zfJ{ow:List Nat}{ks:List sB}{v:V}{vs:List V}{x:List V×(Nat→Option vA)×List Nat}(ht:yC (.mv ow :: ks) (v :: vs) h=some x):∃cs,v= .agg cs:=by
 unfold yC at ht;split at ht
 ·simp_all
 ·simp_all
 ·simp_all
 ·rename_i e1 e2;simp only[List.cons.injEq]at e2;exact⟨_,e2.1⟩
 ·cases ht
def zcX(N0:Nat):∀(ks:List sB) (as:List V) (h h':Nat→Option vA) (as':List V) (bs:List Nat) (k:Nat) (ρ:Nat→Option RI) (g:Nat→Option vA) (u:Nat→Value),
  yC ks as h=some (as',h',bs)→rB w0 outer own ρ g w→(∀j (hj:j<as.length),VR w ρ (uA outer ρ g) (u j) as[j])→oH h g→(∀r,N0+128 *k≤r→ρ r=none)→(∀r,N0≤r→h r=none)→
  ∃ρ' g',rB w0 outer own ρ' g' w∧oH h' g'∧(∀r,h r=none→h' r=none)∧(∀r,h r=none→r<N0+128 *k→g' r=g r)∧(∀r ri,ρ r=some ri→ρ' r=some ri)∧
   (∀v d,VR w ρ (uA outer ρ g) v d→VR w ρ' (uA outer ρ' g') v d)∧wG w ρ' (uA outer ρ' g') g' N0 ks k as' bs u∧
   (∀b∈bs,h' b=none∧h b≠none)∧bs.Nodup∧as.length=ks.length∧(∀r,r<N0→ρ' r=ρ r)
 | [],[],h,h',as',bs,k,ρ,g,u,ht,hh,hv,hg,hf,hN=>by
  simp only[yC,Option.some.injEq,Prod.mk.injEq]at ht;obtain⟨rfl,rfl,rfl⟩:=ht;exact⟨ρ,g,hh,hg,λ_ h=>h,λ_ _ _=>rfl,λ_ _ h=>h,λ_ _ h=>h, .nil _ _,λb hb=>by simp at hb,by simp,rfl,λ_ _=>rfl⟩
 | [],_ :: _,h,h',as',bs,k,ρ,g,u,ht,hh,hv,hg,hf,hN=>by simp[yC]at ht
 | .plain :: ks,[],h,h',as',bs,k,ρ,g,u,ht,hh,hv,hg,hf,hN=>by simp[yC]at ht
 | .ptr _ :: ks,[],h,h',as',bs,k,ρ,g,u,ht,hh,hv,hg,hf,hN=>by simp[yC]at ht
 | .mv _ :: ks,[],h,h',as',bs,k,ρ,g,u,ht,hh,hv,hg,hf,hN=>by simp[yC]at ht
 | .plain :: ks,v :: vs,h,h',as',bs,k,ρ,g,u,ht,hh,hv,hg,hf,hN=>by
  simp only[yC]at ht;split at ht
  ·cases ht
  rename_i v' ids zZ;split at ht
  ·cases ht
  rename_i as2 h2 bs2 A6;simp only[Option.some.injEq,Prod.mk.injEq]at ht;obtain⟨rfl,rfl,rfl⟩:=ht;obtain⟨k1,k2⟩:=zlp hg zZ;have k2:∀r∈ids,∃row,h r=some row:=k2;obtain⟨m1,m2⟩:=hh.mark ids;obtain⟨f1,f2⟩:=zhh hh (hv 0 (by simp)) k1;have T1:∀r,h r=none→r∉ids:=λr hn hm=>by obtain⟨row,h5⟩:=k2 r hm;rw[hn]at h5;cases h5
  have U8:∀r,h r=none→BC h ids r=none:=λr hn=>by rw[EF,if_neg (T1 r hn)];exact hn
  obtain⟨ρ',g',c1,c2,c3,c4,c5,c6,c7,c8,c9,BG,jG⟩:=zcX N0 ks vs (BC h ids) h2 as2 bs2 (k+1) ρ (BC g ids) (λj=>u (j+1)) A6 m1
   (λj hj=>m2 _ _ (hv (j+1) (by simp;omega))) (zga hg ids) (λr hr=>hf r (by omega)) (λr hr=>U8 r (hN r hr))
  refine⟨ρ',g',c1,c2,λr hr=>c3 r (U8 r hr),λr hr hk=>?_,c5,λv d hd=>c6 _ _ (m2 _ _ hd), .plain (c6 _ _ f1) f2 c7,λb hb=>?_,c9,by simp[BG],jG⟩
  ·rw[c4 r (U8 r hr) (by omega),EF,if_neg (T1 r hr)]
  ·obtain⟨d1,d2⟩:=c8 b hb;exact⟨d1,λhn=>d2 (U8 b hn)⟩
 | .ptr ow :: ks,v :: vs,h,h',as',bs,k,ρ,g,u,ht,hh,hv,hg,hf,hN=>by
  obtain⟨r,rfl⟩:=zft ht;simp only[yC]at ht;split at ht
  case h_2=>cases ht
  rename_i cs HV;cases wW:Nat.ble cs.length 127
  case false=>simp[wW]at ht
  simp only[wW,cond_true]at ht;have wW:=Nat.le_of_ble_eq_true wW;split at ht
  ·cases ht
  rename_i cs' h1 L2;split at ht
  ·cases ht
  rename_i as2 h2 bs2 A6;simp only[Option.some.injEq,Prod.mk.injEq]at ht;obtain⟨rfl,rfl,rfl⟩:=ht
  have hrN:r<N0:=by
   rcases Nat.lt_or_ge r N0 with h3 | h3
   ·exact h3
   ·rw[hN r h3]at HV;cases HV
  have hgr:=hg _ _ HV;have yX:=hv 0 (by simp);simp only[List.getElem_cons_zero]at yX;obtain⟨ri,hρ,WV,_⟩:=hh.rows r _ hgr
  have E0:u 0= .pointer (some (at_ ri.b 0))∧ri.nl=false:=by
   generalize u 0=x at yX;cases yX with
   | bp _ _ ri' h3 h4=>rw[hρ]at h3;cases h3;exact⟨rfl,h4⟩
  have bW:∀q,h q=none→AA h r none q=none:=λq hq=>by
   by_cases gW:q=r
   ·subst gW;exact QA _ _ _
   ·rw[CA _ _ _ _ gW];exact hq
  obtain⟨ρ1,g1,T,KV⟩:=qV ow (N0+128 *k) 128 cs 0 (AA h r none) h1 cs' cs' ρ g (λj=>(w.cell? (at_ ri.b j)).getD undef) L2 (aC.rfl' _) (by omega) hh
   (λj hj=>by obtain⟨_,x,f1,f2⟩:=WV.2 j hj;rw[f1];exact f2)
   (fun q row hq=>by
    by_cases gW:q=r
    ·subst gW;rw[QA]at hq;cases hq
    ·rw[CA _ _ _ _ gW]at hq;exact hg _ _ hq)
   (λq hq=>bW _ (hN _ (by omega))) (λq _ _=>hf _ (by omega))
  have B6:Out (N0+128 *k) 128 r:=λh3=>by omega
  have hg1r:g1 r=some ⟨.box cs, .own⟩:=by rw[(T.out r B6).2 (QA _ _ _)];exact hgr
  have hρ1:ρ1 r=some ri:=T.ext _ _ hρ;obtain⟨n1,n2⟩:=T.heap.reread hg1r (es:=RA ow (N0+128 *k) 0 cs') (by rw[FF];exact KV) (λri' h3 j hj=>by rw[hρ1]at h3;cases h3;exact T.vals j hj);have M2:h1 r=none:=T.less r (QA _ _ _)
  obtain⟨ρ',g',c1,c2,c3,c4,c5,c6,c7,c8,c9,BG,jG⟩:=zcX N0 ks vs h1 h2 as2 bs2 (k+1) ρ1 _ (λj=>u (j+1)) A6 n1
   (λj hj=>n2 _ _ (T.keep _ _ (hv (j+1) (by simp;omega))))
   (fun q row hq=>by
    have gW:q≠r:=by rintro rfl;rw[M2]at hq;cases hq
    rw[CA _ _ _ _ gW];exact T.lies _ _ hq)
   (λq hq=>by rw[(T.out q (λh3=>by omega)).1];exact hf q (by omega)) (λq hq=>T.less q (bW q (hN q hq)))
  have CX:∀q,h q=none→q<N0+128 *k→Out (N0+128 *k) 128 q:=λq _ h3 h4=>by omega
  refine⟨ρ',g',c1,c2,λq hq=>c3 q (T.less q (bW q hq)),λq hq hk=>?_,λq qi hq=>c5 _ _ (T.ext _ _ hq),λv d hd=>c6 _ _ (n2 _ _ (T.keep _ _ hd)),
   .ptr ri (c5 _ _ hρ1) E0.2 E0.1 ?_ (by omega) (λq hq=>?_) T.closed hrN c7,λb hb=>?_,?_,by simp[BG],λq hq=>?_⟩
  ·have gW:q≠r:=by rintro rfl;rw[HV]at hq;cases hq
   rw[c4 q (T.less q (bW q hq)) (by omega),CA _ _ _ _ gW,(T.out q (CX q hq hk)).2 (bW q hq)]
  ·rw[c4 r M2 (by omega),QA]
  ·rw[c4 _ (T.less _ (bW _ (hN _ (by omega)))) (by omega),CA _ _ _ _ (by omega),T.new q (by omega) hq]
  ·rcases List.mem_cons.1 hb with rfl | hb
   ·exact⟨c3 _ M2,by rw[HV];simp⟩
   ·obtain⟨d1,d2⟩:=c8 b hb;exact⟨d1,λhn=>d2 (T.less b (bW b hn))⟩
  ·refine List.nodup_cons.2 ⟨λhm=>(c8 r hm).2 M2,c9⟩
  ·rw[jG q hq,(T.out q (λh3=>by omega)).1]
 | .mv ow :: ks,v :: vs,h,h',as',bs,k,ρ,g,u,ht,hh,hv,hg,hf,hN=>by
  obtain⟨cs,rfl⟩:=zfJ ht;simp only[yC]at ht;cases wW:Nat.ble cs.length 127
  case false=>simp[wW]at ht
  simp only[wW,cond_true]at ht;have wW:=Nat.le_of_ble_eq_true wW;split at ht
  ·cases ht
  rename_i cs' h1 L2;split at ht
  ·cases ht
  rename_i as2 h2 bs2 A6;simp only[Option.some.injEq,Prod.mk.injEq]at ht;obtain⟨rfl,rfl,rfl⟩:=ht;have yX:=hv 0 (by simp);simp only[List.getElem_cons_zero]at yX
  obtain⟨vsA,E0,YV,hcv⟩:∃vsA:Array Value,u 0= .agg vsA∧vsA.size=cs.length∧∀j (hj:j<cs.length),VR w ρ (uA outer ρ g) (vsA.getD j undef) cs[j]:=by
   generalize u 0=x at yX;cases yX with
   | agg _ vsA h1 h2=>exact⟨vsA,rfl,h1,h2⟩
  obtain⟨ρ1,g1,T,KV⟩:=qV ow (N0+128 *k) 128 cs 0 h h1 cs' cs' ρ g (λj=>vsA.getD j undef) L2 (aC.rfl' _) (by omega) hh hcv hg
   (λq hq=>hN _ (by omega)) (λq _ _=>hf _ (by omega))
  obtain⟨ρ',g',c1,c2,c3,c4,c5,c6,c7,c8,c9,BG,jG⟩:=zcX N0 ks vs h1 h2 as2 bs2 (k+1) ρ1 g1 (λj=>u (j+1)) A6 T.heap
   (λj hj=>T.keep _ _ (hv (j+1) (by simp;omega))) T.lies
   (λq hq=>by rw[(T.out q (λh3=>by omega)).1];exact hf q (by omega)) (λq hq=>T.less q (hN q hq))
  have CX:∀q,h q=none→q<N0+128 *k→Out (N0+128 *k) 128 q:=λq _ h3 h4=>by omega
  refine⟨ρ',g',c1,c2,λq hq=>c3 q (T.less q hq),λq hq hk=>?_,λq qi hq=>c5 _ _ (T.ext _ _ hq),λv d hd=>c6 _ _ (T.keep _ _ hd),
   .mv ?_ (by omega) (λq hq=>?_) T.closed c7,λb hb=>?_,c9,by simp[BG],λq hq=>?_⟩
  ·rw[c4 q (T.less q hq) (by omega),(T.out q (CX q hq hk)).2 hq]
  ·rw[E0];refine .agg _ _ (by rw[FF,YV,KV]) λj hj=>?_;exact c6 _ _ (T.vals j hj)
  ·rw[c4 _ (T.less _ (hN _ (by omega))) (by omega),T.new q (by omega) hq]
  ·obtain⟨d1,d2⟩:=c8 b hb;exact⟨d1,λhn=>d2 (T.less b hn)⟩
  ·rw[jG q hq,(T.out q (λh3=>by omega)).1]
end
end Go.D
namespace Go.D
variable [jA]
def zxH(P:Program)(f:Nat)(args:Array Value)(w:World)(post:Value→World→Prop):Prop:=
 ((callFunc f args).run P w= .ok (.enter f args) w∧Calls P f args w λe w'=>∃v,e= .returned v∧post v w')∨
 ∃v w',(callFunc f args).run P w= .ok (.value v) w'∧post v w'
def pF(ks:List sB)(as:List V)(bs:List Nat)(ow:List Nat)(base:Nat)(shape:List (Bool×Nat))(rs:List V):Nat→Option vA:=
 ZB ks as bs ((RA ow base 0 rs).drop (eL shape)) (bB ow base (λ_=>none) 0 rs)
def sE(ci:aB)(as:List V)(bs:List Nat)(base:Nat)(rs:List V):Nat→Option vA:=
 bif ci.pb then AA (λ_=>none) base (some ⟨.box rs, .own⟩)else pF ci.ks as bs ci.own base ci.shape rs
def yB(P:Program)(f:Nat)(ci:aB)(g:Gl:=FL):Prop:=
 ∀(w:World) (args:Array Value) (as:List V) (outer own:Nat→Prop) (ρ:Nat→Option RI) (a:ci.A) (r:ci.R) (base:Nat) (bs:List Nat),
  args.size=ci.ks.length→(VB ci.ks 0 as).length=ci.ks.length→rB w outer own ρ (EA ci.ks 0 as) w→
  (∀j (hj:j<(VB ci.ks 0 as).length),VR w ρ (uA outer ρ (EA ci.ks 0 as)) (args.getD j undef) (VB ci.ks 0 as)[j])→(∀q,EA ci.ks 0 as q=none→ρ q=none)→
  bs.Nodup→(∀b∈bs,Out base 128 b)→ci.dA as=some a→ci.F a=some r→(ci.eR r).length≤128→zn1 g own w→
  zxH P f args w λv w'=>∃ρ',rB w outer own ρ' (sE ci as bs base (ci.eR r)) w'∧
   VR w' ρ' (uA outer ρ' (sE ci as bs base (ci.eR r))) v (vJ ci base (ci.eR r))∧
   (∀q b,uB ci.ks 0 bs q=some b→ρ' b=ρ q)∧(∀r,ρ' r≠none→(base≤r∧r<base+128)∨r∈bs)
omit [jA]in
def Calls.mono'{P:Program}{f:Nat}{args:Array Value}{w:World}{R R':Ending→World→Prop}(h:Calls P f args w R)(hr:∀e w',R e w'→R' e w'):Calls P f args w R':=
 λcs=>let ⟨e,w',fr,h1,h2⟩:=h cs;⟨e,w',fr,hr _ _ h1,h2⟩
omit [jA]in
def jM:∀(ks:List sB) (as:List V) (bs:List Nat) (vs:List V) (h:Nat→Option vA) (r:Nat),
  ZB ks as bs vs h r=match ZB ks as bs vs (λ_=>none) r with | some x=>some x | none=>h r
 | [],as,bs,vs,h,r=>by cases as<;>rfl
 | .plain :: ks,[],bs,vs,h,r=>rfl
 | .plain :: ks,a :: as,bs,vs,h,r=>by simp only[ZB];exact jM ks as bs vs h r
 | .mv ow :: ks,[],bs,vs,h,r=>rfl
 | .mv ow :: ks,a :: as,bs,vs,h,r=>by simp only[ZB];exact jM ks as bs vs h r
 | .ptr ow :: ks,[],bs,vs,h,r=>rfl
 | .ptr ow :: ks,a :: as,[],vs,h,r=>by cases a<;>rfl
 | .ptr ow :: ks,a :: as,b :: bs,vs,h,r=>by
  cases a<;>try rfl
  simp only[ZB]
  by_cases hr:r=b
  ·subst hr;simp[QA]
  ·rw[CA _ _ _ _ hr,CA _ _ _ _ hr];exact jM ks as bs _ h r
omit [jA]in
def zbs:∀(ks:List sB) (as:List V) (bs:List Nat) (vs:List V) (r:Nat) (row:vA),ZB ks as bs vs (λ_=>none) r=some row→r∈bs
 | [],as,bs,vs,r,row,h=>by cases as<;>simp[ZB]at h
 | .plain :: ks,[],bs,vs,r,row,h=>by simp[ZB]at h
 | .plain :: ks,a :: as,bs,vs,r,row,h=>by simp only[ZB]at h;exact zbs ks as bs vs r row h
 | .mv ow :: ks,[],bs,vs,r,row,h=>by simp[ZB]at h
 | .mv ow :: ks,a :: as,bs,vs,r,row,h=>by simp only[ZB]at h;exact zbs ks as bs vs r row h
 | .ptr ow :: ks,[],bs,vs,r,row,h=>by simp[ZB]at h
 | .ptr ow :: ks,a :: as,[],vs,r,row,h=>by cases a<;>simp[ZB]at h
 | .ptr ow :: ks,a :: as,b :: bs,vs,r,row,h=>by
  cases a<;>try (simp[ZB]at h;done)
  simp only[ZB]at h
  by_cases hr:r=b
  ·subst hr;simp
  ·rw[CA _ _ _ _ hr]at h;exact List.mem_cons_of_mem _ (zbs ks as bs _ r row h)
omit [jA]in
def zwC{ks:List sB}{as:List V}{bs ow:List Nat}{base:Nat}{shape:List (Bool×Nat)}{rs:List V}{r:Nat}{row:vA}(hl:rs.length≤128)
  (h:pF ks as bs ow base shape rs r=some row):r∈bs∨(base≤r∧r<base+128):=by
 unfold pF at h;rw[jM]at h;split at h
 ·rename_i x hx;exact .inl (zbs _ _ _ _ _ _ hx)
 ·obtain⟨_,_,_,h1,h2⟩:=ME _ _ _ _ _ _ h
  grind
omit [jA]in
def zbh:∀(ks:List sB) (as:List V) (bs:List Nat) (vs:List V) (r:Nat) (row:vA),ZB ks as bs vs (λ_=>none) r=some row→row.m= .own
 | [],as,bs,vs,r,row,h=>by cases as<;>simp[ZB]at h
 | .plain :: ks,[],bs,vs,r,row,h=>by simp[ZB]at h
 | .plain :: ks,a :: as,bs,vs,r,row,h=>by simp only[ZB]at h;exact zbh ks as bs vs r row h
 | .mv ow :: ks,[],bs,vs,r,row,h=>by simp[ZB]at h
 | .mv ow :: ks,a :: as,bs,vs,r,row,h=>by simp only[ZB]at h;exact zbh ks as bs vs r row h
 | .ptr ow :: ks,[],bs,vs,r,row,h=>by simp[ZB]at h
 | .ptr ow :: ks,a :: as,[],vs,r,row,h=>by cases a<;>simp[ZB]at h
 | .ptr ow :: ks,a :: as,b :: bs,vs,r,row,h=>by
  cases a<;>try (simp[ZB]at h;done)
  simp only[ZB]at h
  by_cases hr:r=b
  ·subst hr;rw[QA]at h;cases h;rfl
  ·rw[CA _ _ _ _ hr]at h;exact zbh ks as bs _ r row h
omit [jA]in
def zvF{ks:List sB}{as:List V}{bs ow:List Nat}{base:Nat}{shape:List (Bool×Nat)}{rs:List V}{r:Nat}{row:vA}(hl:rs.length≤128)
  (h:pF ks as bs ow base shape rs r=some row):row.m= .own:=by
 unfold pF at h;rw[jM]at h;split at h
 ·rename_i x hx;cases h;exact zbh _ _ _ _ _ _ hx
 ·obtain⟨_,_,h0,_,_⟩:=ME _ _ _ _ _ _ h;rw[h0]
omit [jA]in
def zxo(ks:List sB)(as:List V)(bs ow:List Nat)(base:Nat)(shape:List (Bool×Nat))(rs:List V)(h:Nat→Option vA)(r:Nat):
  ZB ks as bs ((RA ow base 0 rs).drop (eL shape)) (bB ow base h 0 rs) r=match pF ks as bs ow base shape rs r with | some x=>some x | none=>h r:=by
 unfold pF;rw[jM ks as bs _ (bB ow base h 0 rs),jM ks as bs _ (bB ow base (λ_=>none) 0 rs),xC ow base h];cases ZB ks as bs ((RA ow base 0 rs).drop (eL shape)) (λ_=>none) r<;>rfl
omit [jA]in
def zmm{ci:aB}{as:List V}{bs:List Nat}{base:Nat}{rs:List V}{r:Nat}{row:vA}(hl:rs.length≤128)(h:sE ci as bs base rs r=some row):r∈bs∨(base≤r∧r<base+128):=by
 unfold sE at h;cases hp:ci.pb
 ·rw[hp]at h;exact zwC hl h
 ·rw[hp]at h;simp only[cond_true]at h
  by_cases hr:r=base
  ·grind
  ·rw[CA _ _ _ _ hr]at h;cases h
omit [jA]in
def zgN{ci:aB}{as:List V}{bs:List Nat}{base:Nat}{rs:List V}{r:Nat}{row:vA}(hl:rs.length≤128)(h:sE ci as bs base rs r=some row):row.m= .own:=by
 unfold sE at h;cases hp:ci.pb
 ·rw[hp]at h;exact zvF hl h
 ·rw[hp]at h;simp only[cond_true]at h
  by_cases hr:r=base
  ·subst hr;rw[QA]at h;cases h;rfl
  ·rw[CA _ _ _ _ hr]at h;cases h
omit [jA]in
def KO(ci:aB)(as:List V)(bs:List Nat)(base:Nat)(rs:List V)(h:Nat→Option vA)(r:Nat):
  tH ci as bs base rs h r=match sE ci as bs base rs r with | some x=>some x | none=>h r:=by
 unfold sE tH;cases hp:ci.pb
 ·exact zxo _ _ _ _ _ _ _ _ _
 ·simp only[cond_true]
  by_cases hr:r=base
  ·subst hr;rw[QA,QA]
  ·rw[CA _ _ _ _ hr,CA _ _ _ _ hr]
def QF(h' h:Nat→Option vA):Prop:=∀r row',h' r=some row'→∃row,h r=some row∧row.c=row'.c∧(row'.m.isRo=false→row.m.isRo=false)
omit [jA]in
def QF.refl(h:Nat→Option vA):QF h h:=λ_ row' h=>⟨row',h,rfl,id⟩
omit [jA]in
def QF.trans{a b c:Nat→Option vA}(h:QF a b)(k:QF b c):QF a c:=λr row' hr=>by
 obtain⟨row,h1,h2,h3⟩:=h r row' hr;obtain⟨row2,k1,k2,k3⟩:=k r row h1
 grind
omit [jA]in
def rV(h:Nat→Option vA)(r:Nat):QF (AA h r none) h:=λq row' hq=>by
 by_cases gW:q=r
 ·subst gW;rw[QA]at hq;cases hq
 ·rw[CA _ _ _ _ gW]at hq;exact⟨row',hq,rfl,id⟩
omit [jA]in
def JL(ow:List Nat):∀(cs:List V) (p:Nat) (h:Nat→Option vA) (x:List V×(Nat→Option vA)),bE ow p cs h=some x→QF x.2 h
 | [],p,h,x,ht=>by simp[bE]at ht;subst ht;exact QF.refl h
 | c :: cs,p,h,x,ht=>by
  simp only[bE]at ht;cases hb:ow.any (Nat.beq p)
  ·simp only[hb,cond_false]at ht;split at ht
   case h_2=>cases ht
   split at ht
   case h_2=>cases ht
   rename_i hr;cases ht;exact(JL ow cs _ _ _ hr).trans (RU h _)
  ·simp only[hb,cond_true]at ht;split at ht
   ·split at ht
    case h_2=>cases ht
    split at ht
    case h_2=>cases ht
    rename_i hr;cases ht;exact(JL ow cs _ _ _ hr).trans (rV h _)
   ·split at ht
    case h_2=>cases ht
    rename_i hr;cases ht;have:=JL ow cs _ _ _ hr;exact this
   ·split at ht
    case h_2=>cases ht
    split at ht
    case h_2=>cases ht
    rename_i hr;cases ht;exact(JL ow cs _ _ _ hr).trans (rV h _)
   ·cases ht
omit [jA]in
def jU:∀(ks:List sB) (as:List V) (h:Nat→Option vA) (x:List V×(Nat→Option vA)×List Nat),yC ks as h=some x→QF x.2.1 h
 | [],[],h,x,ht=>by simp[yC]at ht;subst ht;exact QF.refl h
 | [],_ :: _,h,x,ht=>by simp[yC]at ht
 | .plain :: ks,[],h,x,ht=>by simp[yC]at ht
 | .ptr _ :: ks,[],h,x,ht=>by simp[yC]at ht
 | .mv _ :: ks,[],h,x,ht=>by simp[yC]at ht
 | .mv ow :: ks,v :: vs,h,x,ht=>by
  obtain⟨cs,rfl⟩:=zfJ ht;simp only[yC]at ht;cases hb:Nat.ble cs.length 127
  case false=>simp[hb]at ht
  simp only[hb,cond_true]at ht;split at ht
  ·cases ht
  rename_i hl;split at ht
  ·cases ht
  rename_i hr;cases ht;exact(jU ks vs _ _ hr).trans (JL _ _ _ _ _ hl)
 | .plain :: ks,v :: vs,h,x,ht=>by
  simp only[yC]at ht;split at ht
  ·cases ht
  split at ht
  ·cases ht
  rename_i hr;cases ht;exact(jU ks vs _ _ hr).trans (RU h _)
 | .ptr ow :: ks,v :: vs,h,x,ht=>by
  obtain⟨r,rfl⟩:=zft ht;simp only[yC]at ht;split at ht
  case h_2=>cases ht
  rename_i cs _;cases hb:Nat.ble cs.length 127
  case false=>simp[hb]at ht
  simp only[hb,cond_true]at ht;split at ht
  ·cases ht
  rename_i hl;split at ht
  ·cases ht
  rename_i hr;cases ht;exact(jU ks vs _ _ hr).trans ((JL _ _ _ _ _ hl).trans (rV h r))
section
variable {C:Cx} {w0:World} {outer own:Nat→Prop} {ρ:Nat→Option RI} {st st':St} {a:Act} {w:World} {h:Nat→Option vA}
def rB.sub(hh:rB w0 outer own ρ h w){w1:World}{outer' own':Nat→Prop}{e:Nat→Option vA}{ρe:Nat→Option RI}(φ:Nat→Nat)(yZ:Wx w1 w)
  (UZ:∀b,b<w1.heap.size→¬own' b→w.heap[b]?=w1.heap[b]?) (CX:∀b,outer' b→b<w1.heap.size∧¬own' b)
  (HV:∀q row,e q=some row→∃row' ri,h (φ q)=some row'∧ρe q=some ri∧ρ (φ q)=some ri∧jE w ρe (uA outer' ρe e) ri row.c∧(ri.nl=false→¬outer' ri.b∧(row.m.isRo=false→w1.heap.size≤ri.b∨own' ri.b)))
  (hinj:∀q q' row row',e q=some row→e q'=some row'→φ q=φ q'→q=q'):rB w1 outer' own' ρe e w:=by
 refine⟨yZ,UZ,CX,λq row hq=>?_,λq q' row row' qi qi' h1 h2 h3 h4 h5 h6 h7=>?_⟩
 ·obtain⟨row',ri,h1,h2,h3,h4,h5⟩:=HV q row hq;obtain⟨ri',k1,_,k2⟩:=hh.rows _ _ h1
  grind
 ·obtain⟨r1,ri1,g1,g2,g3,_,_⟩:=HV q row h1;obtain⟨r2,ri2,g4,g5,g6,_,_⟩:=HV q' row' h2;rw[h3]at g2;cases g2;rw[h4]at g5;cases g5;exact hinj q q' row row' h1 h2 (hh.inj _ _ _ _ _ _ g1 g4 g3 g6 h5 h6 h7)
variable {bad:Nat→Prop} {g:Nat→Option vA} {N0:Nat}
def wG.row{ks:List sB}{k:Nat}{as:List V}{bs:List Nat}{u:Nat→Value}(he:wG w ρ bad g N0 ks k as bs u):∀{q:Nat} {row:vA},EA ks k as q=some row→
  128 *k≤q∧q<128 *(k+ks.length)∧
  ((∃ b ow k' cs ri,uB ks k bs q=some b∧q=128 *k'+127∧k≤k'∧k'<k+ks.length∧row=⟨.box (RA ow (128 *k') 0 cs), .own⟩∧g b=some ⟨.box (RA ow (N0+128 *k') 0 cs), .own⟩∧ρ b=some ri∧ri.nl=false∧
    cs.length≤127∧(∀j (hj:j<cs.length),nD cs[j])∧b<N0∧∀p t l,cs[p]?=some (.sl t l)→ow.any (Nat.beq p)=true→EA ks k as (128 *k'+p)=some ⟨.arr t l, .own⟩)∨
  (∃t l,row=⟨.arr t l, .own⟩∧g (N0+q)=some row∧q % 128≠127)):=by
 induction he with
 | nil=>intro q row h;simp[EA]at h
 | plain hv hn hr ih=>
  rename_i ks k v as bs u;intro q row h;simp only[EA]at h;obtain⟨h1,h2,h3⟩:=ih h;refine⟨by omega,by simp;omega,?_⟩
  rcases h3 with⟨b,ow,k',cs,ri,e1,e2,e3,e4,e5,e6,e7,e8,e9,e10,e11,e12⟩ | h3
  ·exact .inl ⟨b,ow,k',cs,ri,e1,e2,by omega,by simp;omega,e5,e6,e7,e8,e9,e10,e11,λp t l h4 h5=>by simp only[EA];exact e12 p t l h4 h5⟩
  ·exact .inr h3
 | ptr ri hρ fW hu hg hl hq hc hb hr ih=>
  rename_i ow ks k b cs as bs u;intro q row h;simp only[EA]at h
  by_cases pZ:q=128 *k+127
  ·subst pZ;rw[QA]at h;cases h
   exact⟨by omega,by simp;omega, .inl ⟨b,ow,k,cs,ri,by simp[uB],rfl,Nat.le_refl _,by simp,rfl,hg,hρ,fW,hl,λj hj=>(hc j hj).1,hb,λp t l h4 h5=>by
    have hp:p<cs.length:=by
     grind
    simp only[EA];rw[CA _ _ _ _ (by omega),xC,zfU ow (128 *k) cs 0 p t l (Nat.zero_le _) h4 h5]⟩⟩
  ·rw[CA _ _ _ _ pZ,xC]at h;split at h
   ·rename_i x hx;cases h;obtain⟨t,l,e1,e2,e3⟩:=ME _ _ _ _ _ _ hx;refine⟨by omega,by simp;omega, .inr ⟨t,l,e1,?_,by omega⟩⟩;have h1:=hq (q - 128 *k) (by omega);have h2:=WU ow (128 *k) (N0+128 *k) cs 0 (q - 128 *k)
    grind
   ·obtain⟨h1,h2,h3⟩:=ih h;refine⟨by omega,by simp;omega,?_⟩
    rcases h3 with⟨b',ow',k',cs',ri',e1,e2,e3,e4,e5,e6,e7,e8,e9,e10,e11,e12⟩ | h3
    ·refine .inl ⟨b',ow',k',cs',ri',?_,e2,by omega,by simp;omega,e5,e6,e7,e8,e9,e10,e11,λp t l h4 h5=>?_⟩
     ·simp only[uB];rw[if_neg pZ];exact e1
     ·have hp:p<cs'.length:=by
       grind
      simp only[EA];rw[CA _ _ _ _ (by omega),xC,dE _ _ _ _ _ (by omega)];exact e12 p t l h4 h5
    ·exact .inr h3
 | mv hv hl hq hc hr ih=>
  rename_i ow ks k cs as bs u;intro q row h;simp only[EA]at h;rw[xC]at h;split at h
  ·rename_i x hx;cases h;obtain⟨t,l,e1,e2,e3⟩:=ME _ _ _ _ _ _ hx;refine⟨by omega,by simp;omega, .inr ⟨t,l,e1,?_,by omega⟩⟩;have h1:=hq (q - 128 *k) (by omega);have h2:=WU ow (128 *k) (N0+128 *k) cs 0 (q - 128 *k)
   grind
  ·obtain⟨h1,h2,h3⟩:=ih h;refine⟨by omega,by simp;omega,?_⟩
   rcases h3 with⟨b',ow',k',cs',ri',e1,e2,e3,e4,e5,e6,e7,e8,e9,e10,e11,e12⟩ | h3
   ·refine .inl ⟨b',ow',k',cs',ri',e1,e2,by omega,by simp;omega,e5,e6,e7,e8,e9,e10,e11,λp t l h4 h5=>?_⟩
    have hp:p<cs'.length:=by
     grind
    simp only[EA];rw[xC,dE _ _ _ _ _ (by omega)];exact e12 p t l h4 h5
   ·exact .inr h3
def wG.vals{ks:List sB}{k:Nat}{as:List V}{bs:List Nat}{u:Nat→Value}(he:wG w ρ bad g N0 ks k as bs u){ρc:Nat→Option RI}{badc:Nat→Prop}
  (hb:∀b,badc b→bad b) (hρ:∀q b,uB ks k bs q=some b→ρc q=ρ b) (hρ2:∀q row,EA ks k as q=some row→q % 128≠127→ρc q=ρ (N0+q)):
  (VB ks k as).length=ks.length∧∀j (hj:j<(VB ks k as).length),VR w ρc badc (u j) (VB ks k as)[j]:=by
 induction he with
 | nil=>exact⟨rfl,λj hj=>by simp[VB]at hj⟩
 | plain hv hn hr ih=>
  rename_i ks k v as bs u;obtain⟨h1,h2⟩:=ih (λq b h=>hρ q b h) λq row h=>hρ2 q row h;refine⟨by simp[VB,h1],λj hj=>?_⟩;cases j with
  | zero=>exact(hv.noRef hn ρc).mono (λ_ _ h=>h) (λ_ _ _=>rfl) λb h=> .inl (hb b h)
  | succ j=>exact h2 j (by simpa[VB]using hj)
 | ptr ri hρb fW hu hg hl hq hc hb0 hr ih=>
  rename_i ow ks k b cs as bs u
  obtain⟨h1,h2⟩:=ih (λq b' h=>hρ q b' (by
   obtain⟨h3,_⟩:=IF _ _ _ _ _ h;simp only[uB];rw[if_neg (by omega)];exact h)) λq row h h3=>hρ2 q row (by
   have:=(hr.row h).1;simp only[EA];rw[CA _ _ _ _ (by omega),xC,dE _ _ _ _ _ (by omega)];exact h) h3
  refine⟨by simp[VB,h1],λj hj=>?_⟩;cases j with
  | zero=>
   show VR w ρc badc (u 0) (.bp (128 *k+127) 0)
   rw[hu];exact .bp _ _ ri (by rw[hρ (128 *k+127) b (by simp[uB])];exact hρb) fW
  | succ j=>exact h2 j (by simpa[VB]using hj)
 | mv hv hl hq hc hr ih=>
  rename_i ow ks k cs as bs u
  obtain⟨h1,h2⟩:=ih (λq b h=>hρ q b h) λq row h h3=>hρ2 q row (by
   have:=(hr.row h).1;simp only[EA];rw[xC,dE _ _ _ _ _ (by omega)];exact h) h3
  refine⟨by simp[VB,h1],λj hj=>?_⟩;cases j with
  | zero=>
   show VR w ρc badc (u 0) (.agg (RA ow (128 *k) 0 cs))
   generalize u 0=u0 at hv;cases hv with
   | agg _ vs hs GX=>
   refine .agg _ vs (by rw[FF];rw[FF]at hs;exact hs) ?_;refine cV ow (N0+128 *k) (128 *k) cs 0 (λj=>vs.getD j undef) (λq' h3 h4 h5 h6=>?_) (λj hj=>(hc j hj).1) hb (λj hj=>GX j hj);obtain⟨t,l,h6⟩:=h6
   have h0:EA (.mv ow :: ks) k (.agg cs :: as) (128 *k+q')=some ⟨.arr t l, .own⟩:=by
    simp only[EA];rw[xC,zfU ow (128 *k) cs 0 q' t l (Nat.zero_le _) h6 h5]
   have:=hρ2 _ _ h0 (by omega);rw[this];congr 1;omega
  | succ j=>exact h2 j (by simpa[VB]using hj)
def wG.found{ks:List sB}{k:Nat}{as:List V}{bs:List Nat}{u:Nat→Value}(he:wG w ρ bad g N0 ks k as bs u):∀{q b:Nat},uB ks k bs q=some b→∃row,EA ks k as q=some row:=by
 induction he with
 | nil=>intro q b h;simp[uB]at h
 | plain hv hn hr ih=>intro q b h;simp only[uB]at h;simp only[EA];exact ih h
 | ptr ri hρ fW hu hg hl hq hc hb hr ih=>
  rename_i ow ks k b0 cs as bs u;intro q b h;simp only[uB]at h;simp only[EA]
  by_cases pZ:q=128 *k+127
  ·subst pZ;exact⟨_,QA _ _ _⟩
  ·rw[if_neg pZ]at h;obtain⟨row,h1⟩:=ih h;have:=(IF _ _ _ _ _ h).1;rw[CA _ _ _ _ pZ,xC,dE _ _ _ _ _ (by omega)];exact⟨row,h1⟩
 | mv hv hl hq hc hr ih=>
  rename_i ow ks k cs as bs u;intro q b h;simp only[uB]at h;simp only[EA];obtain⟨row,h1⟩:=ih h;have:=(IF _ _ _ _ _ h).1;rw[xC,dE _ _ _ _ _ (by omega)];exact⟨row,h1⟩
def wG.surj{ks:List sB}{k:Nat}{as:List V}{bs:List Nat}{u:Nat→Value}(he:wG w ρ bad g N0 ks k as bs u):∀b∈bs,∃q,uB ks k bs q=some b:=by
 induction he with
 | nil=>intro b hb;simp at hb
 | plain hv hn hr ih=>intro b hb;obtain⟨q,h⟩:=ih b hb;exact⟨q,h⟩
 | mv hv hl hq hc hr ih=>intro b hb;obtain⟨q,h⟩:=ih b hb;exact⟨q,h⟩
 | ptr ri hρb fW hu hg hl hq hc hb0 hr ih=>
  rename_i ow ks k b cs as bs u;intro b' KX
  rcases List.mem_cons.1 KX with rfl | KX
  ·exact⟨128 *k+127,by simp[uB]⟩
  ·obtain⟨q,h⟩:=ih b' KX;refine⟨q,?_⟩;have:=(IF _ _ _ _ _ h).1;simp only[uB];rw[if_neg (by omega)];exact h
def zbm{bad2:Nat→Prop}{ri:RI}{t:TN}{l:List (El t)}(hr:jE w ρ bad ri (.arr t l))(hb:∀b,bad2 b→bad b)(ρ2:Nat→Option RI):jE w ρ2 bad2 ri (.arr t l):=by
 refine⟨hr.1,?_⟩
 rcases hr.2 with h | ⟨h1,he,h2,h3,h4,h5⟩
 ·exact .inl h
 ·refine .inr ⟨h1,he,h2,h3,h4,λi hi j hj=>?_⟩;obtain⟨u,h6,h7⟩:=h5 i hi j hj;exact⟨u,h6,(h7.noRef (λS=>OM S t _ j) ρ2).mono (λ_ _ h=>h) (λ_ _ _=>rfl) λb h=> .inl (hb b h)⟩
end
end Go.D
namespace Go.D
variable [jA]
inductive Rk(m:Nat):V→Prop where
 | undef:Rk m .undef
 | bool (b:Bool):Rk m (.bool b)
 | int (k:IntKind) (n:Int):Rk m (.int k n)
 | str (s:List UInt8):Rk m (.str s)
 | nil:Rk m .nil
 | sl (t:TN) (l:List (El t)) (h:t.rank<m):Rk m (.sl t l)
 | ow (r:Nat):Rk m (.ow r)
 | bp (r off:Nat):Rk m (.bp r off)
 | agg (cs:List V) (h:∀c∈cs,Rk m c):Rk m (.agg cs)
 | tup (cs:List V) (h:∀c∈cs,Rk m c):Rk m (.tup cs)
 | nili:Rk m .nili
 | ifc (b:Bool):Rk m (.ifc b)
def zhv(m:Nat):V→Bool
 | .sl t _=>Nat.blt t.rank m
 | .bool _ | .int _ _ | .str _ | .nil | .undef | .nili | .ifc _=>true
 | _=>false
omit [jA]in
def Rk.of_low{m:Nat}{v:V}(h:zhv m v=true):Rk m v:=by
 cases v<;>simp only[zhv]at h<;>try (cases h;done)
 ·exact .undef
 ·exact .bool _
 ·exact .int _ _
 ·exact .str _
 ·exact .nil
 ·exact .sl _ _ (by simpa[Nat.blt_eq]using h)
 ·exact .nili
 ·exact .ifc _
omit [jA]in
def Rk.mono{m m':Nat}(hm:m≤m'){v:V}(h:Rk m v):Rk m' v:=by
 induction h with
 | undef=>exact .undef
 | bool=>exact .bool _
 | int=>exact .int _ _
 | str=>exact .str _
 | nil=>exact .nil
 | sl t l h=>exact .sl _ _ (Nat.lt_of_lt_of_le h hm)
 | ow=>exact .ow _
 | bp=>exact .bp _ _
 | agg cs h ih=>exact .agg _ ih
 | tup cs h ih=>exact .tup _ ih
 | nili=>exact .nili
 | ifc=>exact .ifc _
omit [jA]in
def zvZ(t:TN)(x:El t):(enc t x).all (zhv t.rank)=true:=by cases t<;>rfl
omit [jA]in
def zli(t:TN)(x:El t)(j:Nat):Rk t.rank ((enc t x).getD j .undef):=by
 rw[List.getD_eq_getElem?_getD]
 by_cases hj:j<(enc t x).length
 ·rw[List.getElem?_eq_getElem hj];exact .of_low (List.all_eq_true.1 (zvZ t x) _ (List.getElem_mem hj))
 ·rw[List.getElem?_eq_none (by omega)];exact .undef
variable {w:World} {ρ:Nat→Option RI} {bad bad':Nat→Prop} {v:Value} {d:V}
def VR.widen(h:VR w ρ bad v d){m:Nat}(hd:Rk m d)(hb:∀b,bad' b→bad b∨(jA.base≤b∧∃t,OF w b t∧m≤t.rank)):VR w ρ bad' v d:=by
 induction h with
 | undef=>exact .undef _
 | bool=>exact .bool _
 | int k n h=>exact .int _ _ h
 | str s h=>exact .str _ h
 | nil=>exact .nil
 | slE t a cap h=>exact .slE _ _ _ h
 | slC t l b off cap u hb0 hl hc he hu hv ih=>
  cases hd with | sl _ _ hr=>
  by_cases Y1:l.length=0
  ·obtain rfl:l=[]:=List.eq_nil_of_length_eq_zero Y1;exact .slE _ _ _ hc
  ·refine .slC t l b off cap u (λh=>?_) hl hc he hu λi hi j hj=>ih i hi j hj ((zli t l[i] j).mono (Nat.le_of_lt hr))
   rcases hb b h with h | ⟨h1,t',h2,h3⟩
   ·exact hb0 h
   ·rcases he (by rintro rfl;simp at Y1)with h4 | h4
    ·omega
    ·have:=h4.uniq h2;subst this;omega
 | ow r ri h hn hc fW=>exact .ow _ _ h hn hc fW
 | owN r ri ao h hn fW=>exact .owN _ _ _ h hn fW
 | ov=>cases hd
 | bp r off ri h fW=>exact .bp _ _ _ h fW
 | ep=>cases hd
 | fp=>cases hd
 | fn=>cases hd
 | agg cs vs hs hv ih=>cases hd with | agg _ hd=>exact .agg _ _ hs λj hj=>ih j hj (hd _ (List.getElem_mem hj))
 | tup cs vs hs hv ih=>cases hd with | tup _ hd=>exact .tup _ _ hs λj hj=>ih j hj (hd _ (List.getElem_mem hj))
 | nili=>exact .nili
 | ifc=>exact .ifc _ _
 | ifn=>exact .ifn
def zes(m:Nat):xF→Prop
 | .box cs=>∀c∈cs,Rk m c
 | .arr t _=>t.rank≤m
def jE.keepR{w':World}{ρ':Nat→Option RI}{ri:RI}{c:xF}{m:Nat}(hr:jE w ρ bad ri c)(hc:zes m c)
  (hw:ri.nl=false→w'.heap[ri.b]?=w.heap[ri.b]?)
  (hv:∀u d,Rk m d→VR w ρ bad u d→VR w' ρ' bad' u d):jE w' ρ' bad' ri c:=by
 cases c with
 | box cs=>
  refine⟨hr.1,λj hj=>?_⟩;obtain⟨h1,u,h2,h3⟩:=hr.2 j hj;have hb:=hw hr.1;exact⟨by rw[←h1];simp[World.frozen?,at_,hb],u,by rw[←h2];exact VJ hb,hv _ _ (hc _ (List.getElem_mem hj)) h3⟩
 | arr t l=>
  refine⟨hr.1,?_⟩
  rcases hr.2 with h | ⟨h0,he,h1,h2,h3,h4⟩
  ·exact .inl h
  ·have hb:=hw h0;refine .inr ⟨h0,he.same hb,h1,h2,λj hj=>?_,λi hi j hj=>?_⟩
   ·have:=h3 j hj;exact⟨by rw[←this.1];simp[World.frozen?,at_,hb],by rw[←this.2];congr 1;exact VJ hb⟩
   ·obtain⟨u,h5,h6⟩:=h4 i hi j hj;exact⟨u,by rw[←h5];exact VJ hb,hv _ _ ((zli t _ j).mono hc) h6⟩
omit [jA]in
def ztN{m:Nat}{v:V}(h:JM v=true):Rk m v:=by
 cases v<;>simp[JM]at h
 ·exact .bool _
 ·exact .int _ _
 ·exact .str _
omit [jA]in
def zdA(ow:List Nat)(base:Nat):∀(vs:List V) (p m m':Nat),UE ow p vs=some m→m≤m'→
  (∀v∈RA ow base p vs,Rk m' v)∧∀q t l,bB ow base (λ_=>none) p vs q=some ⟨.arr t l, .own⟩→t.rank≤m'
 | [],p,m,m',h,hm=>⟨λv hv=>by simp[RA]at hv,λq t l hq=>by simp[bB]at hq⟩
 | v :: vs,p,m,m',h,hm=>by
  cases v
  case sl t l=>
   simp only[UE]at h;split at h
   case h_2=>cases h
   rename_i m1 h1;cases h;have hm1:m1≤m':=Nat.le_trans (Nat.le_max_right _ _) hm;have C2:=Nat.le_trans (Nat.le_max_left _ _) hm;obtain⟨i1,i2⟩:=zdA ow base vs (p+1) m1 m' h1 hm1;cases ho:ow.any (Nat.beq p)
   ·simp only[ho,cond_false]at C2;simp only[RA,bB,ho,cond_false];refine⟨λv hv=>?_,i2⟩
    rcases List.mem_cons.1 hv with rfl | hv
    ·exact .sl _ _ (by omega)
    ·exact i1 v hv
   ·simp only[ho,cond_true]at C2;simp only[RA,bB,ho,cond_true];refine⟨λv hv=>?_,λq t' l' hq=>?_⟩
    ·rcases List.mem_cons.1 hv with rfl | hv
     ·exact .ow _
     ·exact i1 v hv
    ·by_cases K3:q=base+p
     ·subst K3;rw[QA]at hq;cases hq;exact C2
     ·rw[CA _ _ _ _ K3]at hq;exact i2 q t' l' hq
  case nil=>
   simp only[UE]at h;obtain⟨i1,i2⟩:=zdA ow base vs (p+1) m m' h hm;simp only[RA,bB];refine⟨λv hv=>?_,i2⟩
   rcases List.mem_cons.1 hv with rfl | hv
   ·exact .nil
   ·exact i1 v hv
  all_goals
   simp only[UE]at h
   first
   | (simp only[JM,cond_false]at h;cases h;done)
   | (simp only [JM,cond_true] at h
      obtain⟨i1,i2⟩:=zdA ow base vs (p+1) m m' h hm;simp only[RA,bB];refine⟨λv hv=>?_,i2⟩
      rcases List.mem_cons.1 hv with rfl | hv
      ·exact ztN rfl
      ·exact i1 v hv)
omit [jA]in
def zlj{m:Nat}:∀(sh:List (Bool×Nat)) (vs:List V),(∀v∈vs,Rk m v)→∀v∈VE sh vs,Rk m v
 | [],vs,h,v,hv=>by simp[VE]at hv
 | (ag,n) :: sh,vs,h,v,hv=>by
  simp only[VE]at hv
  rcases List.mem_cons.1 hv with rfl | hv
  ·cases ag
   ·cases vs with
    | nil=>exact .undef
    | cons x vs=>exact h x (by simp)
   ·exact .agg _ λc hc=>h c (List.mem_of_mem_take hc)
  ·exact zlj sh (vs.drop n) (λv hv=>h v (List.mem_of_mem_drop hv)) v hv
omit [jA]in
def zwh{m:Nat}(sh:List (Bool×Nat))(vs:List V)(h:∀v∈vs,Rk m v):Rk m (yI sh vs):=by
 have:=zlj sh vs h;unfold yI;split
 ·grind
 ·exact .tup _ this
omit [jA]in
def zc3{m:Nat}:∀(ks:List sB) (as:List V) (bs:List Nat) (vs:List V) (r:Nat) (row:vA),(∀v∈vs,Rk m v)→ZB ks as bs vs (λ_=>none) r=some row→zes m row.c
 | [],as,bs,vs,r,row,hv,h=>by cases as<;>simp[ZB]at h
 | .plain :: ks,[],bs,vs,r,row,hv,h=>by simp[ZB]at h
 | .plain :: ks,a :: as,bs,vs,r,row,hv,h=>by simp only[ZB]at h;exact zc3 ks as bs vs r row hv h
 | .mv ow :: ks,[],bs,vs,r,row,hv,h=>by simp[ZB]at h
 | .mv ow :: ks,a :: as,bs,vs,r,row,hv,h=>by simp only[ZB]at h;exact zc3 ks as bs vs r row hv h
 | .ptr ow :: ks,[],bs,vs,r,row,hv,h=>by simp[ZB]at h
 | .ptr ow :: ks,a :: as,[],vs,r,row,hv,h=>by cases a<;>simp[ZB]at h
 | .ptr ow :: ks,a :: as,b :: bs,vs,r,row,hv,h=>by
  cases a<;>try (simp[ZB]at h;done)
  simp only[ZB]at h
  by_cases hr:r=b
  ·subst hr;rw[QA]at h;cases h;exact λc hc=>hv c (List.mem_of_mem_take hc)
  ·rw[CA _ _ _ _ hr]at h;exact zc3 ks as bs _ r row (λv A3=>hv v (List.mem_of_mem_drop A3)) h
omit [jA]in
def zwM{ci:aB}{as:List V}{bs:List Nat}{base:Nat}{rs:List V}{m:Nat}(hm:UE ci.own 0 rs=some m)(hp:ci.pb=false):
  (∀r row,sE ci as bs base rs r=some row→zes m row.c)∧Rk m (vJ ci base rs):=by
 obtain⟨h1,h2⟩:=zdA ci.own base rs 0 m m hm (Nat.le_refl _);refine⟨λr row h=>?_,?_⟩
 ·unfold sE pF at h;rw[hp,cond_false,jM]at h;split at h
  ·rename_i x hx;cases h;exact zc3 _ _ _ _ _ _ (λv hv=>h1 v (List.mem_of_mem_drop hv)) hx
  ·obtain⟨t,l,h0,_,_⟩:=ME _ _ _ _ _ _ h;subst h0;exact h2 r t l h
 ·unfold vJ;rw[hp,cond_false];exact zwh _ _ h1
end Go.D
namespace Go.D
variable [jA]
structure fG(C:Cx):Prop where
 ok:∀k ci,C.Φ k=some ci→yB C.P (k % 1048576) ci C.g
section
variable {C:Cx} {w0:World} {outer own:Nat→Prop} {ρ:Nat→Option RI} {st st':St} {a:Act} {w:World} {h:Nat→Option vA}
def ZA.grow(hr:ZA C w0 outer own ρ st a w){w1:World}(hx:Wx w w1)(ho:∀b,b<w.heap.size→w1.heap[b]?=w.heap[b]?):ZA C w0 outer own ρ st a w1:=by
 have hv:∀u d,VR w ρ (uA outer ρ st.h) u d→VR w1 ρ (uA outer ρ st.h) u d:=λu d hu=>hu.mono (λ_ _ h=>h) (λb _ hb=>ho b hb) λb hb=> .inl hb;refine⟨⟨hr.heap.wx.trans hx,λb hb hn=>(ho b (Nat.lt_of_lt_of_le hb hr.heap.wx.size)).trans (hr.heap.old b hb hn),hr.heap.outLt,λr row h=>?_,hr.heap.inj⟩,λi=>hv _ _ (hr.slots i),hr.size,hr.defers,hr.glob⟩;obtain⟨ri,h1,h2,h3⟩:=hr.heap.rows r row h;exact⟨ri,h1,h2.keep (λhn=>ho _ (h3 hn).2) hv,λhn=>⟨(h3 hn).1,Nat.lt_of_lt_of_le (h3 hn).2 hx.size⟩⟩
inductive Sc:V→Prop where
 | undef:Sc .undef
 | bool (b:Bool):Sc (.bool b)
 | int (k:IntKind) (n:Int):Sc (.int k n)
 | str (s:List UInt8):Sc (.str s)
 | nil:Sc .nil
 | ow (r:Nat):Sc (.ow r)
 | agg (cs:List V) (h:∀c∈cs,Sc c):Sc (.agg cs)
 | tup (cs:List V) (h:∀c∈cs,Sc c):Sc (.tup cs)
def VR.sc{ρ':Nat→Option RI}{bad bad':Nat→Prop}{w':World}{v:Value}{d:V}(h:VR w ρ bad v d)(hs:Sc d)(hρ:∀r ri,ρ r=some ri→ρ' r=some ri):VR w' ρ' bad' v d:=by
 induction h with
 | undef=>exact .undef _
 | bool=>exact .bool _
 | int k n h=>exact .int _ _ h
 | str s h=>exact .str _ h
 | nil=>exact .nil
 | ow r ri h h1 h2 h3=>exact .ow _ _ (hρ _ _ h) h1 h2 h3
 | owN r ri ao h h1 h2=>exact .owN _ _ _ (hρ _ _ h) h1 h2
 | agg cs vs YV hv ih=>
  cases hs with
  | agg _ hs=>exact .agg _ _ YV λj hj=>ih j hj (hs _ (List.getElem_mem hj))
 | tup cs vs YV hv ih=>
  cases hs with
  | tup _ hs=>exact .tup _ _ YV λj hj=>ih j hj (hs _ (List.getElem_mem hj))
 | _=>cases hs
omit [jA]in
def zel{v:V}(h:JM v=true):Sc v:=by
 cases v<;>simp[JM]at h
 ·exact .bool _
 ·exact .int _ _
 ·exact .str _
omit [jA]in
def zw0{t:TN}(h:t.flat=true)(x:El t)(j:Nat):Sc ((enc t x).getD j .undef):=by
 have hall:∀c∈enc t x,Sc c:=by
  cases t<;>simp[TN.flat]at h<;>intro c hc<;>simp[enc]at hc<;>(try subst hc)<;>(try exact zel rfl)<;>(repeat' (rcases hc with rfl | hc))<;>(try subst hc)<;>first | exact zel rfl | skip
  all_goals (simp[zds,zcQ,zdh,zdp]at hc;repeat' (rcases hc with rfl | hc))<;>(try subst hc)<;>exact zel rfl
 rw[List.getD_eq_getElem?_getD]
 by_cases hj:j<(enc t x).length
 ·rw[List.getElem?_eq_getElem hj];exact hall _ (List.getElem_mem hj)
 ·rw[List.getElem?_eq_none (by omega)];exact .undef
omit [jA]in
def zlc:∀(sh:List (Bool×Nat)) (vs:List V),(∀v∈vs,Sc v)→∀v∈VE sh vs,Sc v
 | [],vs,h,v,hv=>by simp[VE]at hv
 | (ag,n) :: sh,vs,h,v,hv=>by
  simp only[VE]at hv
  rcases List.mem_cons.1 hv with rfl | hv
  ·cases ag
   ·cases vs with
    | nil=>exact .undef
    | cons x vs=>exact h x (by simp)
   ·exact .agg _ λc hc=>h c (List.mem_of_mem_take hc)
  ·exact zlc sh (vs.drop n) (λv hv=>h v (List.mem_of_mem_drop hv)) v hv
omit [jA]in
def zwj(sh:List (Bool×Nat))(vs:List V)(h:∀v∈vs,Sc v):Sc (yI sh vs):=by
 have:=zlc sh vs h;unfold yI;split
 ·rename_i v hv;exact this v (by rw[hv];simp)
 ·exact .tup _ this
omit [jA]in
def zgE(ow:List Nat)(base:Nat):∀(vs:List V) (p:Nat),zay ow p vs=true→(∀v∈RA ow base p vs,Sc v)∧∀q t l,bB ow base (λ_=>none) p vs q=some ⟨.arr t l, .own⟩→t.flat=true
 | [],p,h=>⟨λv hv=>by simp[RA]at hv,λq t l hq=>by simp[bB]at hq⟩
 | v :: vs,p,h=>by
  cases v<;>simp only[zay,Bool.and_eq_true]at h
  case sl t l=>
   obtain⟨⟨h1,h2⟩,h3⟩:=h;obtain⟨i1,i2⟩:=zgE ow base vs (p+1) h3;simp only[RA,bB,h1,cond_true];refine⟨λv hv=>?_,λq t' l' hq=>?_⟩
   ·rcases List.mem_cons.1 hv with rfl | hv
    ·exact .ow _
    ·exact i1 v hv
   ·by_cases K3:q=base+p
    ·subst K3;rw[QA]at hq;cases hq;exact h2
    ·rw[CA _ _ _ _ K3]at hq;exact i2 q t' l' hq
  all_goals
   obtain⟨h1,h3⟩:=h;obtain⟨i1,i2⟩:=zgE ow base vs (p+1) h3;simp only[RA,bB];refine⟨λv hv=>?_,i2⟩
   rcases List.mem_cons.1 hv with rfl | hv
   ·exact zel h1
   ·exact i1 v hv
omit [jA]in
def ziS:∀(ks:List sB) (as:List V) (bs:List Nat) (vs:List V) (h:Nat→Option vA),ks.all sB.isPlain=true→ZB ks as bs vs h=h
 | [],as,bs,vs,h,hp=>by cases as<;>rfl
 | .plain :: ks,[],bs,vs,h,hp=>rfl
 | .plain :: ks,a :: as,bs,vs,h,hp=>by
  simp only[List.all_cons,Bool.and_eq_true]at hp;show ZB ks as bs vs h=h
  exact ziS ks as bs vs h hp.2
 | .ptr _ :: ks,as,bs,vs,h,hp=>by simp[sB.isPlain]at hp
 | .mv _ :: ks,as,bs,vs,h,hp=>by simp[sB.isPlain]at hp
omit [jA]in
def zjL:∀(ks:List sB) (k:Nat) (as:List V),ks.all sB.isPlain=true→EA ks k as=λ_=>none
 | [],k,as,h=>by cases as<;>rfl
 | .plain :: ks,k,[],h=>rfl
 | .plain :: ks,k,a :: as,h=>by
  simp only[List.all_cons,Bool.and_eq_true]at h;show EA ks (k+1) as=_
  exact zjL ks (k+1) as h.2
 | .ptr _ :: ks,k,as,h=>by simp[sB.isPlain]at h
 | .mv _ :: ks,k,as,h=>by simp[sB.isPlain]at h
omit [jA]in
def zkP(h:Nat→Option vA):QF (RO h) h:=λr row' hr=>by
 unfold RO at hr;split at hr
 ·rename_i c h1;cases hr;exact⟨_,h1,rfl,λ_=>rfl⟩
 ·exact⟨row',hr,rfl,id⟩
omit [jA]in
def ztl(h:Nat→Option vA):QF h (RO h):=λr row hr=>by
 unfold RO;obtain⟨c,m⟩:=row;cases m
 ·exact⟨_,by rw[hr],rfl,λ_=>rfl⟩
 ·exact⟨_,by rw[hr],rfl,λh=>h⟩
 ·exact⟨⟨c, .own⟩,by rw[hr],rfl,λ_=>rfl⟩
def ZA.less(hr:ZA C w0 outer own ρ st a w){h':Nat→Option vA}(hl:QF h' st.h):ZA C w0 outer own ρ {st with h:=h'} a w:=
 ⟨(hr.heap.less hl).1,λi=>(hr.heap.less hl).2 _ _ (hr.slots i),hr.size,hr.defers,hr.glob⟩
variable {o:Oper} {i:Nat} (hr:ZA C w0 outer own ρ st a w)
include hr
def zlH(nY:∃N,∀r,N≤r→ρ r=none)(JW:∀q,q<128→ρ (i+q)=none)(f:Nat)(args:Array Value)(as:List V)(YV:args.size=as.length)
  (DW:∀j (hj:j<as.length),VR w ρ (uA outer ρ st.h) (args.getD j undef) as[j]) (aW:(execOp a.eval o).run C.P w=(callFunc f args).run C.P w)
  {ci:aB} (V8:yB C.P f ci C.g) {as':List V} {h':Nat→Option vA} {bs:List Nat} (VZ:yC ci.ks as st.h=some (as',h',bs)) {x:ci.A} (EZ:ci.dA as'=some x) {r:ci.R} (hF:ci.F x=some r)
  (wW:(ci.eR r).length≤128) (hk:VA C o.dst {st with h:=tH ci as' bs i (ci.eR r) (tL ci (ci.eR r) st.h h')} (vJ ci i (ci.eR r)) some=some st'):
  QC C.P o a w (KC C w0 outer own i ρ st'):=by
 obtain⟨N,hN⟩:=nY
 -- the arguments
 have hhN:∀q,N≤q→st.h q=none:=λq hq=>by
  cases hg:st.h q with
  | none=>rfl
  | some row=>obtain⟨ri,h3,_⟩:=hr.heap.rows _ _ hg;rw[hN q hq]at h3;cases h3
 obtain⟨ρ',g',c1,c2,c3,c4,c5,c6,c7,c8,c9,BG,jG⟩:=zcX N ci.ks as st.h h' as' bs 0 ρ st.h (λj=>args.getD j undef) VZ hr.heap DW (λ_ _ h=>h) (λr hr=>hN r (by omega)) hhN;have bW:=jU _ _ _ _ VZ;simp only at bW;let φ:Nat→Nat:=λq=>(uB ci.ks 0 bs q).getD (N+q);let E:=EA ci.ks 0 as';let ρc:Nat→Option RI:=λq=>if(E q).isSome=true then ρ' (φ q)else none
 let ownc:Nat→Prop:=λb=>∃q row ri,E q=some row∧ρc q=some ri∧ri.nl=false∧ri.b=b;let outc:Nat→Prop:=uA outer ρ' h'
 have hbN:∀b∈bs,b<N:=λb hb=>by
  rcases Nat.lt_or_ge b N with h3 | h3
  ·exact h3
  ·exact absurd (hhN b h3) (c8 b hb).2
 have hφbox:∀q b,uB ci.ks 0 bs q=some b→φ q=b:=λq b h=>by simp[φ,h]
 have hφarr:∀q,q % 128≠127→φ q=N+q:=λq hq=>by
  have:uB ci.ks 0 bs q=none:=by
   cases hb:uB ci.ks 0 bs q with
   | none=>rfl
   | some b=>exact absurd (IF _ _ _ _ _ hb).2.1 hq
  simp[φ,this]
 -- the rows of the entry
 have hE:∀q row,E q=some row→∃row' ri,g' (φ q)=some row'∧row'.m= .own∧h' (φ q)=none∧ρc q=some ri∧ρ' (φ q)=some ri:=λq row hq=>by
  obtain⟨h1,h2,h3⟩:=c7.row hq;have MV:(E q).isSome=true:=by show(EA ci.ks 0 as' q).isSome=true;have h0:EA ci.ks 0 as' q=some row:=hq;rw[h0];rfl
  rcases h3 with⟨b,ow,k',cs,ri,e1,e2,e3,e4,e5,e6,e7,e8⟩ | ⟨t,l,e1,e2,e3⟩
  ·refine⟨_,ri,by rw[hφbox q b e1];exact e6,rfl,by rw[hφbox q b e1];exact(c8 b (IF _ _ _ _ _ e1).2.2).1,?_,by rw[hφbox q b e1];exact e7⟩;simp only[ρc,MV,if_true,hφbox q b e1,e7]
  ·obtain⟨ri,f1,_⟩:=c1.rows _ _ e2;subst e1;refine⟨_,ri,by rw[hφarr q e3];exact e2,rfl,by rw[hφarr q e3];exact c3 _ (hhN _ (by omega)),?_,by rw[hφarr q e3];exact f1⟩;simp only[ρc,MV,if_true,hφarr q e3,f1]
 have K4:∀b,ownc b→∃q row ri,g' q=some row∧row.m= .own∧h' q=none∧ρ' q=some ri∧ri.nl=false∧ri.b=b:=by
  rintro b ⟨q,row,ri,h1,h2,h3,h4⟩;obtain⟨row',ri',f1,f2,f3,f4,f5⟩:=hE q row h1;rw[h2]at f4;cases f4;exact⟨_,row',ri,f1,f2,f3,f5,h3,h4⟩
 have VV:∀q row,h' q=some row→∃ri,ρ' q=some ri∧(ri.nl=false→¬ownc ri.b∧ri.b<w.heap.size∧(¬outer ri.b∧(row.m.isRo=false→w0.heap.size≤ri.b∨own ri.b))):=λq row hq=>by
  obtain⟨ri,f1,_,f2⟩:=c1.rows q row (c2 q row hq);refine⟨ri,f1,λhn=>⟨λho=>?_,(f2 hn).2,(f2 hn).1⟩⟩;obtain⟨q',row',ri',e1,e2,e3,e4,e5,e6⟩:=K4 _ ho;have:=c1.inj q q' row row' ri ri' (c2 q row hq) e1 f1 e4 hn e5 e6.symm;subst this;rw[hq]at e3;cases e3
 have QX:∀b,ownc b→b<w.heap.size∧(w0.heap.size≤b∨own b):=λb hb=>by
  obtain⟨q',row',ri',e1,e2,e3,e4,e5,e6⟩:=K4 _ hb;obtain⟨ri2,f1,_,f2⟩:=c1.rows q' row' e1;rw[e4]at f1;cases f1;rw[←e6];exact⟨(f2 e5).2,(f2 e5).1.2 (by rw[e2];rfl)⟩
 have CX:∀b,outc b→b<w.heap.size∧¬ownc b:=by
  rintro b (hb | ⟨q,row,ri,f1,f2,f3,f4,f5⟩)
  ·obtain⟨g1,g2⟩:=c1.outLt b hb;refine⟨Nat.lt_of_lt_of_le g1 c1.wx.size,λho=>?_⟩
   rcases(QX b ho).2 with h3 | h3
   ·omega
   ·exact g2 h3
  ·obtain⟨ri',k1,k2⟩:=VV q row f1;rw[f3]at k1;cases k1;rw[←f5];exact⟨(k2 f4).2.1,(k2 f4).1⟩
 have S0:∀b,uA outc ρc E b→uA outer ρ' g' b:=by
  rintro b (hb | ⟨q,row,ri,f1,f2,f3,f4,f5⟩)
  ·exact hb.mono λq row h1 h2=>⟨row,c2 q row h1,h2⟩
  ·obtain⟨row',ri',k1,k2,k3,k4,k5⟩:=hE q row f1;rw[f3]at k4;cases k4;exact .inr ⟨_,row',ri,k1,by rw[k2];rfl,k5,f4,f5⟩
 have hρcbox:∀q b,uB ci.ks 0 bs q=some b→q<128 *ci.ks.length→ρc q=ρ' b:=λq b h _=>by
  obtain⟨row,h0⟩:=c7.found h;have MV:(E q).isSome=true:=by show(EA ci.ks 0 as' q).isSome=true;rw[h0];rfl
  simp only[ρc,MV,if_true,hφbox q b h]
 have T0:∀q b,uB ci.ks 0 bs q=some b→q<128 *ci.ks.length:=λq b h=>by have:=zc2 _ _ _ _ _ h;omega
 have L4:rB w outc ownc ρc E w:=by
  refine c1.sub φ (Wx.refl _) (λ_ _ _=>rfl) CX (λq row hq=>?_) (λq q' row row' h1 h2 h3=>?_)
  ·obtain⟨h1,h2,h3⟩:=c7.row hq;obtain⟨row',ri,f1,f2,f3,f4,f5⟩:=hE q row hq;refine⟨row',ri,f1,f4,f5,?_,λhn=>⟨λho=>(CX _ ho).2 ⟨q,row,ri,hq,f4,hn,rfl⟩,λ_=> .inr ⟨q,row,ri,hq,f4,hn,rfl⟩⟩⟩;obtain⟨ri2,k1,k2,_⟩:=c1.rows _ _ f1;rw[f5]at k1;cases k1
   rcases h3 with⟨b,ow,k',cs,ri',e1,e2,e3,e4,e5,e6,e7,e8,e9,e10,e11,e12⟩ | ⟨t,l,e1,e2,e3⟩
   ·rw[hφbox q b e1,e6]at f1;cases f1;subst e5;refine⟨k2.1,λj hj=>?_⟩;rw[FF]at hj;obtain⟨g1,x,g2,g3⟩:=k2.2 j (by rw[FF];exact hj);refine⟨g1,x,g2,?_⟩
    have:=cV (w:=w) (ρ:=ρ') (ρ2:=ρc) (bad:=uA outer ρ' g') (bad2:=uA outc ρc E) ow (N+128 *k') (128 *k') cs 0 (λj=>(w.cell? (at_ ri.b j)).getD undef) (λq' _ h4 h5 h6=>by
      obtain⟨t,l,h6⟩:=h6;have h0:=e12 q' t l (by simpa using h6) h5;have MV:(E (128 *k'+q')).isSome=true:=by show(EA ci.ks 0 as' (128 *k'+q')).isSome=true;rw[h0];rfl
      simp only[ρc,MV,if_true];rw[hφarr _ (by omega)];congr 1;omega) e10 S0 (λj hj=>by
      obtain⟨_,x,g2,g3⟩:=k2.2 j hj;rw[g2];exact g3) j (by rw[FF];exact hj)
    rw[g2]at this;exact this
   ·subst e1;rw[hφarr q e3,e2]at f1;cases f1;exact zbm k2 S0 ρc
  ·obtain⟨_,_,h4⟩:=c7.row h1;obtain⟨_,_,h5⟩:=c7.row h2
   rcases h4 with⟨b,_,_,_,_,e1,_⟩ | ⟨_,_,_,_,e3⟩<;>rcases h5 with⟨b',_,_,_,_,e1',_⟩ | ⟨_,_,_,_,e3'⟩
   ·rw[hφbox q b e1,hφbox q' b' e1']at h3;subst h3;exact sV _ _ _ _ _ _ c9 e1 e1'
   ·rw[hφbox q b e1,hφarr q' e3']at h3;have:=hbN b (IF _ _ _ _ _ e1).2.2;omega
   ·rw[hφbox q' b' e1',hφarr q e3]at h3;have:=hbN b' (IF _ _ _ _ _ e1').2.2;omega
   ·rw[hφarr q e3,hφarr q' e3']at h3;omega
 obtain⟨z2,hv2⟩:=c7.vals S0 (λq b h=>hρcbox q b h (T0 q b h)) λq row h h3=>by
  have MV:(E q).isSome=true:=by show(EA ci.ks 0 as' q).isSome=true;rw[h];rfl
  simp only[ρc,MV,if_true,hφarr q h3]
 have BY:∀q,ρ q≠none→Out i 128 q:=λq hq h3=>hq (by
  have:=JW (q - i) (by omega);rwa [show i+(q - i)=q by omega]at this)
 have hsthρ:∀q row,st.h q=some row→ρ q≠none:=λq row hq=>by
  obtain⟨ri,h3,_⟩:=hr.heap.rows _ _ hq;rw[h3];simp
 have hbsρ:∀b∈bs,ρ b≠none:=λb hb=>by
  cases hq:st.h b with
  | none=>exact absurd hq (c8 b hb).2
  | some row=>exact hsthρ b row hq
 have G:=V8 w args as' outc ownc ρc x r i bs (by rw[YV,BG]) z2 L4 hv2 (λq hq=>by simp only[ρc];rw[if_neg];show ¬(EA ci.ks 0 as' q).isSome=true;rw[hq];simp) c9 (λb hb=>BY b (hbsρ b hb)) EZ hF wW
  ⟨C.g.stay w0 w (λc hc=>hr.heap.old c (Nat.lt_of_lt_of_le hc (C.g.lt _ hr.glob.p)) (hr.glob.own c hc)) hr.glob.p,λc hc ho=>by
   have:=Nat.lt_of_lt_of_le hc (C.g.lt _ hr.glob.p)
   rcases(QX c ho).2 with h | h
   ·omega
   ·exact hr.glob.own c hc h,Nat.le_trans hr.glob.base hr.heap.wx.size,λc hc ho=>by
   have:=Nat.lt_of_lt_of_le hc hr.glob.base
   rcases(QX c ho).2 with h | h
   ·omega
   ·exact hr.glob.low c hc h⟩
 -- a call that leaves all as it is
 cases FZ:VM ci (ci.eR r)
 case true=>
  simp only[tL,FZ,cond_true]at hk;simp only[VM,Bool.and_eq_true,Bool.not_eq_true']at FZ;obtain⟨⟨I3,CZ⟩,hsc⟩:=FZ;have hE0:E=λ_=>none:=zjL _ _ _ CZ
  have WW:∀b,¬ownc b:=by
   rintro b ⟨q,row,ri,h1,_⟩;rw[hE0]at h1;cases h1
  obtain⟨s1,s2⟩:=zgE ci.own i (ci.eR r) 0 hsc
  have DX:Sc (vJ ci i (ci.eR r)):=by
   unfold vJ;rw[I3,cond_false];exact zwj _ _ s1
  have hXt:sE ci as' bs i (ci.eR r)=bB ci.own i (λ_=>none) 0 (ci.eR r):=by
   unfold sE pF;rw[I3,cond_false,ziS _ _ _ _ _ CZ]
  have fin0:∀v w1,(∃ρx,rB w outc ownc ρx (sE ci as' bs i (ci.eR r)) w1∧
    VR w1 ρx (uA outc ρx (sE ci as' bs i (ci.eR r))) v (vJ ci i (ci.eR r))∧
    (∀q b,uB ci.ks 0 bs q=some b→ρx b=ρc q)∧(∀r,ρx r≠none→(i≤r∧r<i+128)∨r∈bs))→KC C w0 outer own i ρ st' (a.put o.dst v) w1:=by
   rintro v w1 ⟨ρx,hX,hV,_,M4⟩;have hg:=hr.grow hX.wx λb hb=>hX.old b hb (WW b)
   have K5:∀q,tH ci as' bs i (ci.eR r) st.h q=match sE ci as' bs i (ci.eR r) q with | some x=>some x | none=>st.h q:=λq=>by
    rw[KO]
    all_goals (cases sE ci as' bs i (ci.eR r) q<;>rfl)
   generalize X8:sE ci as' bs i (ci.eR r)=X at hX hV K5 hXt;generalize tH ci as' bs i (ci.eR r) st.h=pX at hk K5;let ρn:Nat→Option RI:=λq=>if i≤q∧q<i+128 then ρx q else ρ q
   have BY:∀q,ρ q≠none→¬(i≤q∧q<i+128):=λq hq h3=>hq (by
    have:=JW (q - i) (by omega);rwa [show i+(q - i)=q by omega]at this)
   have hXin:∀q row,X q=some row→i≤q∧q<i+128:=λq row hq=>by
    rw[hXt]at hq;obtain⟨_,_,_,e1,e2⟩:=ME _ _ _ _ _ _ hq;omega
   have hρo:∀q ri,ρ q=some ri→ρn q=some ri:=λq ri hq=>by
    simp only[ρn,BY q (by rw[hq];simp),if_false];exact hq
   have hρX:∀q row ri,X q=some row→ρx q=some ri→ρn q=some ri:=λq row ri hq h3=>by
    simp only[ρn,hXin q row hq,and_self,if_true];exact h3
   have SW:∀q row,X q=some row→∃ri t l,row=⟨.arr t l, .own⟩∧t.flat=true∧ρx q=some ri∧jE w1 ρx (uA outc ρx X) ri (.arr t l)∧(ri.nl=false→w.heap.size≤ri.b∧ri.b<w1.heap.size):=λq row hq=>by
    obtain⟨ri,k1,k2,k3⟩:=hX.rows q row hq;have kY:=hq;rw[hXt]at kY;obtain⟨t,l,e0,_,_⟩:=ME _ _ _ _ _ _ kY;subst e0;refine⟨ri,t,l,rfl,s2 q t l kY,k1,k2,λhn=>⟨?_,(k3 hn).2⟩⟩
    rcases(k3 hn).1.2 rfl with h | h
    ·exact h
    ·exact absurd h (WW _)
   have EW:∀q row,pX q=some row→X q=some row∨(X q=none∧st.h q=some row):=λq row hq=>by
    rw[K5]at hq;cases hx:X q with
    | some y=>rw[hx]at hq;exact .inl hq
    | none=>rw[hx]at hq;exact .inr ⟨rfl,hq⟩
   have L3:∀q row ri,st.h q=some row→ρ q=some ri→ri.nl=false→ri.b<w.heap.size:=λq row ri hq h3 hn=>by
    obtain⟨ri',k1,_,k3⟩:=hr.heap.rows q row hq;rw[h3]at k1;cases k1;exact(k3 hn).2
   have hstρ:∀q row,st.h q=some row→∃ri,ρ q=some ri:=λq row hq=>by
    obtain⟨ri,k1,_⟩:=hr.heap.rows q row hq;exact⟨ri,k1⟩
   have RX:∀b,uA outer ρn pX b→uA outer ρ st.h b∨w.heap.size≤b:=by
    rintro b (hb | ⟨q,row,ri,f1,f2,f3,f4,f5⟩)
    ·exact .inl (.inl hb)
    ·rcases EW q row f1 with h3 | ⟨_,h3⟩
     ·obtain⟨ri',t,l,_,_,k1,_,k2⟩:=SW q row h3;rw[hρX q row ri' h3 k1]at f3;cases f3;exact .inr (by rw[←f5];exact(k2 f4).1)
     ·obtain⟨ri',k1⟩:=hstρ q row h3;rw[hρo q ri' k1]at f3;cases f3;exact .inl (.inr ⟨q,row,_,h3,f2,k1,f4,f5⟩)
   have keepAll:∀u d,VR w ρ (uA outer ρ st.h) u d→VR w1 ρn (uA outer ρn pX) u d:=λu d hu=>
    hu.mono hρo (λb _ MV=>hX.old b MV (WW b)) RX
   have U0:rB w0 outer own ρn pX w1:=by
    refine⟨hg.heap.wx,hg.heap.old,hg.heap.outLt,λq row hq=>?_,λq q' row row' qi qi' h1 h2 h3 h4 h5 h6 h7=>?_⟩
    ·rcases EW q row hq with h3 | ⟨_,h3⟩
     ·obtain⟨ri,t,l,rfl,ht,k1,k2,k3⟩:=SW q row h3;refine⟨ri,hρX q _ ri h3 k1,⟨k2.1,?_⟩,λhn=>⟨⟨λho=>?_,λ_=> .inl (Nat.le_trans hr.heap.wx.size (k3 hn).1)⟩,(k3 hn).2⟩⟩
      ·rcases k2.2 with h4 | ⟨e1,ee,e2,e3,e4,e5⟩
       ·exact .inl h4
       ·refine .inr ⟨e1,ee,e2,e3,e4,λa ha j hj=>?_⟩;obtain⟨u,f1,f2⟩:=e5 a ha j hj;exact⟨u,f1,f2.noRef (λS=>OM S t _ j) ρn |>.sc (zw0 ht _ j) λ_ _ h=>h⟩
      ·have:=(hr.heap.outLt _ ho).1;have:=hr.heap.wx.size;have:=(k3 hn).1;omega
     ·obtain⟨ri,k1,k2,k3⟩:=hr.heap.rows q row h3;exact⟨ri,hρo q ri k1,k2.keep (λhn=>hX.old _ (k3 hn).2 (WW _)) keepAll,λhn=>⟨(k3 hn).1,Nat.lt_of_lt_of_le (k3 hn).2 hX.wx.size⟩⟩
    ·rcases EW q row h1 with k1 | ⟨_,k1⟩<;>rcases EW q' row' h2 with k2 | ⟨_,k2⟩
     ·obtain⟨r1,_,_,_,_,e1,_⟩:=SW q row k1;obtain⟨r2,_,_,_,_,e2,_⟩:=SW q' row' k2;rw[hρX q row r1 k1 e1]at h3;cases h3;rw[hρX q' row' r2 k2 e2]at h4;cases h4;exact hX.inj q q' row row' _ _ k1 k2 e1 e2 h5 h6 h7
     ·obtain⟨r1,_,_,_,_,e1,_,e2⟩:=SW q row k1;obtain⟨r2,e3⟩:=hstρ q' row' k2;rw[hρX q row r1 k1 e1]at h3;cases h3;rw[hρo q' r2 e3]at h4;cases h4;have h8:=(e2 h5).1;have h9:=L3 q' row' _ k2 e3 h6;omega
     ·obtain⟨r1,_,_,_,_,e1,_,e2⟩:=SW q' row' k2;obtain⟨r2,e3⟩:=hstρ q row k1;rw[hρX q' row' r1 k2 e1]at h4;cases h4;rw[hρo q r2 e3]at h3;cases h3;have h8:=(e2 h6).1;have h9:=L3 q row _ k1 e3 h5;omega
     ·obtain⟨r1,e1⟩:=hstρ q row k1;obtain⟨r2,e2⟩:=hstρ q' row' k2;rw[hρo q r1 e1]at h3;cases h3;rw[hρo q' r2 e2]at h4;cases h4;exact hr.heap.inj q q' row row' _ _ k1 k2 e1 e2 h5 h6 h7
   have NV:ZA C w0 outer own ρn {st with h:=pX} a w1:=hr.turn U0 keepAll;refine⟨ρn,(NV.put (hV.sc DX λq ri hq=>?_) hk).1,λq hq=>?_,hρo⟩
   ·have:i≤q∧q<i+128:=by
     rcases M4 q (by rw[hq];simp)with h | h
     ·exact h
     ·exact absurd h (by
       have:bs=[]:=by
        cases bs with
        | nil=>rfl
        | cons b bs'=>
         obtain⟨q',kY⟩:=c7.surj b (by simp);obtain⟨row,HV⟩:=c7.found kY;have:EA ci.ks 0 as'=λ_=>none:=hE0;rw[this]at HV;cases HV
       rw[this];simp)
    simp only[ρn,this,and_self,if_true];exact hq
   ·simp only[ρn,hq,if_false]
  intro next Q hn;unfold Oper.wp;rw[aW]
  rcases G with⟨G1,G2⟩ | ⟨v,w1,G1,G2⟩
  ·rw[G1,Oper.upon_enter];refine Calls.mono' G2 ?_;rintro e w1 ⟨v,rfl,h3⟩;exact hn _ _ (fin0 v w1 h3)
  ·rw[G1,Oper.upon_value];exact hn _ _ (fin0 v w1 G2)
 simp only[tL,FZ,cond_false]at hk
 -- rows that stay the caller's own
 have L5:∀hb,(bif ci.pb then h' else match UE ci.own 0 (ci.eR r)with | some m=>AL m st.h h' | none=>h')=hb→
   ∀q row,hb q=some row→h' q=some row∨(∃t l m c,ci.pb=false∧UE ci.own 0 (ci.eR r)=some m∧m≤t.rank∧row=⟨.arr t l, .own⟩∧st.h q=some row∧h' q=some ⟨c, .ro⟩):=by
  rintro hb rfl q row hq;cases hp:ci.pb
  ·rw[hp,cond_false]at hq;cases hm:UE ci.own 0 (ci.eR r)with
   | none=>rw[hm]at hq;exact .inl hq
   | some m=>
    rw[hm]at hq;have hq:AL m st.h h' q=some row:=hq;unfold AL at hq;split at hq
    ·rename_i t l c h3 h4;cases N4:Nat.ble m t.rank
     ·rw[N4,cond_false]at hq;exact .inl (by rw[h4];exact hq)
     ·rw[N4,cond_true]at hq;cases hq;exact .inr ⟨t,l,m,c,rfl,rfl,Nat.le_of_ble_eq_true N4,rfl,h3,h4⟩
    ·exact .inl hq
  ·rw[hp,cond_true]at hq;exact .inl hq
 generalize hbe:(bif ci.pb then h' else match UE ci.own 0 (ci.eR r)with | some m=>AL m st.h h' | none=>h')=hb at hk
 replace L5:=L5 hb hbe
 clear hbe
 -- behind the call
 have cC:∀v w1,(∃ρx,rB w outc ownc ρx (sE ci as' bs i (ci.eR r)) w1∧
   VR w1 ρx (uA outc ρx (sE ci as' bs i (ci.eR r))) v (vJ ci i (ci.eR r))∧
   (∀q b,uB ci.ks 0 bs q=some b→ρx b=ρc q)∧(∀r,ρx r≠none→(i≤r∧r<i+128)∨r∈bs))→KC C w0 outer own i ρ st' (a.put o.dst v) w1:=by
  rintro v w1 ⟨ρx,hX,hV,qX,M4⟩;generalize X8:sE ci as' bs i (ci.eR r)=X at hX hV
  have hrk:∀m,ci.pb=false→UE ci.own 0 (ci.eR r)=some m→(∀q row,X q=some row→zes m row.c)∧Rk m (vJ ci i (ci.eR r)):=λm hp hm=>by
   have:=zwM (as:=as') (bs:=bs) (base:=i) hm hp;rw[X8]at this;exact this
  have K5:∀q,tH ci as' bs i (ci.eR r) hb q=match X q with | some x=>some x | none=>hb q:=λq=>by
   rw[KO,X8]
   all_goals (cases X q<;>rfl)
  generalize OY:tH ci as' bs i (ci.eR r) hb=pX at hk K5;let ρn:Nat→Option RI:=λq=>if i≤q∧q<i+128 then ρx q else ρ q
  have hρbs:∀b∈bs,ρx b=ρ b:=λb hb=>by
   obtain⟨q,hq⟩:=c7.surj b hb;rw[qX q b hq,hρcbox q b hq (T0 q b hq),jG b (hbN b hb)]
  have hρx:∀q,ρx q≠none→ρn q=ρx q:=λq hq=>by
   by_cases IW:i≤q∧q<i+128
   ·simp only[ρn,IW,and_self,if_true]
   ·simp only[ρn,IW,if_false]
    rcases M4 q hq with h3 | h3
    ·exact absurd h3 IW
    ·exact(hρbs q h3).symm
  have hρo:∀q,ρ q≠none→ρn q=ρ q:=λq hq=>by
   have:¬(i≤q∧q<i+128):=BY q hq;simp only[ρn,this,if_false]
  have hρ':∀q ri,ρ q≠none→ρ' q=some ri→ρ q=some ri:=λq ri hq h3=>by
   cases h4:ρ q with
   | none=>exact absurd h4 hq
   | some ri'=>have:=c5 _ _ h4;rw[h3]at this;rw[this]
  have EW:∀q row,pX q=some row→X q=some row∨(X q=none∧hb q=some row):=λq row hq=>by
   rw[K5]at hq;cases hx:X q with
   | some y=>rw[hx]at hq;exact .inl hq
   | none=>rw[hx]at hq;exact .inr ⟨rfl,hq⟩
  have hh'ρ:∀q row,h' q=some row→ρ q≠none:=λq row hq=>by
   obtain⟨row',h3,_⟩:=bW q row hq;exact hsthρ q row' h3
  have hbρ:∀q row,hb q=some row→ρ q≠none:=λq row hq=>by
   rcases L5 q row hq with h3 | ⟨_,_,_,_,_,_,_,_,_,h3⟩
   ·exact hh'ρ q row h3
   ·exact hh'ρ q _ h3
  have hXρ:∀q row,X q=some row→ρn q=ρx q:=λq row hq=>by
   obtain⟨ri,h3,_⟩:=hX.rows q row hq;exact hρx q (by rw[h3];simp)
  -- the PC of rows that stay the caller's own
  let Rest:Nat→Prop:=λb=>∃q t l m c ri,ci.pb=false∧UE ci.own 0 (ci.eR r)=some m∧m≤t.rank∧st.h q=some ⟨.arr t l, .own⟩∧h' q=some ⟨c, .ro⟩∧ρ q=some ri∧ri.nl=false∧ri.b=b
  have RX:∀b,uA outer ρn pX b→uA outc ρx X b∨Rest b:=by
   rintro b (KX | ⟨q,row,ri,f1,f2,f3,f4,f5⟩)
   ·exact .inl (.inl (.inl KX))
   ·rcases EW q row f1 with h3 | ⟨_,h3⟩
    ·rw[hXρ q row h3]at f3;exact .inl (.inr ⟨q,row,ri,h3,f2,f3,f4,f5⟩)
    ·rw[hρo q (hbρ q row h3)]at f3
     rcases L5 q row h3 with h3 | ⟨t,l,m,c,e1,e2,e3,rfl,e5,e6⟩
     ·exact .inl (.inl (.inr ⟨q,row,ri,h3,f2,c5 _ _ f3,f4,f5⟩))
     ·exact .inr ⟨q,t,l,m,c,ri,e1,e2,e3,e5,e6,f3,f4,f5⟩
  have GZ:∀b,ownc b→uA outer ρ' g' b:=λb hb=>by
   obtain⟨q,row,ri,e1,e2,e3,e4,e5,e6⟩:=K4 b hb;exact .inr ⟨q,row,ri,e1,by rw[e2];rfl,e4,e5,e6⟩
  have HZ:∀b,uA outc ρx X b→uA outer ρ' g' b∨w.heap.size≤b:=by
   rintro b (hb | ⟨q,row,ri,f1,f2,f3,f4,f5⟩)
   ·exact .inl (hb.mono λq row h1 h2=>⟨row,c2 q row h1,h2⟩)
   ·obtain⟨ri',k1,_,k2⟩:=hX.rows q row f1;rw[f3]at k1;cases k1
    rcases(k2 f4).1.2 f2 with h3 | h3
    ·exact .inr (by omega)
    ·exact .inl (by rw[←f5];exact GZ _ h3)
  -- what the arguments' taking keeps clear of was kept clear of before
  have M3:∀b,qT w b→uA outer ρ' g' b→uA outer ρ st.h b:=by
   rintro b ⟨o,u,hu⟩ KX;refine Classical.byContradiction λhn=>?_
   have h1:VR w ρ (uA outer ρ st.h) (.pointer (some (at_ b (o+0)))) (.fp [.undef] 0):=
    .fp [.undef] 0 b o (fun _ => u) (by simp) hn (fun j hj => by have : j = 0 := by simpa using hj
                                                                 subst this;exact hu) λj hj=>by
     have:j=0:=by simpa using hj
     subst this;exact .undef _
   have h2:=c6 _ _ h1;generalize hp:Value.pointer (some (at_ b (o+0)))=pv at h2;cases h2 with
   | fp _ _ b2 o2 u2 _ E2 hu2 _=>
    have:b=b2:=by injection hp with hp;injection hp with hp;exact congrArg Addr.block hp
    subst this;exact E2 KX
  have N3:∀b,Rest b→uA outer ρ st.h b∧b<w.heap.size∧¬ownc b∧jA.base≤b∧∃t m,OF w b t∧ci.pb=false∧UE ci.own 0 (ci.eR r)=some m∧m≤t.rank:=by
   rintro b ⟨q,t,l,m,c,ri,e1,e2,e3,e4,e5,e6,e7,e8⟩;obtain⟨ri2,k1,k2,k3⟩:=hr.heap.rows q _ e4;rw[e6]at k1;cases k1;obtain⟨ri3,n1,n2⟩:=VV q _ e5;have:=c5 _ _ e6;rw[n1]at this;cases this;subst e8;refine⟨.inr ⟨q,_,ri,e4,rfl,e6,e7,rfl⟩,(k3 e7).2,(n2 e7).1,?_,t,m,?_,e1,e2,e3⟩
   ·rcases(k3 e7).1.2 rfl with h | h
    ·exact Nat.le_trans hr.glob.base h
    ·exact Nat.le_of_not_lt λh'=>hr.glob.low _ h' h
   ·rcases k2.2 with h | ⟨_,he,_⟩
    ·rw[e7]at h;cases h.1
    ·exact he
  have keepAll:∀u d,VR w ρ (uA outer ρ st.h) u d→VR w1 ρn (uA outer ρn pX) u d:=λu d hu=>
   hu.keep2 hu.refs (λq ri hq h3=>by rw[hρo q hq];exact h3)
    (fun b hb hc=>by
     obtain⟨_,_,IZ⟩:=hc;exact hX.old b (DV IZ) λho=>hb (M3 b ⟨_,_,IZ⟩ (GZ b ho)))
    λb hc KX=>by
     obtain⟨_,_,IZ⟩:=id hc;have:=DV IZ
     rcases RX b KX with h | h
     ·rcases HZ b h with h | h
      ·exact M3 b hc h
      ·omega
     ·exact(N3 b h).1
  have keepX:∀u d,(∀m,ci.pb=false→UE ci.own 0 (ci.eR r)=some m→Rk m d)→VR w1 ρx (uA outc ρx X) u d→VR w1 ρn (uA outer ρn pX) u d:=λu d hk hu=>by
   have h0:VR w1 ρx (uA outer ρn pX) u d:=by
    by_cases hm:∃m,ci.pb=false∧UE ci.own 0 (ci.eR r)=some m
    ·obtain⟨m,hp,hm⟩:=hm;refine hu.widen (hk m hp hm) λb KX=>?_
     rcases RX b KX with h | h
     ·exact .inl h
     ·obtain⟨_,h1,h2,h3,t,m',h4,_,h5,h6⟩:=N3 b h;rw[hm]at h5;cases h5;exact .inr ⟨h3,t,h4.same (hX.old b h1 h2),h6⟩
    ·refine hu.mono (λ_ _ h=>h) (λ_ _ _=>rfl) λb KX=>?_
     rcases RX b KX with h | ⟨_,_,_,m,_,_,h1,h2,_⟩
     ·exact .inl h
     ·exact absurd ⟨m,h1,h2⟩ hm
   exact h0.keep h0.refs (λq ri hq h3=>by rw[hρx q hq];exact h3) (λ_ _ _=>rfl) λb hb=> .inl hb
  have keepRow:∀q row ri,X q=some row→jE w1 ρx (uA outc ρx X) ri row.c→jE w1 ρn (uA outer ρn pX) ri row.c:=λq row ri hq WV=>by
   by_cases hm:∃m,ci.pb=false∧UE ci.own 0 (ci.eR r)=some m
   ·obtain⟨m,hp,hm⟩:=hm;exact WV.keepR ((hrk m hp hm).1 q row hq) (λ_=>rfl) λu d hd hu=>keepX u d (λm' _ hm'=>by rw[hm]at hm';cases hm';exact hd) hu
   ·exact WV.keep (λ_=>rfl) λu d hu=>keepX u d (λm hp h=>absurd ⟨m,hp,h⟩ hm) hu
  have SW:∀q row,X q=some row→∃ri,ρn q=some ri∧ρx q=some ri∧jE w1 ρx (uA outc ρx X) ri row.c∧(ri.nl=false→(w.heap.size≤ri.b∨ownc ri.b)∧ri.b<w1.heap.size):=λq row hq=>by
   obtain⟨ri,k1,k2,k3⟩:=hX.rows q row hq;exact⟨ri,by rw[hXρ q row hq];exact k1,k1,k2,λhn=>⟨(k3 hn).1.2 (by rw[zgN wW (by rw[←X8]at hq;exact hq)];rfl),(k3 hn).2⟩⟩
  have PY:∀q row,hb q=some row→∃ri,ρn q=some ri∧ρ q=some ri∧ρ' q=some ri∧jE w ρ (uA outer ρ st.h) ri row.c∧(ri.nl=false→¬ownc ri.b∧ri.b<w.heap.size∧(¬outer ri.b∧(row.m.isRo=false→w0.heap.size≤ri.b∨own ri.b))):=λq row hq=>by
   rcases L5 q row hq with hq | ⟨t,l,m,c,e1,e2,e3,rfl,e5,e6⟩
   ·obtain⟨row',h3,h4,_⟩:=bW q row hq;obtain⟨ri,k1,k2,_⟩:=hr.heap.rows q row' h3;obtain⟨ri',k3,k4⟩:=VV q row hq;have:=c5 _ _ k1;rw[k3]at this;cases this;exact⟨ri,by rw[hρo q (hh'ρ q row hq)];exact k1,k1,k3,by rw[←h4];exact k2,k4⟩
   ·obtain⟨ri,k1,k2,k5⟩:=hr.heap.rows q _ e5;obtain⟨ri',k3,k4⟩:=VV q _ e6;have:=c5 _ _ k1;rw[k3]at this;cases this;exact⟨ri,by rw[hρo q (hh'ρ q _ e6)];exact k1,k1,k3,k2,λhn=>⟨(k4 hn).1,(k4 hn).2.1,(k5 hn).1⟩⟩
  have hbg:∀q row,hb q=some row→∃row',g' q=some row':=λq row hq=>by
   rcases L5 q row hq with hq | ⟨t,l,m,c,e1,e2,e3,rfl,e5,e6⟩
   ·exact⟨_,c2 q row hq⟩
   ·exact⟨_,c2 q _ e6⟩
  have U0:rB w0 outer own ρn pX w1:=by
   refine⟨hr.heap.wx.trans hX.wx,λb hb ho=>?_,hr.heap.outLt,λq row hq=>?_,λq q' row row' qi qi' h1 h2 h3 h4 h5 h6 h7=>?_⟩
   ·rw[←hr.heap.old b hb ho];refine hX.old b (Nat.lt_of_lt_of_le hb hr.heap.wx.size) λhoc=>?_
    rcases(QX b hoc).2 with h3 | h3
    ·omega
    ·exact ho h3
   ·rcases EW q row hq with h3 | ⟨_,h3⟩
    ·obtain⟨ri,k1,k2,k3,k4⟩:=SW q row h3;refine⟨ri,k1,keepRow q row ri h3 k3,λhn=>⟨?_,(k4 hn).2⟩⟩
     have hx:w0.heap.size≤ri.b∨own ri.b:=by
      rcases(k4 hn).1 with h4 | h4
      ·exact .inl (Nat.le_trans hr.heap.wx.size h4)
      ·exact(QX _ h4).2
     refine⟨λho=>?_,λ_=>hx⟩;obtain⟨g1,g2⟩:=hr.heap.outLt _ ho
     rcases hx with hx | hx
     ·omega
     ·exact g2 hx
    ·obtain⟨ri,k1,k2,k3,k4,k5⟩:=PY q row h3;refine⟨ri,k1,k4.keep (λhn=>hX.old _ (k5 hn).2.1 (k5 hn).1) keepAll,λhn=>⟨(k5 hn).2.2,Nat.lt_of_lt_of_le (k5 hn).2.1 hX.wx.size⟩⟩
   ·rcases EW q row h1 with k1 | ⟨_,k1⟩<;>rcases EW q' row' h2 with k2 | ⟨_,k2⟩
    ·obtain⟨r1,e1,e2,_⟩:=SW q row k1;obtain⟨r2,e3,e4,_⟩:=SW q' row' k2;rw[h3]at e1;cases e1;rw[h4]at e3;cases e3;exact hX.inj q q' row row' qi qi' k1 k2 e2 e4 h5 h6 h7
    ·obtain⟨r1,e1,e2,_,e5⟩:=SW q row k1;obtain⟨r2,e3,e4,e6,_,e7⟩:=PY q' row' k2;rw[h3]at e1;cases e1;rw[h4]at e3;cases e3
     rcases(e5 h5).1 with h8 | h8
     ·have:=(e7 h6).2.1;omega
     ·rw[h7]at h8;exact absurd h8 (e7 h6).1
    ·obtain⟨r1,e1,e2,_,e5⟩:=SW q' row' k2;obtain⟨r2,e3,e4,e6,_,e7⟩:=PY q row k1;rw[h4]at e1;cases e1;rw[h3]at e3;cases e3
     rcases(e5 h6).1 with h8 | h8
     ·have:=(e7 h5).2.1;omega
     ·rw[←h7]at h8;exact absurd h8 (e7 h5).1
    ·obtain⟨r1,e1,e2,e2',_⟩:=PY q row k1;obtain⟨r2,e3,e4,e4',_⟩:=PY q' row' k2;rw[h3]at e1;cases e1;rw[h4]at e3;cases e3;obtain⟨y1,y2⟩:=hbg q row k1;obtain⟨y3,y4⟩:=hbg q' row' k2;exact c1.inj q q' y1 y3 qi qi' y2 y4 e2' e4' h5 h6 h7
  have NV:ZA C w0 outer own ρn {st with h:=pX} a w1:=hr.turn U0 keepAll;refine⟨ρn,(NV.put (keepX _ _ (λm hp hm=>(hrk m hp hm).2) hV) hk).1,λq hq=>?_,λq ri hq=>?_⟩
  ·simp only[ρn,hq,if_false]
  ·rw[hρo q (by rw[hq];simp)];exact hq
 intro next Q hn;unfold Oper.wp;rw[aW]
 rcases G with⟨G1,G2⟩ | ⟨v,w1,G1,G2⟩
 ·rw[G1,Oper.upon_enter];refine Calls.mono' G2 ?_;rintro e w1 ⟨v,rfl,h3⟩;exact hn _ _ (cC v w1 h3)
 ·rw[G1,Oper.upon_value];exact hn _ _ (cC v w1 G2)
omit hr in
omit [jA]in
def zwf{ci:aB}{as:List V}{bs:List Nat}{i:Nat}{rs:List V}{h h':Nat→Option vA}(hl:QF h h'):QF (tH ci as bs i rs h) (tH ci as bs i rs h'):=λr row hr=>by
 rw[KO]at hr⊢;split at hr
 ·rename_i x hx;cases hr;exact⟨_,rfl,rfl,id⟩
 ·exact hl r row hr
omit hr in
omit [jA]in
def zxg{dst:Option Nat}{st st':St}{v:V}{h:Nat→Option vA}(hk:VA C dst st v some=some st'):VA C dst {st with h:=h} v some=some {st' with h:=h}:=by
 cases dst with
 | none=>simp only[VA,Option.some.injEq]at hk⊢;subst hk;rfl
 | some d=>
  simp only[VA]at hk⊢;cases hb:Nat.blt d C.nt
  ·simp[hb]at hk
  ·simp only[hb,dD,Option.some.injEq]at hk⊢;subst hk;rfl
omit hr in
omit [jA]in
def ztB{dst:Option Nat}{st st':St}{v:V}(hk:VA C dst st v some=some st'):st'.h=st.h:=by
 cases dst with
 | none=>simp only[VA,Option.some.injEq]at hk;subst hk;rfl
 | some d=>
  simp only[VA]at hk;cases hb:Nat.blt d C.nt
  ·simp[hb]at hk
  ·simp only[hb,dD,Option.some.injEq]at hk;subst hk;rfl
def zuB(hΦ:fG C)(nY:∃N,∀r,N≤r→ρ r=none)(JW:∀q,q<128→ρ (i+q)=none)(f:Nat)(args:Array Value)(as:List V)(YV:args.size=as.length)
  (DW:∀j (hj:j<as.length),VR w ρ (uA outer ρ st.h) (args.getD j undef) as[j]) (aW:(execOp a.eval o).run C.P w=(callFunc f args).run C.P w)
  (hk:sK C i o.dst st f as some=some st'):QC C.P o a w (KC C w0 outer own i ρ st'):=by
 unfold sK at hk;split at hk
 ·cases hk
 rename_i ci O4
 have V8:yB C.P f ci C.g:=by
  cases MV:Nat.blt f 1048576
  ·simp[MV]at O4
  ·simp only[MV,cond_true]at O4;have:=hΦ.ok _ _ O4;rwa [ztt f as (by simpa using MV)]at this
 split at hk
 ·split at hk
  ·cases hk
  rename_i as' h' bs VZ;obtain⟨x,EZ,hk⟩:=Option.bind_eq_some_iff.1 ((eT _ _).symm.trans hk);obtain⟨r,hF,hk⟩:=Option.bind_eq_some_iff.1 hk;cases wW:(Nat.ble (ci.eR r).length 128&&VM ci (ci.eR r))
  case false=>simp[wW]at hk
  simp only[wW,dD]at hk;simp only[Bool.and_eq_true]at wW;have eW:ZA C w0 outer own ρ {st with h:=RO st.h} a w:=hr.less (zkP _)
  have D:=zlH (o:=o) eW nY JW f args as YV (λj hj=>(hr.heap.less (zkP st.h)).2 _ _ (DW j hj)) aW V8 VZ EZ hF (Nat.le_of_ble_eq_true wW.1)
   (st':= { st' with h:=tH ci as' bs i (ci.eR r) (RO st.h) }) (by
    rw[tL,wW.2,cond_true];exact zxg (st:={st with h:=tH ci as' bs i (ci.eR r) st.h}) hk)
  refine λnext Q hn=>D next Q λa' w' ⟨ρ',h1,h2,h3⟩=>hn a' w' ⟨ρ',?_,h2,h3⟩;have e:st'.h=tH ci as' bs i (ci.eR r) st.h:=ztB hk;have:=h1.less (h':=st'.h) (by rw[e];exact zwf (ztl _));exact this
 ·rename_i as' h' bs VZ;obtain⟨x,EZ,hk⟩:=Option.bind_eq_some_iff.1 ((eT _ _).symm.trans hk);obtain⟨r,hF,hk⟩:=Option.bind_eq_some_iff.1 hk;cases wW:Nat.ble (ci.eR r).length 128
  case false=>simp[wW]at hk
  simp only[wW,dD]at hk;exact zlH hr nY JW f args as YV DW aW V8 VZ EZ hF (Nat.le_of_ble_eq_true wW) hk
end
end Go.D
namespace Go.D
variable [jA]
section
variable {C:Cx} {w0:World} {outer own:Nat→Prop} {ρ:Nat→Option RI} {st st':St} {a:Act} {w:World} {h:Nat→Option vA}
variable {o:Oper} {i:Nat} (hr:ZA C w0 outer own ρ st a w)
include hr
def zwi(hΦ:fG C)(nY:∃N,∀r,N≤r→ρ r=none)(JW:∀q,q<128→ρ (i+q)=none)(x:Operand)(args:Array Operand)(argTypes:Array TypeId)
  (ho:o.op= .call {callee:= .value x,args,argTypes}) (hk:qB C i o st some=some st'):QC C.P o a w (KC C w0 outer own i ρ st'):=by
 simp only[qB,ho]at hk;split at hk
 case h_2=>cases hk
 rename_i f cs cW;have hx:=hr.opd x;rw[cW]at hx;generalize hv:a.eval x=v at hx;cases hx with
 | fn _ _ caps hs hvc=>
 refine zuB hr hΦ nY JW f (args.map a.eval++caps) _ (by simp[hs]) (λj hj=>?_) ?_ hk
 ·by_cases iX:j<args.size
  ·rw[List.getElem_append_left (by simpa using iX),Array.getD_eq_getD_getElem?,Array.getElem?_append_left (by simpa using iX)];simp only[Array.getElem?_map,Array.getElem?_eq_getElem iX,Option.map_some,Option.getD_some,List.getElem_map,Array.getElem_toList];exact hr.opd _
  ·have VW:j - args.size<cs.length:=by simp at hj;omega
   rw[List.getElem_append_right (by simp;omega),Array.getD_eq_getD_getElem?,Array.getElem?_append_right (by simp;omega)];have:=hvc (j - args.size) VW;rw[Array.getD_eq_getD_getElem?]at this;simpa using this
 ·simp[execOp,ho,resolve,Deferred.ofValue,hv,invoke]
def zuh(c x y:Operand)(ho:o.op= .pick c x y)(t:Bool)(hc:opd st.s c= .bool t)(hk:VA C o.dst st (cond t (opd st.s x) (opd st.s y)) some=some st'):
  QC C.P o a w (KC C w0 outer own i ρ st'):=by
 have h1:=hr.opd c;rw[hc]at h1;generalize F9:a.eval c=vc at h1;cases h1;refine pC (v:=if t then a.eval x else a.eval y) (w':=w) ?_ (hr.after ?_ hk)
 ·cases t<;>simp[execOp,ho,F9,asBool]
 ·cases t
  ·exact hr.opd y
  ·exact hr.opd x
def zmh(hC:VF C)(hΦ:fG C)(nY:∃N,∀r,N≤r→ρ r=none)(JW:∀q,q<128→ρ (i+q)=none)(hk:qB C i o st some=some st'):
  QC C.P o a w (KC C w0 outer own i ρ st'):=by
 have hi:ρ i=none:=JW 0 (by omega);have none_of:∀{p:Prop},qB C i o st some=none→p:=λh=>by rw[h]at hk;cases hk
 cases ho:o.op with
 | move x=>exact zlQ hr x (.inl ho) (by simpa only[qB,ho]using hk)
 | assign x=>exact zlQ hr x (.inr ho) (by simpa only[qB,ho]using hk)
 | pick c x y=>
  simp only[qB,ho]at hk;split at hk
  case h_2=>cases hk
  rename_i t hc;split at hk
  ·rename_i p q hx hy;exact zvK hr c x y ho t p q hc hx hy hk
  ·exact zuh hr c x y ho t hc hk
 | alloc e=>
  simp only[qB,ho]at hk;split at hk
  case h_2=>cases hk
  rename_i cs hz;exact zvm hr e ho hi cs hz hk
 | box e x=>
  simp only[qB,ho]at hk;cases hb:lH (cellsOf (opd st.s x))
  case false=>simp[hb]at hk
  simp only[hb,dD]at hk;exact zwP hr e x ho hi hb hk
 | build t parts=>exact zuw hr t parts ho hk
 | buildSlice t len parts=>exact zri hr hC t len parts ho hi hk
 | load t x=>exact zwu hr t x ho hk
 | store t x y=>exact zuP hr t x y ho hk
 | nilCheck x=>exact zsm hr x ho hk
 | binOp op t x y t'=>exact zvo hr op t t' x y ho hk
 | unOp op t x=>exact zwx hr op t x ho hk
 | convert s d x=>exact zs7 hr hC s d x ho hi hk
 | makeFunc fn first captured=>
  cases fn with
  | func f=>exact zr1 hr f first captured ho hk
  | _=>exact none_of (by simp only[qB,ho])
 | makeSlice t x y=>exact zry hr hC t x y ho hi hk
 | slice t x lo hi mx=>exact zus hr hC t x lo hi mx ho hk
 | fieldAddr t x f=>exact zrK hr t x f ho hk
 | field t x f=>exact zuD hr t x f ho hk
 | indexAddr t x y=>exact zrU hr hC t x y ho hk
 | index t x y=>exact zuL hr t x y ho hk
 | extract x ix=>exact zsV hr x ix ho hk
 | call c=>
  obtain⟨callee,args,argTypes⟩:=c;cases callee with
  | value x=>exact zwi hr hΦ nY JW x args argTypes ho hk
  | invoke r m=>exact none_of (by simp only[qB,ho])
  | builtin b=>
   cases b with
   | len=>exact zwO hr args argTypes ho hk
   | append=>exact zts hr hC args argTypes ho hi hk
   | min=>exact zxb hr args argTypes ho hk
   | max=>exact zxj hr args argTypes ho hk
   | _=>exact none_of (by simp only[qB,ho])
 | _=>exact none_of (by simp only[qB,ho])
end
end Go.D
namespace Go.D
variable [jA]
section
variable {C:Cx} {R:Type} {st:St} {K:St→Option R}
omit [jA]in
def MS(dst:Option Nat)(st:St)(v:V)(K:St→Option R):VA C dst st v K=(VA C dst st v some).bind K:=by
 cases dst with
 | none=>rfl
 | some d=>simp only[VA];cases Nat.blt d C.nt<;>rfl
omit [jA]in
def zva(dst:Option Nat)(st:St)(r:Nat)(c:xF)(v:V)(K:St→Option R):yF C dst st r c v K=(yF C dst st r c v some).bind K:=MS _ _ _ _
omit [jA]in
def zq7{K1:V→Option St}{K2:V→Option R}(h:∀v,K2 v=(K1 v).bind K)(ag:Bool)(n:Nat)(cs:List V)(off:Nat):pG ag n cs off K2=(pG ag n cs off K1).bind K:=by
 cases ag<;>simp only[pG,dD,TS]
 ·grind
 ·cases Nat.ble (off+n) cs.length
  ·rfl
  ·exact h _
omit [jA]in
def zu4{K1:V→Option St}{K2:V→Option R}(h:∀v,K2 v=(K1 v).bind K)(op:BinOp)(x y:V):eN op x y K2=(eN op x y K1).bind K:=by
 have hb:∀(b:Bool) (v:V),(bif b then none else K2 v)=(bif b then none else K1 v:Option St).bind K:=λb v=>by cases b;exact h v;rfl
 have KX:∀(b:Bool) (v:V),(bif b then K2 v else none)=(bif b then K1 v else none:Option St).bind K:=λb v=>by cases b;rfl;exact h v
 unfold eN
 grind
omit [jA]in
def zj8{f1:Nat→Option St}{f2:Nat→Option R}(h:∀k,f2 k=(f1 k).bind K)(i:Int):∀(n k:Nat),iJ f2 i k n=(iJ f1 i k n).bind K
 | 0,k=>rfl
 | n+1,k=>by
  simp only[iJ];cases i==(k:Int)
  ·exact zj8 h i n (k+1)
  ·exact h k
omit [jA]in
def zun{K1:V→Option St}{K2:V→Option R}(h:∀v,K2 v=(K1 v).bind K)(d:TypeDesc)(tk:TypeId→TN→Bool)(hp:Nat→Option vA)(x:V)(lo hi:Option V):
  TO d tk hp x lo hi K2=(TO d tk hp x lo hi K1).bind K:=by
 have KX:∀(b:Bool) (v:V),(bif b then K2 v else none)=(bif b then K1 v else none:Option St).bind K:=λb v=>by cases b;rfl;exact h v
 unfold TO;split
 ·rfl
 split
 case h_2=>rfl
 rename_i len _ _ _ a b _ _;cases decide (0≤a)&&decide (a≤b)&&decide (b≤(len:Int))
 ·rfl
 simp only[cond_true];split
 ·exact KX _ _
 ·exact h _
 ·split
  ·exact KX _ _
  ·rfl
 ·exact KX _ _
 ·rfl
omit [jA]in
def zgg{α:Type}(x:Option α){f1:α→Option St}{f2:α→Option R}(h:∀v,f2 v=(f1 v).bind K):Option.bind x f2=(Option.bind x f1).bind K:=by
 cases x with
 | none=>rfl
 | some v=>exact h v
omit [jA]in
def zvr(b:Bool){x1:Option St}{x2:Option R}(h:x2=x1.bind K):(bif b then x2 else none)=(bif b then x1 else none:Option St).bind K:=by
 grind
omit [jA]in
def zt8(b:Bool){x1:Option St}{x2:Option R}(h:x2=x1.bind K):(bif b then none else x2)=(bif b then none else x1:Option St).bind K:=by
 grind
omit [jA]in
def zhf(b:Bool){x1:Option St}{x2:Option R}(h:x2=x1.bind K):gd b x2 none=(gd b x1 none:Option St).bind K:=by
 cases b
 ·rfl
 ·exact h
omit [jA]in
def zvI(b:Bool){x1:Option St}{x2:Option R}(h:x2=x1.bind K):gd b none x2=(gd b none x1:Option St).bind K:=by
 cases b
 ·exact h
 ·rfl
omit [jA]in
def zg2{α:Type}(x:Option α){f1:α→Option St}{f2:α→Option R}(h:∀v,f2 v=(f1 v).bind K):yK x f2=(yK x f1).bind K:=by
 cases x with
 | none=>rfl
 | some v=>exact h v
omit [jA]in
def ztU(i:Nat)(dst:Option Nat)(f:Nat)(as:List V):sK C i dst st f as K=(sK C i dst st f as some).bind K:=by
 unfold sK;split
 ·rfl
 split
 ·split
  ·rfl
  exact zg2 _ λ_=>zgg _ λ_=>zhf _ (MS _ _ _ _)
 exact zg2 _ λ_=>zgg _ λ_=>zhf _ (MS _ _ _ _)
omit [jA]in
def vS(i:Nat)(o:Oper):qB C i o st K=(qB C i o st some).bind K:=by
 unfold qB
 repeat' first
  | rfl
  | exact MS _ _ _ _
  | exact zva _ _ _ _ _ _
  | exact ztU _ _ _ _
  | refine zq7 (λ_=>?_) _ _ _ _
  | refine zu4 (λ_=>?_) _ _ _
  | refine zj8 (λ_=>?_) _ _ _
  | refine zun (λ_=>?_) _ _ _ _ _ _
  | refine zvr _ ?_
  | refine zt8 _ ?_
  | refine zhf _ ?_
  | refine zvI _ ?_
  | refine zg2 _ (λ_=>?_)
  | refine zgg _ (λ_=>?_)
  | split
end
end Go.D
namespace Go.D
variable [jA]
def TD(π:Nat→Prop)(h h':Nat→Option vA):Prop:=∀r row,π r→h r=some row→row.m.isOwn=false→h' r=some row
omit [jA]in
def TD.refl(π:Nat→Prop)(h:Nat→Option vA):TD π h h:=λ_ _ _ h _=>h
omit [jA]in
def TD.trans{π:Nat→Prop}{a b c:Nat→Option vA}(h:TD π a b)(k:TD π b c):TD π a c:=λr row hn hr hm=>k r row hn (h r row hn hr hm) hm
omit [jA]in
def UK{π:Nat→Prop}{h h':Nat→Option vA}(k:TD π h h')(r:Nat)(x:Option vA)(hr:¬π r∨∃row,h r=some row∧row.m.isOwn=true):TD π h (AA h' r x):=λq row hn hq hm=>by
 rw[CA]
 ·exact k q row hn hq hm
 grind
omit [jA]in
def RN{π:Nat→Prop}{h:Nat→Option vA}(ids:List Nat)(hl:∀r∈ids,∀row,h r=some row→row.m.isLock=false):TD π h (BC h ids):=λq row hn hq hm=>by
 rw[EF]
 by_cases hi:q∈ids
 ·have:=hl q hi row hq;obtain⟨c,m⟩:=row;cases m
  ·cases hm
  ·simp[hi,hq]
  ·cases this
 ·simp[hi,hq]
def kJ(h:Nat→Option vA)(ids:List Nat):Prop:=∀r∈ids,∀row,h r=some row→row.m.isLock=false
omit [jA]in
def dV(h:Nat→Option vA):kJ h []:=λr hr=>by simp at hr
omit [jA]in
def zkh{h:Nat→Option vA}{i j:List Nat}(a:kJ h i)(b:kJ h j):kJ h (i++j):=λr hr=>by
 rcases List.mem_append.1 hr with hr | hr
 ·exact a r hr
 ·exact b r hr
omit [jA]in
def zfG{h:Nat→Option vA}{r:Nat}{j:List Nat}(a:∀row,h r=some row→row.m.isLock=false)(b:kJ h j):kJ h (r :: j):=λq hq=>by
 rcases List.mem_cons.1 hq with rfl | hq
 ·exact a
 ·exact b q hq
omit [jA]in
def ze8{h:Nat→Option vA}{v:V}{x:V×List Nat}(hf:IG h v=some x):kJ h x.2:=by
 unfold IG at hf;split at hf
 ·split at hf
  ·rename_i t l m hr;cases hm:m.isLock<;>simp[hm]at hf
   subst hf;exact zfG (λrow h1=>by rw[hr]at h1;cases h1;exact hm) (dV _)
  ·cases hf
 ·split at hf
  ·rename_i t' l m hr;cases hm:m.isLock
   ·simp only[hm,cond_false]at hf;split at hf
    ·simp at hf;subst hf;exact zfG (λrow h1=>by rw[hr]at h1;cases h1;exact hm) (dV _)
    ·cases hf
   ·simp[hm]at hf
  ·cases hf
 ·cases hb:uG 8 v<;>simp[hb]at hf
  subst hf;exact dV _
omit [jA]in
def YT{h:Nat→Option vA}:∀{vs:List V} {x:List V×List Nat},bG h vs=some x→kJ h x.2
 | [],x,hf=>by simp[bG]at hf;subst hf;exact dV _
 | v :: vs,x,hf=>by
  simp only[bG]at hf;split at hf
  ·cases hf
  rename_i h1;split at hf
  ·cases hf
  rename_i h2;cases hf;exact zkh (ze8 h1) (YT h2)
omit [jA]in
def zcq{h:Nat→Option vA}{v:V}{x:V×List Nat}(hf:uH h v=some x):kJ h x.2:=by
 unfold uH at hf;split at hf
 ·split at hf
  ·rename_i h1;cases hf;exact(YT h1:_)
  ·cases hf
 ·split at hf
  ·rename_i cs m hr;cases hb:(m.isLock||cs.isEmpty)
   case true=>simp[hb]at hf
   simp only[hb,cond_false]at hf;split at hf
   ·rename_i h1;cases hf;refine zfG (λrow h2=>?_) (YT h1)
    grind
   ·cases hf
  ·cases hf
 ·exact ze8 hf
omit [jA]in
def ze7{h:Nat→Option vA}:∀{vs:List V} {x:List V×List Nat},jL h vs=some x→kJ h x.2
 | [],x,hf=>by simp[jL]at hf;subst hf;exact dV _
 | v :: vs,x,hf=>by
  simp only[jL]at hf;split at hf
  ·cases hf
  rename_i h1;split at hf
  ·cases hf
  rename_i h2;cases hf;exact zkh (zcq h1) (ze7 h2)
omit [jA]in
def zkx{π:Nat→Prop}{h:Nat→Option vA}{t:TN}{v:V}{l:List (El t)}{r:Option Nat}(ht:VS h t v=some (l,r)):TD π h (PO h r):=by
 cases r with
 | none=>exact TD.refl _ _
 | some r=>
  refine UK (TD.refl _ _) r none (.inr ?_);unfold VS at ht;split at ht
  ·cases ht
  ·split at ht
   ·rename_i hr;split at ht
    ·cases ht;exact⟨_,hr,rfl⟩
    ·cases ht
   ·cases ht
  ·split at ht
   ·rename_i hr;split at ht
    ·cases ht;exact⟨_,hr,rfl⟩
    ·cases ht
   ·cases ht
  ·cases ht
omit [jA]in
def CK(π:Nat→Prop)(ow:List Nat):∀(cs:List V) (p:Nat) (h:Nat→Option vA) (x:List V×(Nat→Option vA)),bE ow p cs h=some x→TD π h x.2
 | [],p,h,x,ht=>by simp[bE]at ht;subst ht;exact TD.refl π h
 | c :: cs,p,h,x,ht=>by
  simp only[bE]at ht;cases hb:ow.any (Nat.beq p)
  ·simp only[hb,cond_false]at ht;split at ht
   case h_2=>cases ht
   rename_i hf;split at ht
   case h_2=>cases ht
   rename_i hr;cases ht;have k:=CK π ow cs (p+1) _ _ hr;exact(RN _ (ze8 hf)).trans k
  ·simp only[hb,cond_true]at ht;split at ht
   ·split at ht
    case h_2=>cases ht
    rename_i HV;split at ht
    case h_2=>cases ht
    rename_i hr;cases ht;have k:=CK π ow cs (p+1) _ _ hr;exact(UK (TD.refl π h) _ none (.inr ⟨_,HV,rfl⟩)).trans k
   ·split at ht
    case h_2=>cases ht
    rename_i hr;cases ht;have:=CK π ow cs _ _ _ hr;exact this
   ·split at ht
    case h_2=>cases ht
    rename_i HV;split at ht
    case h_2=>cases ht
    rename_i hr;cases ht;have k:=CK π ow cs (p+1) _ _ hr;exact(UK (TD.refl π h) _ none (.inr ⟨_,HV,rfl⟩)).trans k
   ·cases ht
omit [jA]in
def zaY(π:Nat→Prop):∀(ks:List sB) (as:List V) (h:Nat→Option vA) (x:List V×(Nat→Option vA)×List Nat),yC ks as h=some x→
  TD π h x.2.1∧∀b∈x.2.2,∃row,h b=some row∧row.m.isOwn=true
 | [],[],h,x,ht=>by simp[yC]at ht;subst ht;exact⟨TD.refl π h,λb hb=>by simp at hb⟩
 | [],_ :: _,h,x,ht=>by simp[yC]at ht
 | .plain :: ks,[],h,x,ht=>by simp[yC]at ht
 | .ptr _ :: ks,[],h,x,ht=>by simp[yC]at ht
 | .mv _ :: ks,[],h,x,ht=>by simp[yC]at ht
 | .mv ow :: ks,v :: vs,h,x,ht=>by
  obtain⟨cs,rfl⟩:=zfJ ht;simp only[yC]at ht;cases hb:Nat.ble cs.length 127
  case false=>simp[hb]at ht
  simp only[hb,cond_true]at ht;split at ht
  ·cases ht
  rename_i hl;split at ht
  ·cases ht
  rename_i hr;cases ht;obtain⟨k1,k2⟩:=zaY π ks vs _ _ hr;refine⟨(CK π _ _ _ _ _ hl).trans k1,λb hb=>?_⟩;obtain⟨row,h1,h2⟩:=k2 b hb;obtain⟨row2,h3,h4,h5⟩:=JL _ _ _ _ _ hl b row h1;refine⟨row2,h3,?_⟩;cases ho:row2.m.isOwn with
  | true=>rfl
  | false=>
   have:=CK (λ_=>True) _ _ _ _ _ hl b row2 trivial h3 ho
   grind
 | .plain :: ks,v :: vs,h,x,ht=>by
  simp only[yC]at ht;split at ht
  ·cases ht
  rename_i v' ids hf;split at ht
  ·cases ht
  rename_i hr;cases ht;obtain⟨k1,k2⟩:=zaY π ks vs _ _ hr;refine⟨(RN _ (zcq hf)).trans k1,λb hb=>?_⟩;obtain⟨row,h1,h2⟩:=k2 b hb;obtain⟨row',h3,h4,h5⟩:=RU h ids b row h1;rw[EF]at h1
  by_cases hm:b∈ids
  ·simp[hm,h3]at h1;subst h1;cases h2
  grind
 | .ptr ow :: ks,v :: vs,h,x,ht=>by
  obtain⟨r,rfl⟩:=zft ht;simp only[yC]at ht;split at ht
  case h_2=>cases ht
  rename_i cs HV;cases hb:Nat.ble cs.length 127
  case false=>simp[hb]at ht
  simp only[hb,cond_true]at ht;split at ht
  ·cases ht
  rename_i hl;split at ht
  ·cases ht
  rename_i hr;cases ht;obtain⟨k1,k2⟩:=zaY π ks vs _ _ hr;refine⟨(UK (TD.refl π h) _ none (.inr ⟨_,HV,rfl⟩)).trans ((CK π _ _ _ _ _ hl).trans k1),λb hb=>?_⟩
  rcases List.mem_cons.1 hb with rfl | hb
  ·exact⟨_,HV,rfl⟩
  ·obtain⟨row,h1,h2⟩:=k2 b hb;obtain⟨row2,h3,h4,h5⟩:=JL _ _ _ _ _ hl b row h1;have Z2:b≠r:=by rintro rfl;rw[QA]at h3;cases h3
   rw[CA _ _ _ _ Z2]at h3;refine⟨row2,h3,?_⟩;cases ho:row2.m.isOwn with
   | true=>rfl
   | false=>
    have:=CK (λ_=>True) _ _ _ _ _ hl b row2 trivial (by rw[CA _ _ _ _ Z2];exact h3) ho
    grind
def jD{α:Type}(p:α→Prop)(x:Option α):Prop:=∀y,x=some y→p y
structure YO(π:Nat→Prop)(dst:Option Nat)(st st':St):Prop where
 slots:∀s,dst≠some s→st'.s s=st.s s
 rows:TD π st.h st'.h
 nx:st'.nx=st.nx
section
variable {C:Cx} {st:St} {π:Nat→Prop} {dst:Option Nat}
omit [jA]in
def tF{α:Type}{p:α→Prop}:jD p none:=λ_ h=>by cases h
omit [jA]in
def NM{h':Nat→Option vA}(hk:TD π st.h h')(v:V):jD (YO π dst st) (VA C dst {st with h:=h'} v some):=by
 intro st' h;cases dst with
 | none=>simp[VA]at h;subst h;exact⟨λ_ _=>rfl,hk,rfl⟩
 | some d=>
  simp only[VA]at h;cases hb:Nat.blt d C.nt<;>simp[hb]at h
  subst h;exact⟨λs hs=>CA _ _ _ _ (λe=>hs (by rw[e])),hk,rfl⟩
omit [jA]in
def zdo(v:V):jD (YO π dst st) (VA C dst st v some):=NM (TD.refl π st.h) v
omit [jA]in
def zmf{h':Nat→Option vA}(hk:TD π st.h h'){i:Nat}(hi:∀q,q<128→¬π (i+q))(c:xF)(v:V):jD (YO π dst st) (yF C dst {st with h:=h'} i c v some):=NM (UK hk i _ (.inl (hi 0 (by omega)))) v
omit [jA]in
def zvb{i:Nat}(hi:∀q,q<128→¬π (i+q))(c:xF)(v:V):jD (YO π dst st) (yF C dst st i c v some):=NM (UK (TD.refl π st.h) i _ (.inl (hi 0 (by omega)))) v
omit [jA]in
def HS{α:Type}{p:α→Prop}(b:Bool){x:Option α}(h:b=true→jD p x):jD p (bif b then x else none):=by
 cases b
 ·exact tF
 ·exact h rfl
omit [jA]in
def eS{α:Type}{p:α→Prop}(b:Bool){x:Option α}(h:b=false→jD p x):jD p (bif b then none else x):=by
 cases b
 ·exact h rfl
 ·exact tF
omit [jA]in
def LS{α β:Type}{p:β→Prop}(x:Option α){f:α→Option β}(h:∀v,x=some v→jD p (f v)):jD p (Option.bind x f):=by
 cases x with
 | none=>exact tF
 | some v=>exact h v rfl
omit [jA]in
def pK{α:Type}{p:α→Prop}(b:Bool){x:Option α}(h:b=true→jD p x):jD p (gd b x none):=by
 cases b
 ·exact tF
 ·exact h rfl
omit [jA]in
def zlN{α:Type}{p:α→Prop}(b:Bool){x:Option α}(h:b=false→jD p x):jD p (gd b none x):=by
 cases b
 ·exact h rfl
 ·exact tF
omit [jA]in
def WS{α β:Type}{p:β→Prop}(x:Option α){f:α→Option β}(h:∀v,x=some v→jD p (f v)):jD p (yK x f):=by
 cases x with
 | none=>exact tF
 | some v=>exact h v rfl
omit [jA]in
def zlf{p:St→Prop}{K:V→Option St}(h:∀v,jD p (K v))(ag:Bool)(m:Nat)(cs:List V)(off:Nat):jD p (pG ag m cs off K):=by
 cases ag<;>simp only[pG,dD,TS]
 ·split
  ·exact h _
  ·exact tF
 ·exact pK _ λ_=>h _
omit [jA]in
def zl5{p:St→Prop}{K:V→Option St}(h:∀v,jD p (K v))(op:BinOp)(x y:V):jD p (eN op x y K):=by
 unfold eN;split
 ·exact HS _ λ_=>eS _ λ_=>h _
 ·exact HS _ λ_=>eS _ λ_=>h _
 ·exact eS _ λ_=>h _
 ·exact eS _ λ_=>h _
 ·exact HS _ λ_=>h _
 ·split
  ·exact h _
  ·exact tF
omit [jA]in
def zf4{p:St→Prop}{f:Nat→Option St}(h:∀k,jD p (f k))(i:Int):∀(m k:Nat),jD p (iJ f i k m)
 | 0,k=>tF
 | m+1,k=>by
  simp only[iJ];cases i==(k:Int)
  ·exact zf4 h i m (k+1)
  ·exact h k
omit [jA]in
def zlS{p:St→Prop}{K:V→Option St}(h:∀v,jD p (K v))(d:TypeDesc)(tk:TypeId→TN→Bool)(hp:Nat→Option vA)(x:V)(lo hi:Option V):jD p (TO d tk hp x lo hi K):=by
 unfold TO;split
 ·exact tF
 split
 case h_2=>exact tF
 refine HS _ λ_=>?_;split
 ·exact pK _ λ_=>h _
 ·exact h _
 ·split
  ·exact pK _ λ_=>h _
  ·exact tF
 ·exact pK _ λ_=>h _
 ·exact tF
omit [jA]in
def zjN:∀(ks:List sB) (as:List V) (h:Nat→Option vA) (x:List V×(Nat→Option vA)×List Nat),ks.all sB.isPlain=true→yC ks as h=some x→x.2.2=[]
 | [],[],h,x,_,ht=>by simp[yC]at ht;subst ht;rfl
 | [],_ :: _,h,x,_,ht=>by simp[yC]at ht
 | .plain :: ks,[],h,x,_,ht=>by simp[yC]at ht
 | .plain :: ks,v :: vs,h,x,hp,ht=>by
  simp only[List.all_cons,Bool.and_eq_true]at hp;simp only[yC]at ht;split at ht
  ·cases ht
  split at ht
  ·cases ht
  rename_i hr;cases ht;have:=zjN ks vs _ _ hp.2 hr;exact this
 | .ptr _ :: ks,as,h,x,hp,ht=>by simp[sB.isPlain]at hp
 | .mv _ :: ks,as,h,x,hp,ht=>by simp[sB.isPlain]at hp
omit [jA]in
def zsj{ci:aB}{rs:List V}{h h':Nat→Option vA}{q:Nat}{row:vA}(hq:tL ci rs h h' q=some row):h q=some row∨h' q=some row:=by
 unfold tL at hq;cases hp:VM ci rs
 ·rw[hp,cond_false]at hq;cases hb:ci.pb
  ·rw[hb,cond_false]at hq;cases hm:UE ci.own 0 rs with
   | none=>rw[hm]at hq;exact .inr hq
   | some m=>
    rw[hm]at hq;have hq:AL m h h' q=some row:=hq;unfold AL at hq
    grind
  grind
 grind
omit [jA]in
def zsS{ci:aB}{rs:List V}{h h':Nat→Option vA}{q:Nat}{row:vA}(h1:h q=some row)(h2:h' q=some row)(hm:row.m.isOwn=false):tL ci rs h h' q=some row:=by
 unfold tL;cases VM ci rs
 ·cases ci.pb
  ·simp only[cond_false];cases UE ci.own 0 rs with
   | none=>exact h2
   | some m=>
    show AL m h h' q=some row
    unfold AL
    grind
  ·exact h2
 ·exact h1
omit [jA]in
def zuz{i:Nat}(hi:∀q,q<128→¬π (i+q))(f:Nat)(as:List V):jD (YO π dst st) (sK C i dst st f as some):=by
 unfold sK;split
 ·exact tF
 rename_i ci _;split
 ·split
  ·exact tF
  rename_i as' h' bs VZ;refine WS _ λx _=>LS _ λr _=>pK _ λKV=>NM ?_ _;simp only[Bool.and_eq_true]at KV;intro q row hq HV hm;rw[KO]
  have WW:sE ci as' bs i (ci.eR r) q=none:=by
   cases hx:sE ci as' bs i (ci.eR r) q with
   | none=>rfl
   | some y=>
    rcases zmm (Nat.le_of_ble_eq_true KV.1) hx with h1 | h1
    ·have hp:=KV.2;simp only[VM,Bool.and_eq_true]at hp;have hb:bs=[]:=zjN ci.ks as _ _ hp.1.2 VZ
     grind
    ·exact absurd hq (by have:=hi (q - i) (by omega);rwa [show i+(q - i)=q by omega]at this)
  grind
 rename_i as' h' bs VZ;refine WS _ λx _=>LS _ λr _=>pK _ λKV=>NM ?_ _;obtain⟨k1,k2⟩:=zaY π _ _ _ _ VZ;intro q row hq HV hm;have KV:=Nat.le_of_ble_eq_true KV;rw[KO]
 have WW:sE ci as' bs i (ci.eR r) q=none:=by
  cases hx:sE ci as' bs i (ci.eR r) q with
  | none=>rfl
  | some y=>
   rcases zmm KV hx with h1 | h1
   ·grind
   ·exact absurd hq (by have:=hi (q - i) (by omega);rwa [show i+(q - i)=q by omega]at this)
 rw[WW];exact zsS HV (k1 q row hq HV hm) hm
omit [jA]in
def zjJ{i:Nat}(hi:∀q,q<128→¬π (i+q))(o:Oper):jD (YO π o.dst st) (qB C i o st some):=by
 unfold qB
 repeat' first
  | exact tF
  | exact zdo _
  | exact zvb hi _ _
  | exact zuz hi _ _
  | exact NM (RN _ (ze7 ‹_›)) _
  | exact zmf (RN _ (ze7 ‹_›)) hi _ _
  | exact zmf (zkx ‹_›) hi _ _
  | exact NM (UK (TD.refl π st.h) _ _ (.inr ⟨_, ‹_›,rfl⟩)) _
  | exact NM (UK (RN _ (YT ‹_›)) _ _ (.inr ⟨_, ‹_›,rfl⟩)) _
  | refine zlf (λ_=>?_) _ _ _ _
  | refine zl5 (λ_=>?_) _ _ _
  | refine zf4 (λ_=>?_) _ _ _
  | refine zlS (λ_=>?_) _ _ _ _ _ _
  | refine HS _ (λ_=>?_)
  | refine eS _ (λ_=>?_)
  | refine pK _ (λ_=>?_)
  | refine zlN _ (λ_=>?_)
  | refine WS _ (λ_ _=>?_)
  | refine LS _ (λ_ _=>?_)
  | split
end
abbrev oD(n:Nat)(h h':Nat→Option vA):Prop:=TD (λr=>r<n) h h'
omit [jA]in
def oD.refl(n:Nat)(h:Nat→Option vA):oD n h h:=TD.refl _ h
omit [jA]in
def oD.trans{n:Nat}{a b c:Nat→Option vA}(h:oD n a b)(k:oD n b c):oD n a c:=TD.trans h k
omit [jA]in
def oD.le{n m:Nat}{a b:Nat→Option vA}(h:oD n a b)(hm:m≤n):oD m a b:=λr row hr=>h r row (by have:r<m:=hr;show r<n;omega)
omit [jA]in
def zkv{C:Cx}{st:St}{n:Nat}{i:Nat}(hi:n≤i)(o:Oper):jD (YO (λr=>r<n) o.dst st) (qB C i o st some):=zjJ (λq _ h=>by omega) o
end Go.D

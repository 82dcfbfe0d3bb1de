/-
 One operation, continued: conversions, closures, what is made.
-/
import Derived.Test.YtfealdecpglcnaaGreatL3
import Derived.Laws.IdiomStrings
import Derived.Laws.BytesArg
import Derived.Laws.MakeOwn
set_option linter.all false
namespace Go.D
variable [jA]
omit [jA]in
def zdB(t:TN):sz t≤128:=by cases t<;>simp[sz]
section
variable {C:Cx} {w0:World} {outer own:Nat→Prop} {ρ:Nat→Option RI} {st st':St} {a:Act} {w:World} {h:Nat→Option tA}
omit [jA]in
def ziq:∀(parts:List (Nat×Operand)) (k:Nat) (vs:List V),NU st.s k parts=some vs→vs.length=parts.length∧
  ∀j (hj:j<parts.length),(parts[j]).1=k+j∧∃(h:j<vs.length),vs[j]=opd st.s (parts[j]).2
 | [],k,vs,h=>by simp[NU]at h;subst h;exact⟨rfl,λj hj=>by simp at hj⟩
 | (j,x) :: r,k,vs,h=>by
  simp only[NU]at h;cases hb:Nat.beq k j
  case false=>simp[hb]at h
  have hkj:=Nat.eq_of_beq_eq_true hb;simp only[hb,cond_true]at h;split at h
  ·cases h
  rename_i vs' hv;cases h;obtain⟨h1,h2⟩:=ziq r (k+1) vs' hv;refine⟨by simp[h1],λq hq=>?_⟩;cases q with
  | zero=>exact⟨by simp[hkj],by simp,rfl⟩
  | succ q=>
   grind
omit [jA]in
def zkH(off:Nat):∀(l:List (Value×Nat)) (k:Nat) (cs:Array Value),(∀j (hj:j<l.length),(l[j]).2=k+j)→
  (l.foldl (λcs (c,j)=>cs.setIfInBounds (off+j) c) cs).size=cs.size∧
  ∀p,p<cs.size→(l.foldl (λcs (c,j)=>cs.setIfInBounds (off+j) c) cs).getD p undef=if h:off+k≤p∧p<off+k+l.length then(l[p - (off+k)]'(by omega)).1 else cs.getD p undef
 | [],k,cs,_=>⟨rfl,λp hp=>by simp;omega⟩
 | (c,j) :: l,k,cs,hl=>by
  have hj:j=k:=hl 0 (by simp);subst hj;obtain⟨h1,h2⟩:=zkH off l (j+1) (cs.setIfInBounds (off+j) c) (λq hq=>by have:=hl (q+1) (by simp;omega);simp at this;omega);refine⟨by simp only[List.foldl_cons];rw[h1];simp,λp hp=>?_⟩;simp only[List.foldl_cons];rw[h2 p (by simpa using hp)]
  by_cases FW:off+(j+1)≤p∧p<off+(j+1)+l.length
  ·grind
  ·rw[dif_neg FW]
   by_cases he:p=off+j
   ·subst he;rw[dif_pos ⟨Nat.le_refl _,by simp⟩];rw[Array.getD_eq_getD_getElem?,Array.getElem?_setIfInBounds];simp[hp]
   ·rw[dif_neg (by simp;omega)];rw[Array.getD_eq_getD_getElem?,Array.getElem?_setIfInBounds,if_neg (by omega),Array.getD_eq_getD_getElem?]
omit [jA]in
def zjx(v:Value)(off:Nat)(cs:Array Value):(v.cells.zipIdx.foldl (λcs (c,j)=>cs.setIfInBounds (off+j) c) cs).size=cs.size∧
  ∀p,p<cs.size→(v.cells.zipIdx.foldl (λcs (c,j)=>cs.setIfInBounds (off+j) c) cs).getD p undef=if off≤p∧p<off+v.cells.size then v.cells.getD (p - off) undef else cs.getD p undef:=by
 rw[←Array.foldl_toList];obtain⟨h1,h2⟩:=zkH off v.cells.zipIdx.toList 0 cs (λj hj=>by simp);refine⟨h1,λp hp=>?_⟩;rw[h2 p hp]
 by_cases FW:off≤p∧p<off+v.cells.size
 ·rw[if_pos FW,dif_pos (by simpa using FW)];rw[Array.getD_eq_getD_getElem?,Array.getElem?_eq_getElem (by omega)];simp
 ·grind
omit [jA]in
def zkE(size:Nat):∀(parts:List (Nat×Value)) (k:Nat) (cs:Array Value),(∀j (hj:j<parts.length),(parts[j]).1=k+j∧(parts[j]).2.cells.size=size)→
  (k+parts.length) *size≤cs.size→∃ cs',Instr.fill (fun i=>some (i *size,size)) cs parts=some cs'∧cs'.size=cs.size∧
   (∀j (hj:j<parts.length) q,q<size→cs'.getD ((k+j) *size+q) undef=(parts[j]).2.cells.getD q undef)∧∀p,p<k *size→cs'.getD p undef=cs.getD p undef
 | [],k,cs,_,_=>⟨cs,rfl,rfl,λj hj=>by simp at hj,λ_ _=>rfl⟩
 | (i,v) :: r,k,cs,hp,hs=>by
  obtain⟨h1,h2⟩:=hp 0 (by simp);simp only[List.getElem_cons_zero,Nat.add_zero]at h1 h2;subst h1;simp only[List.length_cons]at hs;have t5:(i+1+r.length) *size=i *size+size+r.length *size:=by rw[Nat.add_mul,Nat.add_mul,Nat.one_mul]
  have hs3:(i+(r.length+1)) *size=i *size+size+r.length *size:=by rw[Nat.add_mul,Nat.add_mul,Nat.one_mul];omega
  obtain⟨h3,h4⟩:=zjx v (i *size) cs;obtain⟨cs',h5,h6,h7,h8⟩:=zkE size r (i+1) _ (λj hj=>by have:=hp (j+1) (by simp;omega);simpa[Nat.add_assoc,Nat.add_comm 1 j]using this) (by rw[h3];omega);have YV:∀j,j<r.length→(i+1+j) *size≥i *size+size:=λj _=>by rw[Nat.add_mul,Nat.add_mul,Nat.one_mul];omega
  refine⟨cs',?_,by rw[h6,h3],λj hj q hq=>?_,λp D9=>?_⟩
  ·simp only[Instr.fill]
   grind
  ·cases j with
   | zero=>
    grind
   | succ j=>
    grind
  grind
omit [jA]in
def zjP(t:TN):∀(css:List (List V)) (l:List (El t)),yV t css=some l→l.length=css.length∧∀j (hj:j<css.length) (nX:j<l.length),SB css[j] (enc t l[j])
 | [],l,h=>by simp[yV]at h;subst h;exact⟨rfl,λj hj=>by simp at hj⟩
 | cs :: css,l,h=>by
  simp only[yV]at h;split at h
  ·cases h
  rename_i x hx;split at h
  ·cases h
  rename_i l' hl;cases h;obtain⟨h1,h2⟩:=zjP t css l' hl;refine⟨by simp[h1],λj hj nX=>?_⟩;cases j with
  | zero=>exact AF t hx
  | succ j=>simpa using h2 j (by simpa using hj) (by simpa using nX)
variable {o:Oper} {i:Nat} (hr:bB C w0 outer own ρ st a w)
include hr
def zqX(xs:List Operand):∀j (hj:j<(xs.map (opd st.s)).length),VR w ρ (sA outer ρ st.h) ((xs.map a.eval).getD j undef) (xs.map (opd st.s))[j]:=λj hj=>by
 have nX:j<xs.length:=by simpa using hj
 rw[List.getD_eq_getElem?_getD,List.getElem?_map,List.getElem?_eq_getElem nX,List.getElem_map];exact hr.opd xs[j]
def zqW(f:Nat)(first captured:Array Operand)(ho:o.op= .makeFunc (.func f) first captured)(hk:rB C i o st some=some st'):KC C.P o a w (DC C w0 outer own i ρ st'):=by
 simp only[rB,ho]at hk;cases he:first.isEmpty
 case false=>simp[he]at hk
 simp only[he,XC]at hk;split at hk
 case h_2=>cases hk
 rename_i cs ids lZ;have he:first= #[]:=by simpa using he
 subst he;obtain⟨h1,h2⟩:=hr.heap.mark ids;obtain⟨h3,h4⟩:=zeL hr.heap (zqX hr captured.toList) lZ;have OV:bB C w0 outer own ρ {st with h:=yC st.h ids} a w:=hr.turn h1 h2;refine lC (v:= .func (.func f) #[] (captured.map a.eval)) (w':=w) (by simp[execOp,ho,Instr.makeFunc]) (OV.after (.fn f cs _ (by simp[h3]) λj hj=>?_) hk);have:=(h4 j hj).1;rw[Array.getD_eq_getD_getElem?]
 grind
def zqf(hC:LF C)(t:TypeId)(len:Nat)(parts:Array (Nat×Operand))(ho:o.op= .buildSlice t len parts)(hi:ρ i=none)(hk:rB C i o st some=some st'):
  KC C.P o a w (DC C w0 outer own i ρ st'):=by
 simp only[rB,ho]at hk;split at hk
 ·cases hk
 rename_i tn VW;obtain⟨e,he,Y2⟩:=Option.bind_eq_some_iff.1 VW
 have hu:C.P.underlying t=some (.slice e):=by
  unfold oO at he
  grind
 obtain⟨info,z,VY,hi2,z5,b4,U5⟩:=hC.ok e tn Y2;split at hk
 ·cases hk
 rename_i vs o4;cases hb:(Nat.beq vs.length len&&Nat.ble len 1000)
 case false=>simp[hb]at hk
 simp only[hb,XC]at hk;simp only[Bool.and_eq_true]at hb;have LV:=Nat.eq_of_beq_eq_true hb.1;have sW:=Nat.le_of_ble_eq_true hb.2;split at hk
 ·cases hk
 rename_i vs' ids lZ;obtain⟨l,hl,hk⟩:=Option.bind_eq_some_iff.1 ((HS _ _).symm.trans hk);obtain⟨hp1,hp2⟩:=ziq parts.toList 0 vs o4;have oZ:parts.toList.length=len:=by omega
 have hps:parts.size=len:=by rw[←Array.length_toList];exact oZ
 have CX:∀j (hj:j<vs.length),VR w ρ (sA outer ρ st.h) (a.eval ((parts.toList.map (·.2)).getD j (.const undef))) vs[j]:=λj hj=>by
  obtain⟨_,h4,h5⟩:=hp2 j (by omega);rw[h5,List.getD_eq_getElem?_getD,List.getElem?_map,List.getElem?_eq_getElem (by omega)];exact hr.opd _
 obtain⟨h1,h2⟩:=hr.heap.mark ids;obtain⟨h3,h4⟩:=zeL hr.heap CX lZ;obtain⟨h5,h6⟩:=zjP tn _ l hl;have OV:bB C w0 outer own ρ {st with h:=yC st.h ids} a w:=hr.turn h1 h2
 -- the cells
 let pv:List (Nat×Value):=parts.toList.map λp=>(p.1,a.eval p.2);have E9:pv.length=len:=by simp[pv];omega
 have D8:l.length=len:=by rw[h5,List.length_map];omega
 have F9:∀j (hj:j<pv.length),(pv[j]).1=0+j∧(pv[j]).2.cells.size=sz tn∧∀q,q<sz tn→∃(nX:j<l.length),VR w ρ (sA outer ρ (yC st.h ids)) ((pv[j]).2.cells.getD q undef) ((enc tn l[j]).getD q .undef):=λj hj=>by
  have hjv:j<vs'.length:=by omega
  have RZ:j<l.length:=by omega
  obtain⟨e1,e2,e3⟩:=hp2 j (by omega);obtain⟨g1,g2⟩:=h4 j hjv
  have ZY:(parts.toList.map (·.2)).getD j (.const undef)=(parts.toList[j]'(by omega)).2:=by
   grind
  rw[ZY]at g1;have oW:=h6 j (by simpa using hjv) RZ;rw[List.getElem_map]at oW;have F1:(cellsOf vs'[j]).length=sz tn:=by rw[oW.len,mD]
  have G9:pv[j]=((parts.toList[j]'(by omega)).1,a.eval (parts.toList[j]'(by omega)).2):=by simp[pv]
  rw[G9]
  have W5:YG (cellsOf vs'[j])=true:=by
   rw[YG,List.all_eq_true];intro c hc;obtain⟨q,hq,rfl⟩:=List.mem_iff_getElem.1 hc;have hs:=oW.get q hq (by rw[←oW.len];exact hq);have TY:=zhS tn l[j] q (by omega);rw[xS _ _ _ (by rw[mD];omega)]at TY;generalize (cellsOf vs'[j])[q]=c at hs;generalize (enc tn l[j])[q]'_=d at hs TY;cases hs<;>first | exact TY | rfl
  obtain⟨f1,f2,f3⟩:=zcf g1 W5;refine⟨e1,by rw[f1,F1],λq hq=>⟨RZ,?_⟩⟩;have:=VR.sub (oW.get q (by omega) (by rw[mD];exact hq)) (f2 q (by omega))
  grind
 obtain⟨cs',c1,c2,c3,_⟩:=zkE (sz tn) pv 0 ((Array.range (len *sz tn)).map (λk=>(if len *sz tn=0 then(#[]:Array Value)else z.cells)[k % (if len *sz tn=0 then(#[]:Array Value)else z.cells).size]!))
  (λj hj=>⟨(F9 j hj).1,(F9 j hj).2.1⟩) (by simp[E9])
 have H9:cs'.size=len *sz tn:=by rw[c2];simp
 have I9:¬(2^24<len *sz tn):=by
  have h1:=zdB tn;have:len *sz tn≤1000 *128:=Nat.mul_le_mul sW h1;omega
 have HV:(execOp a.eval o).run C.P w= .ok (.value (.slice (some ⟨w.heap.size,0,none⟩) len len)) (w.alloc (.cells cs' e)):=by
  have hpm:(parts.map λx=>(x.1,a.eval x.2)).toList=pv:=by simp[pv]
  simp only[execOp,ho,Instr.buildSlice,Sem.run_bind,tF hu,Result.andThen_ok,sizeOf,typeInfo,run_program,VY,Sem.run_pure,hi2,gt_iff_lt,I9,if_false]
  by_cases h0:len *sz tn=0
  ·simp only[h0,if_true]at c1⊢;simp only[Sem.run_bind,Sem.run_pure,Result.andThen_ok,hpm,c1];rfl
  ·simp only[h0,if_false]at c1⊢;simp only[Sem.run_bind,Sem.run_pure,Result.andThen_ok,zeroValue,typeInfo,run_program,VY,b4,hpm,c1];rfl
 refine lC HV (OV.newRow hi ⟨w.heap.size,len,len,false⟩ (λ_=>rfl) _ (ZU _ _) (λb hb=>PT _ _ _ hb) (λ_=>by simp) (c:= .arr tn l) (λbad JV=>?_) (λbad=>?_) hk)
 ·refine⟨D8.symm, .inr ⟨rfl,zfg (hC.tys e tn Y2),Nat.le_refl _,by unfold maxLen;simp;omega,λj hj=>⟨World.frozen?_alloc_new _ _ _ _,?_⟩,λi' kW j hj=>?_⟩⟩
  ·have nX:j<len *sz tn:=hj;rw[GN w cs' e j (by omega)];rfl
  ·have hip:i'<pv.length:=by omega
   have NV:i' *sz tn+j<cs'.size:=by
    rw[H9];have:(i'+1) *sz tn≤len *sz tn:=Nat.mul_le_mul_right _ (by omega)
    grind
   obtain⟨_,_,g3⟩:=F9 i' hip;obtain⟨_,g4⟩:=g3 j hj;refine⟨_,GN w cs' e _ NV,?_⟩
   grind
 ·exact .ow i ⟨w.heap.size,len,len,false⟩ (RA _ _ _) (Nat.le_refl _) (by unfold maxLen;simp;omega) rfl
end
end Go.D
namespace Go.D
variable [jA]
section
variable {C:Cx} {w0:World} {outer own:Nat→Prop} {ρ:Nat→Option RI} {st st':St} {a:Act} {w:World}
def zjp(hr:bB C w0 outer own ρ st a w)(pl:List (Nat×Nat)):∀(parts:List (Nat×Operand)) (cs cs':List V) (vs:Array Value),
  iV pl st.s cs parts=some cs'→vs.size=cs.length→(∀j (hj:j<cs.length),VR w ρ (sA outer ρ st.h) (vs.getD j undef) cs[j])→
  ∃vs',Instr.fill (λi=>pl[i]?) vs (parts.map λp=>(p.1,a.eval p.2))=some vs'∧vs'.size=cs'.length∧∀j (hj:j<cs'.length),VR w ρ (sA outer ρ st.h) (vs'.getD j undef) cs'[j]
 | [],cs,cs',vs,hf,hs,hv=>by simp[iV]at hf;subst hf;exact⟨vs,rfl,hs,hv⟩
 | (f,x) :: r,cs,cs',vs,hf,hs,hv=>by
  simp only[iV]at hf;split at hf
  ·cases hf
  rename_i off n hp;cases hb:(Nat.beq n (cellsOf (opd st.s x)).length&&YG (cellsOf (opd st.s x))&&Nat.ble (off+n) cs.length)
  case false=>simp[hb]at hf
  simp only[hb,cond_true]at hf;simp only[Bool.and_eq_true]at hb;obtain⟨⟨v3,W1⟩,hb3⟩:=hb;have hn:=Nat.eq_of_beq_eq_true v3;have sW:=Nat.le_of_ble_eq_true hb3;obtain⟨g1,g2,_⟩:=zcf (hr.opd x) W1;obtain⟨k1,k2⟩:=zjx (a.eval x) off vs;obtain⟨s1,s2⟩:=zeY cs off (cellsOf (opd st.s x)) (by omega)
  obtain⟨vs',h1,h2,h3⟩:=zjp hr pl r _ cs' _ hf (by rw[k1,s1,hs]) (λj hj=>by
   rw[s2 j (by omega) hj,k2 j (by omega)]
   by_cases FW:off≤j∧j<off+(cellsOf (opd st.s x)).length
   ·rw[dif_pos FW,if_pos (by omega)];exact g2 _ (by omega)
   ·rw[dif_neg FW,if_neg (by omega)];exact hv j (by omega))
  refine⟨vs',?_,h2,h3⟩;simp only[List.map_cons,Instr.fill,hp];rw[if_neg]
  ·exact h1
  ·simp;omega
omit [jA]in
def zj0{f g:Nat→Option (Nat×Nat)}(hfg:∀k p,f k=some p→g k=some p):∀(cs:Array Value) (l:List (Nat×Value)) (r:Array Value),Instr.fill f cs l=some r→Instr.fill g cs l=some r
 | cs,[],r,h=>h
 | cs,(i,v) :: l,r,h=>by
  simp only[Instr.fill]at h⊢;cases hf:f i with
  | none=>rw[hf]at h;cases h
  | some p=>
   obtain⟨off,n⟩:=p;rw[hf]at h;rw[hfg i _ hf];simp only at h⊢;split at h
   ·cases h
   ·rename_i hc;rw[if_neg hc];exact zj0 hfg _ l r h
variable {o:Oper} {i:Nat} (hr:bB C w0 outer own ρ st a w)
include hr
def zto(t:TypeId)(parts:Array (Nat×Operand))(ho:o.op= .build t parts)(hk:rB C i o st some=some st'):KC C.P o a w (DC C w0 outer own i ρ st'):=by
 simp only[rB,ho]at hk;split at hk
 case h_2=>cases hk
 rename_i cs pl hz oZ;obtain⟨cs',hf,JV⟩:=Option.bind_eq_some_iff.1 ((HS _ _).symm.trans hk);unfold zeroCells at hz;split at hz
 case h_2=>cases hz
 rename_i z sY;cases hb:YG (z.cells.toList.map zO)<;>simp[hb]at hz
 subst hz;obtain⟨info,VY,hi2⟩:=Option.bind_eq_some_iff.1 sY
 obtain⟨vs',h1,h2,h3⟩:=zjp hr pl parts.toList _ cs' z.cells hf (by simp) (λj hj=>by
  rw[List.getElem_map];have nX:j<z.cells.size:=by simpa using hj
  rw[Array.getD_eq_getD_getElem?,Array.getElem?_eq_getElem nX];exact zc3 _)
 have s4:C.P.built t (parts.map λ(i,x)=>(i,a.eval x)).toList=some vs':=by
  unfold zlm at oZ;split at oZ
  ·rename_i fs hu;simp only[Program.built,VY,hu,hi2,oZ,Array.toList_map];simpa using h1
  ·rename_i n e hu;split at oZ
   case h_2=>cases oZ
   rename_i ie X5;cases hb:Nat.ble n 128<;>simp[hb]at oZ
   subst oZ;simp only[Program.built,VY,hu,hi2,X5,Array.toList_map];refine zj0 (λk p hp=>?_) _ _ _ h1;simp only[List.getElem?_map]at hp;cases hk:(List.range n)[k]? with
   | none=>simp[hk]at hp
   | some y=>
    simp[hk]at hp
    have:y=k:=by
     obtain⟨NV,hy⟩:=List.getElem?_eq_some_iff.1 hk;simpa using hy.symm
    subst this;rw[←hp]
  ·cases oZ
 refine lC (v:= .agg vs') (w':=w) ?_ (hr.after (.agg cs' vs' h2 h3) JV);simp only[execOp,ho,Sem.run_bind,run_build w t _ vs' s4,Result.andThen_ok];rfl
def zqu(hC:LF C)(t:TypeId)(x y:Operand)(ho:o.op= .makeSlice t x y)(hi:ρ i=none)(hk:rB C i o st some=some st'):KC C.P o a w (DC C w0 outer own i ρ st'):=by
 simp only[rB,ho]at hk;split at hk
 case h_2=>cases hk
 rename_i tn z VW hz;obtain⟨e,he,Y2⟩:=Option.bind_eq_some_iff.1 VW
 have hu:C.P.underlying t=some (.slice e):=by
  unfold oO at he;split at he
  ·rename_i h1;cases he;exact h1
  ·cases he
 obtain⟨info,z',VY,hi2,z5,b4,U5⟩:=hC.ok e tn Y2;rw[he,Option.bind_some]at hz;unfold zeroCells at hz;rw[VY,Option.bind_some,b4]at hz;simp only at hz;cases hb:YG (z'.cells.toList.map zO)<;>simp[hb]at hz
 subst hz;split at hk
 case h_2=>cases hk
 rename_i n c hn hc;cases pZ:(decide (0≤n)&&decide (n≤(bA:Int))&&(n==c))
 case false=>simp[pZ]at hk
 simp only[pZ,cond_true]at hk;simp only[Bool.and_eq_true,decide_eq_true_eq,beq_iff_eq]at pZ;obtain⟨⟨h0,LW⟩,rfl⟩:=pZ;obtain⟨x0,ZX,hk⟩:=Option.bind_eq_some_iff.1 ((HS _ _).symm.trans hk);have hx:=hr.opd x;rw[hn]at hx;have hy:=hr.opd y;rw[hc]at hy;generalize SZ:a.eval x=vx at hx;generalize TZ:a.eval y=vy at hy;cases hx;cases hy
 have HV:=run_make (P:=C.P) w t e info z' hu VY b4 .i64 .i64 n n h0 (Int.le_refl _) (by
  have h1:info.bytes *n≤1024 *n:=Int.mul_le_mul_of_nonneg_right (by omega) h0;unfold bA at LW;omega) (by unfold bA at LW;omega)
 have Y5:(execOp a.eval o).run C.P w= .ok (.value (.slice (some ⟨w.heap.size,0,none⟩) n.toNat n.toNat)) (w.alloc (.cells (madeCells z'.cells (n.toNat *info.size)) e)):=by
  simp only[execOp,ho,SZ,TZ,Sem.run_bind,HV,Result.andThen_ok];rfl
 have hnm:n.toNat≤maxLen:=by unfold maxLen;unfold bA at LW;omega
 have YV:(madeCells z'.cells (n.toNat *info.size)).size=n.toNat *sz tn:=by rw[size_madeCells,hi2]
 refine lC Y5 (hr.newRow hi ⟨w.heap.size,n.toNat,n.toNat,false⟩ (λ_=>rfl) _ (ZU _ _) (λb hb=>PT _ _ _ hb) (λ_=>by simp) (c:= .arr tn (List.replicate n.toNat x0)) (λbad JV=>?_) (λbad=>?_) hk)
 ·refine⟨by simp, .inr ⟨rfl,zfg (hC.tys e tn Y2),Nat.le_refl _,hnm,λj hj=>⟨World.frozen?_alloc_new _ _ _ _,?_⟩,λi' kW j hj=>?_⟩⟩
  ·have nX:j<n.toNat *sz tn:=hj;rw[GN w _ e j (by omega)];rfl
  ·have FW:i'<n.toNat:=by simpa using kW
   have NV:i' *sz tn+j<(madeCells z'.cells (n.toNat *info.size)).size:=by
    rw[YV];have:(i'+1) *sz tn≤n.toNat *sz tn:=Nat.mul_le_mul_right _ FW;rw[Nat.add_mul,Nat.one_mul]at this;omega
   refine⟨_,GN w _ e _ NV,?_⟩;have RW:j<z'.cells.size:=by omega
   have ZY:(madeCells z'.cells (n.toNat *info.size)).getD (i' *sz tn+j) undef=z'.cells.getD j undef:=by
    rw[Array.getD_eq_getD_getElem?,Array.getElem?_eq_getElem NV,Array.getD_eq_getD_getElem?,Array.getElem?_eq_getElem RW];simp only[madeCells,Array.getElem_map,Array.getElem_range,Option.getD_some]
    have J9:(i' *sz tn+j) % z'.cells.size=j:=by
     rw[U5,Nat.add_comm,Nat.mul_comm,Nat.add_mul_mod_self_left,Nat.mod_eq_of_lt hj]
    rw[J9,getElem!_pos z'.cells j RW]
   rw[ZY,List.getElem_replicate];have hs:=AF tn ZX;have t5:=hs.get j (by simpa using RW) (by rw[mD];exact hj);rw[xS _ _ _ (by rw[mD];exact hj)];refine JV _ _ (VR.sub t5 ?_);rw[List.getElem_map,Array.getD_eq_getD_getElem?,Array.getElem?_eq_getElem RW];simpa using zc3 z'.cells[j]
 ·exact .ow i ⟨w.heap.size,n.toNat,n.toNat,false⟩ (RA _ _ _) (Nat.le_refl _) hnm rfl
def zr0(hC:LF C)(src d:TypeId)(x:Operand)(ho:o.op= .convert src d x)(hi:ρ i=none)(hk:rB C i o st some=some st'):KC C.P o a w (DC C w0 outer own i ρ st'):=by
 simp only[rB,ho]at hk;have hx:=hr.opd x
 have aW:∀v w',(convert src d (a.eval x)).run C.P w= .ok v w'→(execOp a.eval o).run C.P w= .ok (.value v) w':=λv w' h1=>by
  simp[execOp,ho,h1]
 split at hk
 ·rename_i k0 k k1 n h1 h2 h3;rw[h3]at hx;generalize hv:a.eval x=v at hx aW;cases hx;refine lC (aW (.int k (k.wrap n)) w ?_) (hr.after (.int _ _ (HR _ _)) hk);simp[convert,run_underlying h1,run_underlying h2,Conv.intToInt]
 ·rename_i e s h1 h2 h3;split at hk
  case h_2=>cases hk
  rename_i h4 h5;rw[h3]at hx;cases LW:Nat.ble s.length bA
  case false=>simp[LW]at hk
  simp only[LW,cond_true]at hk;have LW:=Nat.le_of_ble_eq_true LW;generalize hv:a.eval x=v at hx aW;cases hx with
  | str _ hs=>
  obtain⟨info,z,VY,hi2,z5,b4,U5⟩:=hC.ok e .byte h4;have HV:=run_bytes_of_string (P:=C.P) w src d e ⟨s.toArray⟩ h1 h2 h5;have hss:(ByteArray.mk s.toArray).size=s.length:=by simp[ByteArray.size]
  rw[hss]at HV;have HX:=grownCap_ge w s.length 0 e;have A5:grownCap w s.length 0 e≤maxLen:=grownCap_le_maxLen w s.length 0 e hs;generalize YZ:grownCap w s.length 0 e=cap at HV HX A5;have t4:(bytesRow ⟨s.toArray⟩ cap).size=cap:=by simp[bytesRow,hss];omega
  refine lC (aW _ _ HV) (hr.newRow hi ⟨w.heap.size,s.length,cap,false⟩ (λ_=>rfl) _ (Wx.trans (zk9 w) (ZU _ _))
   (λb hb=>PT w.drew _ b hb) (λ_=>by simp) (c:= .arr .byte s) (λbad JV=>?_) (λbad=>?_) hk)
  ·have ZV:∀j,j<cap→(w.drew.alloc (.cells (bytesRow ⟨s.toArray⟩ cap) e ((bytesRow ⟨s.toArray⟩ cap).size,(bytesRow ⟨s.toArray⟩ cap).size+1))).cell? (at_ w.heap.size j)=(bytesRow ⟨s.toArray⟩ cap)[j]?:=λj hj=>by
    have hh:(w.drew.alloc (.cells (bytesRow ⟨s.toArray⟩ cap) e ((bytesRow ⟨s.toArray⟩ cap).size,(bytesRow ⟨s.toArray⟩ cap).size+1))).heap[w.heap.size]?=some (.cells (bytesRow ⟨s.toArray⟩ cap) e ((bytesRow ⟨s.toArray⟩ cap).size,(bytesRow ⟨s.toArray⟩ cap).size+1)):=by
     show(w.heap.push _)[w.heap.size]?=_
     simp
    unfold World.cell? at_;rw[hh];rfl
   refine⟨rfl, .inr ⟨rfl,⟨_,e,_,by show(w.heap.push _)[w.heap.size]?=_;rw[Array.getElem?_push_size],hC.tys e .byte h4⟩,HX,A5,λj hj=>?_,λi' kW j hj=>?_⟩⟩
   ·have nX:j<cap:=by simpa[sz]using hj
    refine⟨?_,?_⟩
    ·have:=World.frozen?_alloc_mark w.drew (bytesRow ⟨s.toArray⟩ cap) e (bytesRow ⟨s.toArray⟩ cap).size ((bytesRow ⟨s.toArray⟩ cap).size+1) j;rw[World.size_drew]at this;show World.frozen? _ ⟨w.heap.size,j,none⟩=false
     rw[this,t4];simp;omega
    ·rw[ZV j nX,Array.getElem?_eq_getElem (by omega)];rfl
   ·have X1:j=0:=by simp[sz]at hj;exact hj
    subst X1;have X2:i'<s.length:=kW;refine⟨.int .u8 (s[i'].toNat:Int),?_,?_⟩
    ·simp only[sz,Nat.mul_one,Nat.add_zero];rw[ZV i' (by omega),bytesRow_at _ _ _ (by simpa using X2)];simp
    ·have:=s[i'].toNat_lt;exact .int _ _ ⟨by simp[IntKind.min,IntKind.signed],by simp[IntKind.max,IntKind.signed,IntKind.bits];omega⟩
  ·exact .ow i ⟨w.heap.size,s.length,cap,false⟩ (RA _ _ _) HX A5 rfl
 ·rename_i e h1 h2;split at hk
  case h_2=>cases hk
  rename_i l h5 h4;cases LW:Nat.ble l.length bA
  case false=>simp[LW]at hk
  simp only[LW,cond_true]at hk;have LW:=Nat.le_of_ble_eq_true LW;obtain⟨ao,cap,hv,A0⟩:=zkz hr hx h4;refine lC (aW (.string ⟨l.toArray⟩) w ?_) (hr.after (.str l (by unfold bA at LW;unfold maxLen;omega)) hk);rw[hv]
  have empty:∀(ao:Option Addr) (c:Nat),(convert src d (.slice ao 0 c)).run C.P w= .ok (.string ⟨#[]⟩) w:=λao c=>by
   cases ao with
   | none=>exact run_convert_bytes_nil w src e h1 h5 0 c d h2
   | some ad=>exact run_convert_bytes_back w src d e ad c [] h1 h5 h2 (λj hj=>by simp at hj)
  rcases A0 with rfl | ⟨b,off,rfl,hc⟩
  ·exact empty ao cap
  ·refine run_convert_bytes_back w src d e (at_ b off) cap l h1 h5 h2 λj hj=>?_;obtain⟨u,c1,c2⟩:=hc j hj 0 (by simp[sz]);simp only[sz,Nat.mul_one,Nat.add_zero]at c1;rw[jG,c1];have:(enc .byte l[j]).getD 0 .undef= .int .u8 (l[j].toNat:Int):=rfl;rw[this]at c2;cases c2;rfl
 ·rename_i e0 e r h1 h2 h3;split at hk
  case h_2=>cases hk
  rename_i y l K9 h5 h4;have K9:=Nat.eq_of_beq_eq_true K9;subst K9;have he:e0=e:=by rw[h1]at h2;cases h2;rfl
  subst he;rw[h3]at hx;obtain⟨ri,hρ,XV,P3⟩:=hr.heap.rows r _ h4;obtain⟨LV,A0⟩:=XV;generalize hv:a.eval x=v at hx aW;cases hx with
  | owN _ ri' ao B0 hn eW=>
   rw[hρ]at B0;cases B0;rw[hn]at LV;simp at LV
  | ow _ ri' B0 hn hc eW=>
  rw[hρ]at B0;cases B0
  rcases A0 with⟨Z5,_⟩ | ⟨_,ce,_,_,LX,MX⟩
  ·rw[eW]at Z5;cases Z5
  have Z2:0<ri.cap *sz .byte:=by
   have:0<ri.n:=by rw[LV];simp
   simp[sz];omega
  obtain⟨c,elem,lo,kW,Y1⟩:∃c elem lo kW,w.heap[ri.b]?=some (.cells c elem (lo,kW)):=by
   have:=(LX 0 Z2).2;unfold World.cell? at_ at this;simp only at this;split at this
   ·rename_i c elem fr hb;exact⟨c,elem,fr.1,fr.2,hb⟩
   ·cases this
  have iX:(w.freeze ⟨ri.b,c.size,none⟩ 1).heap=w.heap.modify ri.b fun
    | .cells c' elem (lo,hi)=> .cells c' elem (if lo==hi then(c.size,c.size+1)else(min lo c.size,max hi (c.size+1)))
    | o=>o:=by
   unfold World.freeze;rw[if_neg (by decide)];rfl
  generalize hW:w.freeze ⟨ri.b,c.size,none⟩ 1=W at iX
  have v4:∀b,b≠ri.b→W.heap[b]?=w.heap[b]?:=λb hb=>by
   rw[iX,Array.getElem?_modify,if_neg (Ne.symm hb)]
  have ZV:∀j,W.cell? (at_ ri.b j)=w.cell? (at_ ri.b j):=λj=>by
   unfold World.cell? at_;simp only[iX,Array.getElem?_modify,Y1,if_true,Option.map_some]
  have ceW:DF W ri.b .byte:=by
   obtain⟨c',e',z',k1,k2⟩:=ce;rw[Y1]at k1;cases k1;exact⟨c,elem,_,by rw[iX,Array.getElem?_modify,if_pos rfl,Y1];rfl,k2⟩
  have HV:(convert src src (.slice (some (at_ ri.b 0)) ri.n ri.cap)).run C.P w= .ok (.slice (some (at_ ri.b 0)) ri.n ri.cap) W:=by
   have L9:w.shape? ri.b=some (elem,c.size):=by simp[World.shape?,Y1]
   simp[convert,run_underlying h1,run_underlying h5,markStringish,at_,L9];exact hW
  have kZ:Wx w W:=by
   rw[←hW];unfold World.freeze;rw[if_neg (by decide)];exact⟨rfl,rfl,rfl,by simp⟩
  have UW:=hr.heap.write h4 hρ eW W kZ (by rw[iX];simp) v4 (.box []) (λ_=>⟨eW,λj hj=>by simp at hj⟩)
  have bW:=UW.1.less (h':=zA st.h r none) (λq row' hq=>by
   by_cases fW:q=r
   ·subst fW;rw[RA]at hq;cases hq
   ·rw[AA _ _ _ _ fW]at hq;exact⟨row',by rw[AA _ _ _ _ fW];exact hq,rfl,λh=>h⟩)
  have aZ:=hr.turn bW.1 (λu d hu=>bW.2 _ _ (UW.2 u d hu))
  have E8:¬sA outer ρ (zA st.h r none) ri.b:=by
   rintro(hb | ⟨q,row,qi,q1,q2,q3,q4,q5⟩)
   ·exact(P3 eW).1.1 hb
   ·by_cases fW:q=r
    ·subst fW;rw[RA]at q1;cases q1
    ·rw[AA _ _ _ _ fW]at q1;exact fW (hr.heap.inj q r row _ qi ri q1 h4 q3 hρ q4 eW q5)
  refine lC (aW _ _ HV) (aZ.after ?_ hk);have z4:ri.n=(y :: l).length:=LV;rw[z4];rw[z4]at hn;refine .slC .byte (y :: l) ri.b 0 ri.cap (λi _=> .int .u8 ((((y :: l).getD i 0:UInt8).toNat:Nat):Int)) E8 hn hc (λ_=> .inr ceW) (λi hi j hj=>?_) (λi hi j hj=>?_)
  ·have X1:j=0:=by simp[sz]at hj;exact hj
   subst X1;obtain⟨u,c1,c2⟩:=MX i hi 0 (by simp[sz]);rw[ZV];simp only[Nat.zero_add];rw[c1];have e2:(enc .byte (y :: l)[i]).getD 0 .undef= .int .u8 ((y :: l)[i].toNat:Int):=rfl;rw[e2]at c2;cases c2;have e3:(y :: l).getD i (0:UInt8)=(y :: l)[i]:=by rw[List.getD_eq_getElem?_getD,List.getElem?_eq_getElem hi];rfl
   rw[e3]
  ·have X1:j=0:=by simp[sz]at hj;exact hj
   subst X1;have e3:(y :: l).getD i (0:UInt8)=(y :: l)[i]:=by rw[List.getD_eq_getElem?_getD,List.getElem?_eq_getElem hi];rfl
   rw[e3];have:=UInt8.toNat_lt (y :: l)[i];show VR _ _ _ _ (.int .u8 ((((y :: l)[i]:UInt8).toNat:Nat):Int))
   exact .int _ _ ⟨by simp[IntKind.min,IntKind.signed],by simp[IntKind.max,IntKind.signed,IntKind.bits];omega⟩
 ·cases hk
end
end Go.D
namespace Go.D
variable [jA]
section
variable {C:Cx} {w0:World} {outer own:Nat→Prop} {ρ:Nat→Option RI} {st st':St} {a:Act} {w:World} {h:Nat→Option tA}
def Out(base N r:Nat):Prop:=¬(base≤r∧r<base+N)
omit [jA]in
def AB(ow:List Nat)(base:Nat)(h:Nat→Option tA):∀(es:List V) (p r:Nat),aB ow base h p es r=match aB ow base (λ_=>none) p es r with | some x=>some x | none=>h r
 | [],p,r=>rfl
 | e :: es,p,r=>by
  have ih:=AB ow base h es (p+1) r;cases e<;>simp only[aB]<;>try exact ih
  cases hb:ow.any (Nat.beq p)
  ·simpa using ih
  ·simp only[cond_true]
   by_cases hr:r=base+p
   ·subst hr;simp[RA]
   ·simp only[AA _ _ _ _ hr];exact ih
omit [jA]in
def QC(ow:List Nat)(base:Nat):∀(es:List V) (p r:Nat),(r<base+p∨base+p+es.length≤r)→aB ow base (λ_=>none) p es r=none
 | [],p,r,_=>rfl
 | e :: es,p,r,hr=>by
  have ih:=QC ow base es (p+1) r (by simp at hr;omega);cases e<;>simp only[aB]<;>try exact ih
  cases hb:ow.any (Nat.beq p)
  ·simpa using ih
  ·simp only[cond_true];rw[AA _ _ _ _ (by simp at hr;omega)];exact ih
omit [jA]in
def wE(ow:List Nat)(base:Nat):∀(es:List V) (p:Nat),(SA ow base p es).length=es.length
 | [],p=>rfl
 | e :: es,p=>by cases e<;>simp[SA,wE ow base es (p+1)]
def aH(h g:Nat→Option tA):Prop:=∀r row,h r=some row→g r=some row
omit [jA]in
def zeq{c:V}{h g:Nat→Option tA}{x:V×List Nat}(hg:aH h g)(hf:xG h c=some x):xG g c=some x∧∀r∈x.2,∃row,h r=some row:=by
 unfold xG at hf;split at hf
 ·rename_i r;split at hf
  ·rename_i t l m hr;refine⟨by simp only[xG,hg _ _ hr];exact hf,?_⟩;cases hm:m.isLock<;>simp[hm]at hf
   subst hf;intro q hq;simp at hq;subst hq;exact⟨_,hr⟩
  ·cases hf
 ·rename_i r t off len;split at hf
  ·rename_i t' l m hr;refine⟨by simp only[xG,hg _ _ hr];exact hf,?_⟩;cases hm:m.isLock
   ·simp only[hm,cond_false]at hf;split at hf
    ·simp at hf;subst hf;intro q hq;simp at hq;subst hq;exact⟨_,hr⟩
    ·cases hf
   ·simp[hm]at hf
  ·cases hf
 ·cases hb:kG 8 c<;>simp[hb]at hf
  subst hf;refine⟨?_,by simp⟩;unfold xG;split
  ·simp[kG]at hb
  ·simp[kG]at hb
  ·simp[hb]
omit [jA]in
def zes{h g:Nat→Option tA}(hg:aH h g):∀{cs:List V} {x:List V×List Nat},RF h cs=some x→RF g cs=some x∧∀r∈x.2,∃row,h r=some row
 | [],x,hf=>by simp[RF]at hf;subst hf;simp[RF]
 | c :: cs,x,hf=>by
  simp only[RF]at hf;split at hf
  ·cases hf
  rename_i c' i h1;split at hf
  ·cases hf
  rename_i cs' j h2;cases hf;obtain⟨k1,k2⟩:=zeq hg h1;obtain⟨k3,k4⟩:=zes hg h2;refine⟨by simp[RF,k1,k3],λr hr=>?_⟩
  rcases List.mem_append.1 hr with hr | hr
  ·exact k2 r hr
  ·exact k4 r hr
omit [jA]in
def zku{c:V}{h g:Nat→Option tA}{x:V×List Nat}(hg:aH h g)(hf:fH h c=some x):fH g c=some x∧∀r∈x.2,∃row,h r=some row:=by
 unfold fH at hf;split at hf
 ·split at hf
  ·rename_i cs cs' i h1;cases hf;obtain⟨k1,k2⟩:=zes hg h1;exact⟨by simp[fH,k1],k2⟩
  ·cases hf
 ·rename_i r off;split at hf
  ·rename_i cs m hr;cases hb:(m.isLock||cs.isEmpty)
   case true=>simp[hb]at hf
   simp only[hb,cond_false]at hf;split at hf
   ·rename_i cs' i h1;cases hf;obtain⟨k1,k2⟩:=zes hg h1;refine⟨by simp[fH,hg _ _ hr,hb,k1],λq hq=>?_⟩
    rcases List.mem_cons.1 hq with rfl | hq
    ·exact⟨_,hr⟩
    ·exact k2 q hq
   ·cases hf
  ·cases hf
 ·rename_i h1 h2;obtain⟨k1,k2⟩:=zeq hg hf;refine⟨?_,k2⟩;unfold fH;split
  ·exact absurd rfl (h1 _)
  ·exact absurd rfl (h2 _ _)
  ·exact k1
omit [jA]in
def ze9{h g:Nat→Option tA}(hg:aH h g)(ids:List Nat):aH (yC h ids) (yC g ids):=by
 intro r row hr;rw[wF]at hr⊢
 by_cases hm:r∈ids
 ·simp only[hm,if_true,Option.map_eq_some_iff]at hr⊢;obtain⟨row',h1,rfl⟩:=hr;exact⟨row',hg _ _ h1,rfl⟩
 ·simp only[hm,if_false]at hr⊢;exact hg _ _ hr
def ze5{bad bad':Nat→Prop}{ri:RI}{ρ':Nat→Option RI}{t:TN}{l:List (El t)}(hr:ZD w ρ bad ri (.arr t l))
  (hv:∀u d,VR w ρ bad u d→VR w ρ' bad' u d):ZD w ρ' bad' ri (.arr t l):=hr.keep (λ_=>rfl) hv
def sB.rename(hh:sB w0 outer own ρ h w){r i:Nat}{t:TN}{l:List (El t)}{ri:RI}(hr:h r=some ⟨.arr t l, .own⟩)(hρ:ρ r=some ri)(hi:ρ i=none):
  sB w0 outer own (zA ρ i (some ri)) (zA (zA h r none) i (some ⟨.arr t l, .own⟩)) w∧
   ∀u d,VR w ρ (sA outer ρ h) u d→VR w (zA ρ i (some ri)) (sA outer (zA ρ i (some ri)) (zA (zA h r none) i (some ⟨.arr t l, .own⟩))) u d:=by
 obtain⟨ri',h1,h2,h3⟩:=hh.rows r _ hr;rw[hρ]at h1;cases h1;cases hn:ri.nl
 ·exact hh.move hr hρ hn hi rfl hn w (Wx.refl _) rfl (λ_ _=>rfl) _ λbad hv=>ze5 h2 hv
 ·obtain⟨k1,k2⟩:=hh.less (h':=zA h r none) (λq row' hq=>by
   by_cases fW:q=r
   ·subst fW;rw[RA]at hq;cases hq
   ·rw[AA _ _ _ _ fW]at hq;exact⟨row',hq,rfl,id⟩)
  obtain⟨k3,k4⟩:=k1.alloc i hi ri (λh=>by rw[hn]at h;cases h) w (Wx.refl _) (λ_ _=>rfl) (λh=>by rw[hn]at h;cases h) (.arr t l)
   λhv=>ze5 (ze5 h2 k2) hv
  exact⟨k3,λu d hu=>k4 _ _ (k2 _ _ hu)⟩
def sB.empty(hh:sB w0 outer own ρ h w){i:Nat}(t:TN)(hi:ρ i=none):
  sB w0 outer own (zA ρ i (some ⟨0,0,0,true⟩)) (zA h i (some ⟨.arr t [], .own⟩)) w∧
   ∀u d,VR w ρ (sA outer ρ h) u d→VR w (zA ρ i (some ⟨0,0,0,true⟩)) (sA outer (zA ρ i (some ⟨0,0,0,true⟩)) (zA h i (some ⟨.arr t [], .own⟩))) u d:=
 hh.alloc i hi ⟨0,0,0,true⟩ (λh=>by cases h) w (Wx.refl _) (λ_ _=>rfl) (λh=>by cases h) (.arr t []) λ_=>⟨rfl, .inl ⟨rfl,rfl⟩⟩
def sB.cut(hh:sB w0 outer own ρ h w){r i len:Nat}{t:TN}{l:List (El t)}{v:Value}(hr:h r=some ⟨.arr t l, .own⟩)(hi:ρ i=none)(hv:VR w ρ (sA outer ρ h) v (.ov r t 0 len)):
  ∃ri',sB w0 outer own (zA ρ i (some ri')) (zA (zA h r none) i (some ⟨.arr t (l.take len), .own⟩)) w∧
   (∀u d,VR w ρ (sA outer ρ h) u d→VR w (zA ρ i (some ri')) (sA outer (zA ρ i (some ri')) (zA (zA h r none) i (some ⟨.arr t (l.take len), .own⟩))) u d)∧
   VR w (zA ρ i (some ri')) (sA outer (zA ρ i (some ri')) (zA (zA h r none) i (some ⟨.arr t (l.take len), .own⟩))) v (.ow i):=by
 obtain⟨ri,hρq,XV,_⟩:=hh.rows r _ hr;have RY:ri.n=l.length:=XV.1;obtain⟨ao,cap,h1,h2,h3,h4,h5⟩:=hv.ov_inv hρq
 rcases h3 with⟨rfl,rfl⟩ | ⟨rfl,eW,hc⟩
 ·obtain⟨k1,k2⟩:=hh.less (h':=zA h r none) (λq row' hq=>by
   by_cases fW:q=r
   ·subst fW;rw[RA]at hq;cases hq
   ·rw[AA _ _ _ _ fW]at hq;exact⟨row',hq,rfl,id⟩)
  obtain⟨n1,n2⟩:=k1.empty t hi;rw[List.take_zero];exact⟨⟨0,0,0,true⟩,n1,λu d hu=>n2 _ _ (k2 _ _ hu),by rw[h1];exact .owN _ ⟨0,0,0,true⟩ ao (RA _ _ _) rfl rfl⟩
 ·rw[Nat.zero_mul]at h1
  rcases XV.2 with h6 | ⟨_,ce,c1,c2,c3,c4⟩
  ·rw[eW]at h6;cases h6.1
  obtain⟨n1,n2⟩:=hh.move hr hρq eW hi (ri':=⟨ri.b,len,cap,false⟩) rfl rfl w (Wx.refl _) rfl (λ_ _=>rfl) (.arr t (l.take len)) λbad JV=>by
   refine⟨by simp;omega, .inr ⟨rfl,ce,h4,h5,λj hj=>c3 j ?_,λi hi j hj=>?_⟩⟩
   ·have:cap *sz t≤ri.cap *sz t:=Nat.mul_le_mul_right _ (by omega);have hj:j<cap *sz t:=hj;omega
   ·obtain⟨u,f1,f2⟩:=c4 i (by simp at hi;omega) j hj;refine⟨u,f1,?_⟩;rw[List.getElem_take];exact JV _ _ f2
  exact⟨_,n1,n2,by rw[h1];exact .ow _ ⟨ri.b,len,cap,false⟩ (RA _ _ _) h4 h5 rfl⟩
structure zlQ(w0:World)(outer own:Nat→Prop)(w:World)(ow:List Nat)(base N p:Nat)(ρ:Nat→Option RI)(g h h':Nat→Option tA)(es:List V)(u:Nat→Value)
  (ρ':Nat→Option RI) (g':Nat→Option tA):Prop where
 heap:sB w0 outer own ρ' g' w
 lies:aH h' g'
 out:∀r,Out base N r→ρ' r=ρ r∧(h r=none→g' r=g r)
 less:∀r,h r=none→h' r=none
 before:∀q,q<p→g' (base+q)=g (base+q)∧ρ' (base+q)=ρ (base+q)
 new:∀q,p≤q→q<N→g' (base+q)=aB ow base (λ_=>none) p es (base+q)
 ext:∀r ri,ρ r=some ri→ρ' r=some ri
 keep:∀v d,VR w ρ (sA outer ρ g) v d→VR w ρ' (sA outer ρ' g') v d
 vals:∀j (hj:j<(SA ow base p es).length),VR w ρ' (sA outer ρ' g') (u j) (SA ow base p es)[j]
 closed:∀j (hj:j<es.length),aD es[j]∧(es[j]).leaf=true
omit [jA]in
def SB.closed1{c e:V}(hs:IH c e)(h:aD c∧c.leaf=true):aD e∧e.leaf=true:=by
 cases hs with
 | refl=>exact h
 | byte n=>exact⟨λ_=> .int _ _,rfl⟩
 | nil t=>exact⟨dM _ _,rfl⟩
def PR(ow:List Nat)(base N:Nat):∀(cs:List V) (p:Nat) (h h':Nat→Option tA) (cs' es:List V) (ρ:Nat→Option RI) (g:Nat→Option tA) (u:Nat→Value),
  OD ow p cs h=some (cs',h')→SB cs' es→p+cs.length≤N→sB w0 outer own ρ g w→
  (∀j (hj:j<cs.length),VR w ρ (sA outer ρ g) (u j) cs[j])→aH h g→(∀q,q<N→h (base+q)=none)→
  (∀q,p≤q→q<N→ρ (base+q)=none)→∃ρ' g',zlQ w0 outer own w ow base N p ρ g h h' es u ρ' g'∧es.length=cs.length
 | [],p,h,h',cs',es,ρ,g,u,ht,hs,hN,hh,hv,hg,IW,hf=>by
  simp only[OD,Option.some.injEq,Prod.mk.injEq]at ht;obtain⟨rfl,rfl⟩:=ht;cases hs;refine⟨ρ,g,⟨hh,hg,λr hr=>⟨rfl,λ_=>rfl⟩,λ_ h=>h,λq hq=>⟨rfl,rfl⟩,λq h1 h2=>?_,λ_ _ h=>h,λ_ _ h=>h,λj hj=>by simp[SA]at hj,λj hj=>by simp at hj⟩,rfl⟩;cases B5:g (base+q)with
  | none=>rfl
  | some row=>obtain⟨ri,h3,_⟩:=hh.rows _ _ B5;rw[hf q h1 h2]at h3;cases h3
 | c :: cs,p,h,h',cs',es,ρ,g,u,ht,hs,hN,hh,hv,hg,IW,hf=>by
  simp only[List.length_cons]at hN;have FW:¬Out base N (base+p):=λho=>ho ⟨by omega,by omega⟩
  have C0:∀r row,h r=some row→Out base N r:=λr row hr=>by
   rintro⟨h1,h2⟩;have:=IW (r - base) (by omega);rw[show base+(r - base)=r by omega,hr]at this;cases this
  -- behind a step
  have go:∀(ρ1:Nat→Option RI) (g1 h1:Nat→Option tA) (cs1 es1:List V) (e:V),OD ow (p+1) cs h1=some (cs1,h')→SB cs1 es1→es=e :: es1→sB w0 outer own ρ1 g1 w→
    (∀v d,VR w ρ (sA outer ρ g) v d→VR w ρ1 (sA outer ρ1 g1) v d)→aH h1 g1→(∀r,Out base N r→ρ1 r=ρ r∧(h r=none→g1 r=g r))→(∀r,h r=none→h1 r=none)→(∀q,q<p→g1 (base+q)=g (base+q)∧ρ1 (base+q)=ρ (base+q))→
    (∀q,p+1≤q→q<N→ρ1 (base+q)=ρ (base+q))→(∀r ri,ρ r=some ri→ρ1 r=some ri)→(aD e∧e.leaf=true)→
    (∀ (ρ':Nat→Option RI) (g':Nat→Option tA),(∀ v d,VR w ρ1 (sA outer ρ1 g1) v d→VR w ρ' (sA outer ρ' g') v d)→
     ∃(hl:0<(SA ow base p (e :: es1)).length),VR w ρ' (sA outer ρ' g') (u 0) (SA ow base p (e :: es1))[0])→
    aB ow base (λ_=>none) p (e :: es1) (base+p)=g1 (base+p)→(∀q,q≠p→aB ow base (λ_=>none) p (e :: es1) (base+q)=aB ow base (λ_=>none) (p+1) es1 (base+q))→
    (∀j (hj:j<(SA ow base (p+1) es1).length),∃(hl:j+1<(SA ow base p (e :: es1)).length),(SA ow base p (e :: es1))[j+1]=(SA ow base (p+1) es1)[j])→
    ∃ρ' g',zlQ w0 outer own w ow base N p ρ g h h' es u ρ' g'∧es.length=(c :: cs).length:=by
   rintro ρ1 g1 h1 cs1 es1 e I1 zX rfl R2 BZ Q2 ho1 bZ v3 hf1 Z1 he cX C1 RY M9
   obtain⟨ρ',g',T,LV⟩:=PR ow base N cs (p+1) h1 h' cs1 es1 ρ1 g1 (λj=>u (j+1)) I1 zX (by omega) R2
    (λj hj=>BZ _ _ (hv (j+1) (by simp;omega))) Q2 (λq hq=>bZ _ (IW q hq))
    (λq h1 h2=>by rw[hf1 q h1 h2];exact hf q (by omega) h2)
   refine⟨ρ',g',⟨T.heap,T.lies,λr hr=>⟨(T.out r hr).1.trans (ho1 r hr).1,λhn=>((T.out r hr).2 (bZ r hn)).trans ((ho1 r hr).2 hn)⟩,λr hr=>T.less r (bZ r hr),λq hq=>?_,λq h1 h2=>?_,λr ri hr=>T.ext _ _ (Z1 r ri hr),λv d hd=>T.keep _ _ (BZ _ _ hd),λj hj=>?_,λj hj=>?_⟩,by simp[LV]⟩
   ·obtain⟨b1,b2⟩:=T.before q (by omega);exact⟨b1.trans (v3 q hq).1,b2.trans (v3 q hq).2⟩
   ·by_cases hq:q=p
    ·subst hq;rw[(T.before q (by omega)).1];exact C1.symm
    ·rw[T.new q (by omega) h2,RY q hq]
   ·cases j with
    | zero=>exact(cX ρ' g' T.keep).2
    | succ j=>
     have nX:j<(SA ow base (p+1) es1).length:=by
      rw[wE]at hj⊢;simpa using hj
     obtain⟨_,h2⟩:=M9 j nX;rw[h2];exact T.vals j nX
   ·cases j with
    | zero=>exact he
    | succ j=>exact T.closed j (by simpa using hj)
  simp only[OD]at ht;have A4:ρ (base+p)=none:=hf p (Nat.le_refl _) (by omega)
  have hgp:g (base+p)=none:=by
   cases B5:g (base+p)with
   | none=>rfl
   | some row=>obtain⟨ri,h3,_⟩:=hh.rows _ _ B5;rw[A4]at h3;cases h3
  have CZ:=hv 0 (by simp);simp only[List.getElem_cons_zero]at CZ;cases hb:ow.any (Nat.beq p)
  ·simp only[hb,cond_false]at ht;split at ht
   case h_2=>cases ht
   rename_i c' ids lZ;split at ht
   case h_2=>cases ht
   rename_i cs1 h1 I1;simp only[Option.some.injEq,Prod.mk.injEq]at ht;obtain⟨rfl,rfl⟩:=ht;cases hs with
   | cons uY zX=>
   rename_i e es1;obtain⟨N9,WY⟩:=zeq hg lZ;simp only at WY;obtain⟨k1,k2⟩:=hh.mark ids;have k3:=zeO hh CZ N9;have J1:∀r,h r=none→r∉ids:=λr hn hm=>by obtain⟨row,h5⟩:=WY r hm;rw[hn]at h5;cases h5
   have he:=SB.closed1 uY k3.2;have hl:SA ow base p (e :: es1)=e :: SA ow base (p+1) es1:=by cases e<;>simp[SA,hb]
   have b6:∀q,aB ow base (λ_=>none) p (e :: es1) q=aB ow base (λ_=>none) (p+1) es1 q:=λq=>by cases e<;>simp[aB,hb]
   refine go ρ (yC g ids) (yC h ids) cs1 es1 e I1 zX rfl k1 k2 (ze9 hg ids) (λr hr=>⟨rfl,λhn=>?_⟩) (λr hn=>?_) (λq hq=>⟨?_,rfl⟩) (λ_ _ _=>rfl) (λ_ _ h=>h) he (λρ' g' hk=>?_) ?_ (λq hq=>b6 _) (λj hj=>?_)
   ·rw[wF,if_neg (J1 r hn)]
   ·rw[wF,if_neg (J1 r hn)];exact hn
   ·rw[wF,if_neg (J1 _ (IW q (by omega)))]
   ·simp only[hl];exact⟨by simp,(VR.sub uY (hk _ _ k3.1))⟩
   ·rw[b6,QC _ _ _ _ _ (by omega),wF,if_neg (J1 _ (IW p (by omega))),hgp]
   ·simp only[hl];exact⟨by simpa using hj,by simp⟩
  ·simp only[hb,cond_true]at ht;split at ht
   ·rename_i r;split at ht
    case h_2=>cases ht
    rename_i t l IV;split at ht
    case h_2=>cases ht
    rename_i cs1 h1 I1;simp only[Option.some.injEq,Prod.mk.injEq]at ht;obtain⟨rfl,rfl⟩:=ht;cases hs with
    | cons uY zX=>
    rename_i e es1;cases uY;have XV:=C0 r _ IV;have F8:g r=some ⟨.arr t l, .own⟩:=hg _ _ IV;obtain⟨ri,hρr,_,_⟩:=hh.rows r _ F8;obtain⟨k1,k2⟩:=hh.rename F8 hρr A4;have O9:r≠base+p:=by rintro rfl;exact FW XV
    have hl:SA ow base p (.sl t l :: es1)= .ow (base+p) :: SA ow base (p+1) es1:=by simp[SA,hb]
    refine go _ _ (zA h r none) cs1 es1 (.sl t l) I1 zX rfl k1 k2 (λq row hq=>?_) (λq hq=>⟨AA _ _ _ _ ?_,λhn=>?_⟩) (λq hn=>?_) (λq hq=>⟨?_,AA _ _ _ _ (by omega)⟩) (λq h1 _=>AA _ _ _ _ (by omega))
     (λq qi hq=>by rw[AA];exact hq;rintro rfl;rw[A4]at hq;cases hq) ⟨dM _ _,rfl⟩ (λρ' g' hk=>?_) ?_ (λq hq=>?_) (λj hj=>?_)
    ·by_cases fW:q=r
     ·subst fW;rw[RA]at hq;cases hq
     ·rw[AA _ _ _ _ fW]at hq;have:q≠base+p:=by rintro rfl;exact FW (C0 _ _ hq)
      rw[AA _ _ _ _ this,AA _ _ _ _ fW];exact hg _ _ hq
    ·rintro rfl;exact FW hq
    ·have d6:q≠base+p:=by rintro rfl;exact FW hq
     have fW:q≠r:=by rintro rfl;rw[IV]at hn;cases hn
     rw[AA _ _ _ _ d6,AA _ _ _ _ fW]
    ·by_cases fW:q=r
     ·subst fW;exact RA _ _ _
     ·rw[AA _ _ _ _ fW];exact hn
    ·rw[AA _ _ _ _ (by omega),AA];rintro rfl;exact XV ⟨by omega,by omega⟩
    ·simp only[hl];refine⟨by simp,?_⟩
     have:VR w (zA ρ (base+p) (some ri)) (sA outer (zA ρ (base+p) (some ri)) (zA (zA g r none) (base+p) (some ⟨.arr t l, .own⟩))) (u 0) (.ow (base+p)):=by
      rcases CZ.ow_inv hρr with⟨e1,e2,e3,e4⟩ | ⟨ao,e1,e2,e3⟩
      ·rw[e1];exact .ow _ ri (RA _ _ _) e3 e4 e2
      ·rw[e1];exact .owN _ ri ao (RA _ _ _) e3 e2
     exact hk _ _ this
    ·simp only[aB,hb,cond_true,RA]
    ·simp only[aB,hb,cond_true];rw[AA _ _ _ _ (by omega)]
    ·simp only[hl];exact⟨by simpa using hj,by simp⟩
   ·split at ht
    case h_2=>cases ht
    rename_i cs1 h1 I1;simp only[Option.some.injEq,Prod.mk.injEq]at ht;obtain⟨rfl,rfl⟩:=ht;have UZ:u 0= .slice none 0 0:=by generalize u 0=x at CZ;cases CZ;rfl
    cases hs with
    | cons uY zX=>
    rename_i e es1;cases uY with
    | refl=>
     have hl:SA ow base p (.nil :: es1)= .nil :: SA ow base (p+1) es1:=by simp[SA]
     have b6:∀q,aB ow base (λ_=>none) p (.nil :: es1) q=aB ow base (λ_=>none) (p+1) es1 q:=λq=>by simp[aB]
     refine go ρ g h cs1 es1 .nil I1 zX rfl hh (λ_ _ h=>h) hg (λr hr=>⟨rfl,λ_=>rfl⟩) (λ_ h=>h) (λq hq=>⟨rfl,rfl⟩) (λ_ _ _=>rfl) (λ_ _ h=>h) ⟨λ_=> .nil,rfl⟩ (λρ' g' hk=>?_) ?_ (λq hq=>b6 _) (λj hj=>?_)
     ·simp only[hl];exact⟨by simp,by rw[UZ];exact .nil⟩
     ·rw[b6,QC _ _ _ _ _ (by omega),hgp]
     ·simp only[hl];exact⟨by simpa using hj,by simp⟩
    | nil t=>
     have hl:SA ow base p (.sl t [] :: es1)= .ow (base+p) :: SA ow base (p+1) es1:=by simp[SA,hb]
     obtain⟨k1,k2⟩:=hh.empty t A4
     refine go _ _ h cs1 es1 (.sl t []) I1 zX rfl k1 k2 (λq row hq=>?_) (λq hq=>⟨AA _ _ _ _ ?_,λhn=>AA _ _ _ _ ?_⟩) (λ_ h=>h) (λq hq=>⟨AA _ _ _ _ (by omega),AA _ _ _ _ (by omega)⟩) (λq h1 _=>AA _ _ _ _ (by omega))
      (λq qi hq=>by rw[AA];exact hq;rintro rfl;rw[A4]at hq;cases hq) ⟨dM _ _,rfl⟩ (λρ' g' hk=>?_) ?_ (λq hq=>?_) (λj hj=>?_)
     ·rw[AA _ _ _ _ (by rintro rfl;exact FW (C0 _ _ hq))];exact hg _ _ hq
     ·rintro rfl;exact FW hq
     ·rintro rfl;exact FW hq
     ·simp only[hl];refine⟨by simp,hk _ _ ?_⟩;rw[UZ];exact .owN _ ⟨0,0,0,true⟩ none (RA _ _ _) rfl rfl
     ·simp only[aB,hb,cond_true,RA]
     ·simp only[aB,hb,cond_true];rw[AA _ _ _ _ (by omega)]
     ·simp only[hl];exact⟨by simpa using hj,by simp⟩
   ·rename_i r t0 len;split at ht
    case h_2=>cases ht
    rename_i t l IV;split at ht
    case h_2=>cases ht
    rename_i cs1 h1 hd I1;have hd:=of_decide_eq_true hd;subst hd;simp only[Option.some.injEq,Prod.mk.injEq]at ht;obtain⟨rfl,rfl⟩:=ht;cases hs with
    | cons uY zX=>
    rename_i e es1;cases uY;have XV:=C0 r _ IV;have F8:g r=some ⟨.arr t l, .own⟩:=hg _ _ IV;obtain⟨ri,k1,k2,k3⟩:=hh.cut F8 A4 CZ;have O9:r≠base+p:=by rintro rfl;exact FW XV
    have hl:SA ow base p (.sl t (l.take len) :: es1)= .ow (base+p) :: SA ow base (p+1) es1:=by simp[SA,hb]
    refine go _ _ (zA h r none) cs1 es1 (.sl t (l.take len)) I1 zX rfl k1 k2 (λq row hq=>?_) (λq hq=>⟨AA _ _ _ _ ?_,λhn=>?_⟩) (λq hn=>?_) (λq hq=>⟨?_,AA _ _ _ _ (by omega)⟩) (λq h1 _=>AA _ _ _ _ (by omega))
     (λq qi hq=>by rw[AA];exact hq;rintro rfl;rw[A4]at hq;cases hq) ⟨dM _ _,rfl⟩ (λρ' g' hk=>?_) ?_ (λq hq=>?_) (λj hj=>?_)
    ·by_cases fW:q=r
     ·subst fW;rw[RA]at hq;cases hq
     ·rw[AA _ _ _ _ fW]at hq;have:q≠base+p:=by rintro rfl;exact FW (C0 _ _ hq)
      rw[AA _ _ _ _ this,AA _ _ _ _ fW];exact hg _ _ hq
    ·rintro rfl;exact FW hq
    ·have d6:q≠base+p:=by rintro rfl;exact FW hq
     have fW:q≠r:=by rintro rfl;rw[IV]at hn;cases hn
     rw[AA _ _ _ _ d6,AA _ _ _ _ fW]
    ·by_cases fW:q=r
     ·subst fW;exact RA _ _ _
     ·rw[AA _ _ _ _ fW];exact hn
    ·rw[AA _ _ _ _ (by omega),AA];rintro rfl;exact XV ⟨by omega,by omega⟩
    ·simp only[hl];refine⟨by simp,?_⟩;exact hk _ _ k3
    ·simp only[aB,hb,cond_true,RA]
    ·simp only[aB,hb,cond_true];rw[AA _ _ _ _ (by omega)]
    ·simp only[hl];exact⟨by simpa using hj,by simp⟩
   ·cases ht
def kR{bad bad2:Nat→Prop}{ρ2:Nat→Option RI}(ow:List Nat)(B B2:Nat):∀(es:List V) (p:Nat) (u:Nat→Value),
  (∀q,p≤q→q<p+es.length→ow.any (Nat.beq q)=true→(∃t l,es[q - p]?=some (.sl t l))→ρ2 (B2+q)=ρ (B+q))→(∀j (hj:j<es.length),aD es[j])→(∀b,bad2 b→bad b)→
  (∀j (hj:j<(SA ow B p es).length),VR w ρ bad (u j) (SA ow B p es)[j])→∀j (hj:j<(SA ow B2 p es).length),VR w ρ2 bad2 (u j) (SA ow B2 p es)[j]
 | [],p,u,hρ,hc,hb,hv,j,hj=>by simp[SA]at hj
 | e :: es,p,u,hρ,hc,hb,hv,j,hj=>by
  have split1:∀(B:Nat),∃e',SA ow B p (e :: es)=e' :: SA ow B (p+1) es∧(e'=e∨e'= .ow (B+p))∧((∃t l,e= .sl t l∧ow.any (Nat.beq p)=true)→e'= .ow (B+p))∧
    ((¬∃t l,e= .sl t l∧ow.any (Nat.beq p)=true)→e'=e):=λB=>by
   cases e<;>simp only[SA]<;>try exact⟨_,rfl, .inl rfl,λ⟨_,_,h,_⟩=>(by cases h),λ_=>rfl⟩
   rename_i t l;cases hb:ow.any (Nat.beq p)
   ·exact⟨_,rfl, .inl rfl,λ⟨_,_,_,h⟩=>(by cases h),λ_=>rfl⟩
   ·exact⟨_,rfl, .inr rfl,λ_=>rfl,λh=>absurd ⟨t,l,rfl,rfl⟩ h⟩
  obtain⟨e1,s1,_,s2,s3⟩:=split1 B;obtain⟨e2,t1,_,t2,t3⟩:=split1 B2
  have ih:=kR ow B B2 es (p+1) (λj=>u (j+1)) (λq h1 h2 h3 h4=>hρ q (by omega) (by simp;omega) h3 (by
    obtain⟨t,l,h4⟩:=h4;exact⟨t,l,by rw[show q - p=(q - (p+1))+1 by omega,List.getElem?_cons_succ];exact h4⟩)) (λj hj=>hc (j+1) (by simp;omega)) hb
   (fun j hj=>by
    have:=hv (j+1) (by rw[s1];simp;omega);simpa[s1]using this)
  simp only[t1]at hj⊢;cases j with
  | succ j=>exact ih j (by simpa using hj)
  | zero=>
   have cX:=hv 0 (by rw[s1];simp);simp only[s1,List.getElem_cons_zero]at cX⊢
   by_cases hs:∃t l,e= .sl t l∧ow.any (Nat.beq p)=true
   ·rw[s2 hs]at cX;rw[t2 hs];have hq:=hρ p (Nat.le_refl _) (by simp) (by obtain⟨_,_,_,h⟩:=hs;exact h) (by obtain⟨t,l,h,_⟩:=hs;exact⟨t,l,by simp[h]⟩);generalize u 0=u0 at cX;cases cX with
    | ow _ ri h1 h2 h3 h4=>exact .ow _ ri (by rw[hq];exact h1) h2 h3 h4
    | owN _ ri ao h1 h2 h3=>exact .owN _ ri ao (by rw[hq];exact h1) h2 h3
   ·rw[s3 hs]at cX;rw[t3 hs];exact(cX.noRef (hc 0 (by simp)) ρ2).mono (λ_ _ h=>h) (λ_ _ _=>rfl) λb h=> .inl (hb b h)
def sB.reread(hh:sB w0 outer own ρ h w){r:Nat}{cs es:List V}{m:cH}(hr:h r=some ⟨.box cs,m⟩)(LV:es.length=cs.length)
  (hv:∀ri,ρ r=some ri→∀j (hj:j<es.length),VR w ρ (sA outer ρ h) ((w.cell? (at_ ri.b j)).getD undef) es[j]):
  sB w0 outer own ρ (zA h r (some ⟨.box es,m⟩)) w∧∀u d,VR w ρ (sA outer ρ h) u d→VR w ρ (sA outer ρ (zA h r (some ⟨.box es,m⟩))) u d:=by
 have jW:∀b,sA outer ρ (zA h r (some ⟨.box es,m⟩)) b→sA outer ρ h b:=λb hb=>hb.mono λq row' h1 h2=>by
  by_cases hq:q=r
  ·subst hq;rw[RA]at h1;cases h1;exact⟨_,hr,h2⟩
  ·rw[AA _ _ _ _ hq]at h1;exact⟨row',h1,h2⟩
 have hk:∀u d,VR w ρ (sA outer ρ h) u d→VR w ρ (sA outer ρ (zA h r (some ⟨.box es,m⟩))) u d:=λu d hu=>hu.mono (λ_ _ h=>h) (λ_ _ _=>rfl) λb hb=> .inl (jW b hb)
 have old:∀q row,zA h r (some ⟨.box es,m⟩) q=some row→∃row',h q=some row'∧(q=r∧row=⟨.box es,m⟩∨row=row'):=λq row hq=>by
  by_cases fW:q=r
  ·subst fW;rw[RA]at hq;cases hq;exact⟨_,hr, .inl ⟨rfl,rfl⟩⟩
  ·rw[AA _ _ _ _ fW]at hq;exact⟨row,hq, .inr rfl⟩
 refine⟨⟨hh.wx,hh.old,hh.outLt,λq row hq=>?_,λq q' row row' qi qi' h1 h2 h3 h4=>?_⟩,hk⟩
 ·obtain⟨row',h1,h2⟩:=old q row hq;obtain⟨ri,h3,h4,h5⟩:=hh.rows q row' h1
  have v9:ri.nl=false→(¬outer ri.b∧(row.m.isRo=false→w0.heap.size≤ri.b∨own ri.b))∧ri.b<w.heap.size:=by
   rcases h2 with⟨rfl,rfl⟩ | rfl
   ·rw[hr]at h1;cases h1;exact h5
   ·exact h5
  refine⟨ri,h3,?_,v9⟩
  rcases h2 with⟨rfl,rfl⟩ | rfl
  ·rw[hr]at h1;cases h1;refine⟨h4.1,λj hj=>?_⟩;obtain⟨f1,u,f2,_⟩:=h4.2 j (by omega);refine⟨f1,u,f2,?_⟩;have:=hv ri h3 j hj;rw[f2]at this;exact hk _ _ this
  ·exact h4.keep (λ_=>rfl) hk
 ·obtain⟨_,g1,_⟩:=old q row h1;obtain⟨_,g2,_⟩:=old q' row' h2;exact hh.inj q q' _ _ qi qi' g1 g2 h3 h4
end
end Go.D
namespace Go.D
variable [jA]
def BA:List nB→Nat→List V→Nat→Option tA
 | .plain :: ks,k,_ :: as=>BA ks (k+1) as
 | .ptr ow :: ks,k, .agg cs :: as=>zA (aB ow (128 *k) (BA ks (k+1) as) 0 cs) (128 *k+127) (some ⟨.box (SA ow (128 *k) 0 cs), .own⟩)
 | .mv ow :: ks,k, .agg cs :: as=>aB ow (128 *k) (BA ks (k+1) as) 0 cs
 | .ms :: ks,k,v :: as=>aB [0] (128 *k) (BA ks (k+1) as) 0 [v]
 | _,_,_=>λ_=>none
def tB:List nB→Nat→List V→List V
 | .plain :: ks,k,v :: as=>v :: tB ks (k+1) as
 | .ptr _ :: ks,k,_ :: as=> .bp (128 *k+127) 0 :: tB ks (k+1) as
 | .mv ow :: ks,k, .agg cs :: as=> .agg (SA ow (128 *k) 0 cs) :: tB ks (k+1) as
 | .ms :: ks,k,v :: as=>zdy (128 *k) v :: tB ks (k+1) as
 | _,_,_=>[]
def mB:List nB→Nat→List Nat→Nat→Option Nat
 | .plain :: ks,k,bs,q=>mB ks (k+1) bs q
 | .ptr _ :: ks,k,b :: bs,q=>if q=128 *k+127 then some b else mB ks (k+1) bs q
 | .mv _ :: ks,k,bs,q=>mB ks (k+1) bs q
 | .ms :: ks,k,bs,q=>mB ks (k+1) bs q
 | _,_,_,_=>none
omit [jA]in
def LE:∀(ks:List nB) (k:Nat) (bs:List Nat) (q b:Nat),mB ks k bs q=some b→128 *k+127≤q∧q % 128=127∧b∈bs
 | [],k,bs,q,b,h=>by simp[mB]at h
 | .plain :: ks,k,bs,q,b,h=>by
  simp only[mB]at h;obtain⟨h1,h2,h3⟩:=LE ks (k+1) bs q b h;exact⟨by omega,h2,h3⟩
 | .mv ow :: ks,k,bs,q,b,h=>by
  simp only[mB]at h;obtain⟨h1,h2,h3⟩:=LE ks (k+1) bs q b h;exact⟨by omega,h2,h3⟩
 | .ms :: ks,k,bs,q,b,h=>by
  simp only[mB]at h;obtain⟨h1,h2,h3⟩:=LE ks (k+1) bs q b h;exact⟨by omega,h2,h3⟩
 | .ptr ow :: ks,k,[],q,b,h=>by simp[mB]at h
 | .ptr ow :: ks,k,c :: bs,q,b,h=>by
  simp only[mB]at h;split at h
  ·cases h;exact⟨by omega,by omega,by simp⟩
  ·obtain⟨h1,h2,h3⟩:=LE ks (k+1) bs q b h;exact⟨by omega,h2,by simp[h3]⟩
omit [jA]in
def XR:∀(ks:List nB) (k:Nat) (bs:List Nat) (q q' b:Nat),bs.Nodup→mB ks k bs q=some b→mB ks k bs q'=some b→q=q'
 | [],k,bs,q,q',b,hn,h,h'=>by simp[mB]at h
 | .plain :: ks,k,bs,q,q',b,hn,h,h'=>XR ks (k+1) bs q q' b hn h h'
 | .mv ow :: ks,k,bs,q,q',b,hn,h,h'=>XR ks (k+1) bs q q' b hn h h'
 | .ms :: ks,k,bs,q,q',b,hn,h,h'=>XR ks (k+1) bs q q' b hn h h'
 | .ptr ow :: ks,k,[],q,q',b,hn,h,h'=>by simp[mB]at h
 | .ptr ow :: ks,k,c :: bs,q,q',b,hn,h,h'=>by
  simp only[mB]at h h';simp only[List.nodup_cons]at hn;split at h<;>split at h'
  ·omega
  ·cases h;exact absurd (LE _ _ _ _ _ h').2.2 hn.1
  ·cases h';exact absurd (LE _ _ _ _ _ h).2.2 hn.1
  ·exact XR ks (k+1) bs q q' b hn.2 h h'
omit [jA]in
def RU:∀(ks:List nB) (k:Nat) (bs:List Nat) (q b:Nat),mB ks k bs q=some b→q<128 *(k+ks.length)
 | [],k,bs,q,b,h=>by simp[mB]at h
 | .plain :: ks,k,bs,q,b,h=>by
  simp only[mB]at h;have:=RU ks (k+1) bs q b h;simp;omega
 | .mv ow :: ks,k,bs,q,b,h=>by
  simp only[mB]at h;have:=RU ks (k+1) bs q b h;simp;omega
 | .ms :: ks,k,bs,q,b,h=>by
  simp only[mB]at h;have:=RU ks (k+1) bs q b h;simp;omega
 | .ptr ow :: ks,k,[],q,b,h=>by simp[mB]at h
 | .ptr ow :: ks,k,c :: bs,q,b,h=>by
  simp only[mB]at h;split at h
  ·simp;omega
  ·have:=RU ks (k+1) bs q b h;simp;omega
omit [jA]in
def fR(ow:List Nat)(B B2:Nat):∀(es:List V) (p q:Nat),aB ow B (λ_=>none) p es (B+q)=aB ow B2 (λ_=>none) p es (B2+q)
 | [],p,q=>rfl
 | e :: es,p,q=>by
  have ih:=fR ow B B2 es (p+1) q;cases e<;>simp only[aB]<;>try exact ih
  cases hb:ow.any (Nat.beq p)
  ·simpa using ih
  ·simp only[cond_true]
   by_cases hq:q=p
   ·subst hq;rw[RA,RA]
   ·rw[AA _ _ _ _ (by omega),AA _ _ _ _ (by omega)];exact ih
omit [jA]in
def PD(ow:List Nat)(B:Nat):∀(es:List V) (p r:Nat) (row:tA),aB ow B (λ_=>none) p es r=some row→∃t l,row=⟨.arr t l, .own⟩∧B+p≤r∧r<B+p+es.length
 | [],p,r,row,h=>by simp[aB]at h
 | e :: es,p,r,row,h=>by
  have ih:=PD ow B es (p+1) r row
  have nx:aB ow B (λ_=>none) (p+1) es r=some row→∃t l,row=⟨.arr t l, .own⟩∧B+p≤r∧r<B+p+(e :: es).length:=λh=>by
   obtain⟨t,l,h1,h2,h3⟩:=ih h;exact⟨t,l,h1,by omega,by simp;omega⟩
  cases e<;>simp only[aB]at h<;>try exact nx h
  cases hb:ow.any (Nat.beq p)
  ·simp only[hb,cond_false]at h;exact nx h
  ·simp only[hb,cond_true]at h
   by_cases hr:r=B+p
   ·subst hr;rw[RA]at h;cases h;exact⟨_,_,rfl,Nat.le_refl _,by simp⟩
   ·rw[AA _ _ _ _ hr]at h;exact nx h
omit [jA]in
def zbE(ow:List Nat)(B:Nat):∀(es:List V) (p q:Nat) (t:TN) (l:List (El t)),p≤q→es[q - p]?=some (.sl t l)→ow.any (Nat.beq q)=true→aB ow B (λ_=>none) p es (B+q)=some ⟨.arr t l, .own⟩
 | [],p,q,t,l,hp,he,ho=>by simp at he
 | e :: es,p,q,t,l,hp,he,ho=>by
  by_cases hq:q=p
  ·subst hq;simp at he;subst he;simp only[aB,ho,cond_true,RA]
  ·have ih:=zbE ow B es (p+1) q t l (by omega) (by rw[show q - p=(q - (p+1))+1 by omega,List.getElem?_cons_succ]at he;exact he) ho;cases e<;>simp only[aB]<;>try exact ih
   cases hb:ow.any (Nat.beq p)
   ·simpa using ih
   ·simp only[cond_true];rw[AA _ _ _ _ (by omega)];exact ih
section
variable {C:Cx} {w0:World} {outer own:Nat→Prop} {ρ:Nat→Option RI} {st st':St} {a:Act} {w:World} {h:Nat→Option tA}
inductive IF(w:World)(ρ:Nat→Option RI)(bad:Nat→Prop)(g:Nat→Option tA)(N0:Nat):List nB→Nat→List V→List Nat→(Nat→Value)→Prop
 | nil (k:Nat) (u:Nat→Value):IF w ρ bad g N0 [] k [] [] u
 | plain {ks:List nB} {k:Nat} {v:V} {as:List V} {bs:List Nat} {u:Nat→Value} (hv:VR w ρ bad (u 0) v) (hn:aD v) (hr:IF w ρ bad g N0 ks (k+1) as bs λj=>u (j+1)):
   IF w ρ bad g N0 (.plain :: ks) k (v :: as) bs u
 | ptr {ow:List Nat} {ks:List nB} {k b:Nat} {cs as:List V} {bs:List Nat} {u:Nat→Value} (ri:RI) (hρ:ρ b=some ri) (eW:ri.nl=false) (hu:u 0= .pointer (some (at_ ri.b 0)))
   (hg:g b=some ⟨.box (SA ow (N0+128 *k) 0 cs), .own⟩) (hl:cs.length≤127) (hq:∀q,q<128→g (N0+128 *k+q)=aB ow (N0+128 *k) (λ_=>none) 0 cs (N0+128 *k+q))
   (hc:∀j (hj:j<cs.length),aD cs[j]∧(cs[j]).leaf=true) (hb:b<N0) (hr:IF w ρ bad g N0 ks (k+1) as bs λj=>u (j+1)):
   IF w ρ bad g N0 (.ptr ow :: ks) k (.agg cs :: as) (b :: bs) u
 | mv {ow:List Nat} {ks:List nB} {k:Nat} {cs as:List V} {bs:List Nat} {u:Nat→Value} (hv:VR w ρ bad (u 0) (.agg (SA ow (N0+128 *k) 0 cs)))
   (hl:cs.length≤127) (hq:∀q,q<128→g (N0+128 *k+q)=aB ow (N0+128 *k) (λ_=>none) 0 cs (N0+128 *k+q))
   (hc:∀j (hj:j<cs.length),aD cs[j]∧(cs[j]).leaf=true) (hr:IF w ρ bad g N0 ks (k+1) as bs λj=>u (j+1)):
   IF w ρ bad g N0 (.mv ow :: ks) k (.agg cs :: as) bs u
 | ms {ks:List nB} {k:Nat} {v:V} {as:List V} {bs:List Nat} {u:Nat→Value} (hv:VR w ρ bad (u 0) (zdy (N0+128 *k) v))
   (hq:∀q,q<128→g (N0+128 *k+q)=aB [0] (N0+128 *k) (λ_=>none) 0 [v] (N0+128 *k+q))
   (hc:aD v∧v.leaf=true) (hr:IF w ρ bad g N0 ks (k+1) as bs λj=>u (j+1)):
   IF w ρ bad g N0 (.ms :: ks) k (v :: as) bs u
omit [jA]in
def SB.rfl':∀(cs:List V),SB cs cs
 | []=> .nil
 | c :: cs=> .cons (.refl c) (SB.rfl' cs)
omit [jA]in
def zeu{ow:List Nat}{ks:List nB}{v:V}{vs:List V}{x:List V×(Nat→Option tA)×List Nat}(ht:dC (.ptr ow :: ks) (v :: vs) h=some x):∃r,v= .bp r 0:=by
 unfold dC at ht;split at ht
 ·simp_all
 ·simp_all
 ·rename_i e1 e2;simp only[List.cons.injEq]at e2;exact⟨_,e2.1⟩
 ·simp_all
 ·simp_all
 ·cases ht
omit [jA]in
def zeI{ow:List Nat}{ks:List nB}{v:V}{vs:List V}{x:List V×(Nat→Option tA)×List Nat}(ht:dC (.mv ow :: ks) (v :: vs) h=some x):∃cs,v= .agg cs:=by
 unfold dC at ht;split at ht
 ·simp_all
 ·simp_all
 ·simp_all
 ·rename_i e1 e2;simp only[List.cons.injEq]at e2;exact⟨_,e2.1⟩
 ·simp_all
 ·cases ht
def LU(N0:Nat):∀(ks:List nB) (as:List V) (h h':Nat→Option tA) (as':List V) (bs:List Nat) (k:Nat) (ρ:Nat→Option RI) (g:Nat→Option tA) (u:Nat→Value),
  dC ks as h=some (as',h',bs)→sB w0 outer own ρ g w→(∀j (hj:j<as.length),VR w ρ (sA outer ρ g) (u j) as[j])→aH h g→(∀r,N0+128 *k≤r→ρ r=none)→(∀r,N0≤r→h r=none)→
  ∃ρ' g',sB w0 outer own ρ' g' w∧aH h' g'∧(∀r,h r=none→h' r=none)∧(∀r,h r=none→r<N0+128 *k→g' r=g r)∧(∀r ri,ρ r=some ri→ρ' r=some ri)∧
   (∀v d,VR w ρ (sA outer ρ g) v d→VR w ρ' (sA outer ρ' g') v d)∧IF w ρ' (sA outer ρ' g') g' N0 ks k as' bs u∧
   (∀b∈bs,h' b=none∧h b≠none)∧bs.Nodup∧as.length=ks.length∧(∀r,r<N0→ρ' r=ρ r)
 | [],[],h,h',as',bs,k,ρ,g,u,ht,hh,hv,hg,hf,hN=>by
  simp only[dC,Option.some.injEq,Prod.mk.injEq]at ht;obtain⟨rfl,rfl,rfl⟩:=ht;exact⟨ρ,g,hh,hg,λ_ h=>h,λ_ _ _=>rfl,λ_ _ h=>h,λ_ _ h=>h, .nil _ _,λb hb=>by simp at hb,by simp,rfl,λ_ _=>rfl⟩
 | [],_ :: _,h,h',as',bs,k,ρ,g,u,ht,hh,hv,hg,hf,hN=>by simp[dC]at ht
 | .plain :: ks,[],h,h',as',bs,k,ρ,g,u,ht,hh,hv,hg,hf,hN=>by simp[dC]at ht
 | .ptr _ :: ks,[],h,h',as',bs,k,ρ,g,u,ht,hh,hv,hg,hf,hN=>by simp[dC]at ht
 | .mv _ :: ks,[],h,h',as',bs,k,ρ,g,u,ht,hh,hv,hg,hf,hN=>by simp[dC]at ht
 | .ms :: ks,[],h,h',as',bs,k,ρ,g,u,ht,hh,hv,hg,hf,hN=>by simp[dC]at ht
 | .plain :: ks,v :: vs,h,h',as',bs,k,ρ,g,u,ht,hh,hv,hg,hf,hN=>by
  simp only[dC]at ht;split at ht
  ·cases ht
  rename_i v' ids lZ;split at ht
  ·cases ht
  rename_i as2 h2 bs2 B4;simp only[Option.some.injEq,Prod.mk.injEq]at ht;obtain⟨rfl,rfl,rfl⟩:=ht;obtain⟨k1,k2⟩:=zku hg lZ;have k2:∀r∈ids,∃row,h r=some row:=k2;obtain⟨m1,m2⟩:=hh.mark ids;obtain⟨f1,f2⟩:=zge hh (hv 0 (by simp)) k1;have J1:∀r,h r=none→r∉ids:=λr hn hm=>by obtain⟨row,h5⟩:=k2 r hm;rw[hn]at h5;cases h5
  have G8:∀r,h r=none→yC h ids r=none:=λr hn=>by rw[wF,if_neg (J1 r hn)];exact hn
  obtain⟨ρ',g',c1,c2,c3,c4,c5,c6,c7,c8,c9,c10,c11⟩:=LU N0 ks vs (yC h ids) h2 as2 bs2 (k+1) ρ (yC g ids) (λj=>u (j+1)) B4 m1
   (λj hj=>m2 _ _ (hv (j+1) (by simp;omega))) (ze9 hg ids) (λr hr=>hf r (by omega)) (λr hr=>G8 r (hN r hr))
  refine⟨ρ',g',c1,c2,λr hr=>c3 r (G8 r hr),λr hr hk=>?_,c5,λv d hd=>c6 _ _ (m2 _ _ hd), .plain (c6 _ _ f1) f2 c7,λb hb=>?_,c9,by simp[c10],c11⟩
  ·rw[c4 r (G8 r hr) (by omega),wF,if_neg (J1 r hr)]
  ·obtain⟨d1,d2⟩:=c8 b hb;exact⟨d1,λhn=>d2 (G8 b hn)⟩
 | .ptr ow :: ks,v :: vs,h,h',as',bs,k,ρ,g,u,ht,hh,hv,hg,hf,hN=>by
  obtain⟨r,rfl⟩:=zeu ht;simp only[dC]at ht;split at ht
  case h_2=>cases ht
  rename_i cs IV;cases sW:Nat.ble cs.length 127
  case false=>simp[sW]at ht
  simp only[sW,cond_true]at ht;have sW:=Nat.le_of_ble_eq_true sW;split at ht
  ·cases ht
  rename_i cs' h1 D0;split at ht
  ·cases ht
  rename_i as2 h2 bs2 B4;simp only[Option.some.injEq,Prod.mk.injEq]at ht;obtain⟨rfl,rfl,rfl⟩:=ht
  have hrN:r<N0:=by
   rcases Nat.lt_or_ge r N0 with h3 | h3
   ·exact h3
   ·rw[hN r h3]at IV;cases IV
  have hgr:=hg _ _ IV;have cX:=hv 0 (by simp);simp only[List.getElem_cons_zero]at cX;obtain⟨ri,hρ,XV,_⟩:=hh.rows r _ hgr
  have UZ:u 0= .pointer (some (at_ ri.b 0))∧ri.nl=false:=by
   generalize u 0=x at cX;cases cX with
   | bp _ _ ri' h3 h4=>rw[hρ]at h3;cases h3;exact⟨rfl,h4⟩
  have bW:∀q,h q=none→zA h r none q=none:=λq hq=>by
   by_cases fW:q=r
   ·subst fW;exact RA _ _ _
   ·rw[AA _ _ _ _ fW];exact hq
  obtain⟨ρ1,g1,T,LV⟩:=PR ow (N0+128 *k) 128 cs 0 (zA h r none) h1 cs' cs' ρ g (λj=>(w.cell? (at_ ri.b j)).getD undef) D0 (SB.rfl' _) (by omega) hh
   (λj hj=>by obtain⟨_,x,f1,f2⟩:=XV.2 j hj;rw[f1];exact f2)
   (fun q row hq=>by
    by_cases fW:q=r
    ·subst fW;rw[RA]at hq;cases hq
    ·rw[AA _ _ _ _ fW]at hq;exact hg _ _ hq)
   (λq hq=>bW _ (hN _ (by omega))) (λq _ _=>hf _ (by omega))
  have m6:Out (N0+128 *k) 128 r:=λh3=>by omega
  have P9:g1 r=some ⟨.box cs, .own⟩:=by rw[(T.out r m6).2 (RA _ _ _)];exact hgr
  have hρ1:ρ1 r=some ri:=T.ext _ _ hρ;obtain⟨n1,n2⟩:=T.heap.reread P9 (es:=SA ow (N0+128 *k) 0 cs') (by rw[wE];exact LV) (λri' h3 j hj=>by rw[hρ1]at h3;cases h3;exact T.vals j hj);have z2:h1 r=none:=T.less r (RA _ _ _)
  obtain⟨ρ',g',c1,c2,c3,c4,c5,c6,c7,c8,c9,c10,c11⟩:=LU N0 ks vs h1 h2 as2 bs2 (k+1) ρ1 _ (λj=>u (j+1)) B4 n1
   (λj hj=>n2 _ _ (T.keep _ _ (hv (j+1) (by simp;omega))))
   (fun q row hq=>by
    have fW:q≠r:=by rintro rfl;rw[z2]at hq;cases hq
    rw[AA _ _ _ _ fW];exact T.lies _ _ hq)
   (λq hq=>by rw[(T.out q (λh3=>by omega)).1];exact hf q (by omega)) (λq hq=>T.less q (bW q (hN q hq)))
  have jX:∀q,h q=none→q<N0+128 *k→Out (N0+128 *k) 128 q:=λq _ h3 h4=>by omega
  refine⟨ρ',g',c1,c2,λq hq=>c3 q (T.less q (bW q hq)),λq hq hk=>?_,λq qi hq=>c5 _ _ (T.ext _ _ hq),λv d hd=>c6 _ _ (n2 _ _ (T.keep _ _ hd)),
   .ptr ri (c5 _ _ hρ1) UZ.2 UZ.1 ?_ (by omega) (λq hq=>?_) T.closed hrN c7,λb hb=>?_,?_,by simp[c10],λq hq=>?_⟩
  ·have fW:q≠r:=by rintro rfl;rw[IV]at hq;cases hq
   rw[c4 q (T.less q (bW q hq)) (by omega),AA _ _ _ _ fW,(T.out q (jX q hq hk)).2 (bW q hq)]
  ·rw[c4 r z2 (by omega),RA]
  ·rw[c4 _ (T.less _ (bW _ (hN _ (by omega)))) (by omega),AA _ _ _ _ (by omega),T.new q (by omega) hq]
  ·rcases List.mem_cons.1 hb with rfl | hb
   ·exact⟨c3 _ z2,by rw[IV];simp⟩
   ·obtain⟨d1,d2⟩:=c8 b hb;exact⟨d1,λhn=>d2 (T.less b (bW b hn))⟩
  ·refine List.nodup_cons.2 ⟨λhm=>(c8 r hm).2 z2,c9⟩
  ·rw[c11 q hq,(T.out q (λh3=>by omega)).1]
 | .mv ow :: ks,v :: vs,h,h',as',bs,k,ρ,g,u,ht,hh,hv,hg,hf,hN=>by
  obtain⟨cs,rfl⟩:=zeI ht;simp only[dC]at ht;cases sW:Nat.ble cs.length 127
  case false=>simp[sW]at ht
  simp only[sW,cond_true]at ht;have sW:=Nat.le_of_ble_eq_true sW;split at ht
  ·cases ht
  rename_i cs' h1 D0;split at ht
  ·cases ht
  rename_i as2 h2 bs2 B4;simp only[Option.some.injEq,Prod.mk.injEq]at ht;obtain⟨rfl,rfl,rfl⟩:=ht;have cX:=hv 0 (by simp);simp only[List.getElem_cons_zero]at cX
  obtain⟨vsA,UZ,YV,hcv⟩:∃vsA:Array Value,u 0= .agg vsA∧vsA.size=cs.length∧∀j (hj:j<cs.length),VR w ρ (sA outer ρ g) (vsA.getD j undef) cs[j]:=by
   generalize u 0=x at cX;cases cX with
   | agg _ vsA h1 h2=>exact⟨vsA,rfl,h1,h2⟩
  obtain⟨ρ1,g1,T,LV⟩:=PR ow (N0+128 *k) 128 cs 0 h h1 cs' cs' ρ g (λj=>vsA.getD j undef) D0 (SB.rfl' _) (by omega) hh hcv hg
   (λq hq=>hN _ (by omega)) (λq _ _=>hf _ (by omega))
  obtain⟨ρ',g',c1,c2,c3,c4,c5,c6,c7,c8,c9,c10,c11⟩:=LU N0 ks vs h1 h2 as2 bs2 (k+1) ρ1 g1 (λj=>u (j+1)) B4 T.heap
   (λj hj=>T.keep _ _ (hv (j+1) (by simp;omega))) T.lies
   (λq hq=>by rw[(T.out q (λh3=>by omega)).1];exact hf q (by omega)) (λq hq=>T.less q (hN q hq))
  have jX:∀q,h q=none→q<N0+128 *k→Out (N0+128 *k) 128 q:=λq _ h3 h4=>by omega
  refine⟨ρ',g',c1,c2,λq hq=>c3 q (T.less q hq),λq hq hk=>?_,λq qi hq=>c5 _ _ (T.ext _ _ hq),λv d hd=>c6 _ _ (T.keep _ _ hd),
   .mv ?_ (by omega) (λq hq=>?_) T.closed c7,λb hb=>?_,c9,by simp[c10],λq hq=>?_⟩
  ·rw[c4 q (T.less q hq) (by omega),(T.out q (jX q hq hk)).2 hq]
  ·rw[UZ];refine .agg _ _ (by rw[wE,YV,LV]) λj hj=>?_;exact c6 _ _ (T.vals j hj)
  ·rw[c4 _ (T.less _ (hN _ (by omega))) (by omega),T.new q (by omega) hq]
  ·obtain⟨d1,d2⟩:=c8 b hb;exact⟨d1,λhn=>d2 (T.less b hn)⟩
  ·rw[c11 q hq,(T.out q (λh3=>by omega)).1]
 | .ms :: ks,v :: vs,h,h',as',bs,k,ρ,g,u,ht,hh,hv,hg,hf,hN=>by
  simp only[dC]at ht;split at ht
  case h_2=>cases ht
  rename_i v' h1 D0;split at ht
  ·cases ht
  rename_i as2 h2 bs2 B4;simp only[Option.some.injEq,Prod.mk.injEq]at ht;obtain⟨rfl,rfl,rfl⟩:=ht;have cX:=hv 0 (by simp);simp only[List.getElem_cons_zero]at cX
  obtain⟨ρ1,g1,T,LV⟩:=PR [0] (N0+128 *k) 128 [v] 0 h h1 [v'] [v'] ρ g u D0 (SB.rfl' _) (by simp) hh (λj hj=>by
    obtain rfl:j=0:=by simpa using hj
    exact cX) hg
   (λq hq=>hN _ (by omega)) (λq _ _=>hf _ (by omega))
  obtain⟨ρ',g',c1,c2,c3,c4,c5,c6,c7,c8,c9,c10,c11⟩:=LU N0 ks vs h1 h2 as2 bs2 (k+1) ρ1 g1 (λj=>u (j+1)) B4 T.heap
   (λj hj=>T.keep _ _ (hv (j+1) (by simp;omega))) T.lies
   (λq hq=>by rw[(T.out q (λh3=>by omega)).1];exact hf q (by omega)) (λq hq=>T.less q (hN q hq))
  have jX:∀q,h q=none→q<N0+128 *k→Out (N0+128 *k) 128 q:=λq _ h3 h4=>by omega
  refine⟨ρ',g',c1,c2,λq hq=>c3 q (T.less q hq),λq hq hk=>?_,λq qi hq=>c5 _ _ (T.ext _ _ hq),λv d hd=>c6 _ _ (T.keep _ _ hd),
   .ms ?_ (λq hq=>?_) (T.closed 0 (by simp)) c7,λb hb=>?_,c9,by simp[c10],λq hq=>?_⟩
  ·rw[c4 q (T.less q hq) (by omega),(T.out q (jX q hq hk)).2 hq]
  ·have:=T.vals 0 (by rw[wE];simp);simp only[IU,List.getElem_cons_zero]at this;exact c6 _ _ this
  ·rw[c4 _ (T.less _ (hN _ (by omega))) (by omega),T.new q (by omega) hq]
  ·obtain⟨d1,d2⟩:=c8 b hb;exact⟨d1,λhn=>d2 (T.less b hn)⟩
  ·rw[c11 q hq,(T.out q (λh3=>by omega)).1]
end
end Go.D
namespace Go.D
variable [jA]
def zwv(P:Program)(f:Nat)(args:Array Value)(w:World)(post:Value→World→Prop):Prop:=
 ((callFunc f args).run P w= .ok (.enter f args) w∧Calls P f args w λe w'=>∃v,e= .returned v∧post v w')∨
 ∃v w',(callFunc f args).run P w= .ok (.value v) w'∧post v w'
def gF(ks:List nB)(as:List V)(bs:List Nat)(ow:List Nat)(base:Nat)(shape:List (Bool×Nat))(rs:List V):Nat→Option tA:=
 yB ks as bs ((SA ow base 0 rs).drop (QK shape)) (aB ow base (λ_=>none) 0 rs)
def nE(ci:eB)(as:List V)(bs:List Nat)(base:Nat)(rs:List V):Nat→Option tA:=
 bif ci.pb then zA (λ_=>none) base (some ⟨.box rs, .own⟩)else gF ci.ks as bs ci.own base ci.shape rs
def xB(P:Program)(f:Nat)(ci:eB)(g:Gl:=oL):Prop:=
 ∀(w:World) (args:Array Value) (as:List V) (outer own:Nat→Prop) (ρ:Nat→Option RI) (a:ci.A) (r:ci.R) (base:Nat) (bs:List Nat),
  args.size=ci.ks.length→(tB ci.ks 0 as).length=ci.ks.length→sB w outer own ρ (BA ci.ks 0 as) w→
  (∀j (hj:j<(tB ci.ks 0 as).length),VR w ρ (sA outer ρ (BA ci.ks 0 as)) (args.getD j undef) (tB ci.ks 0 as)[j])→(∀q,BA ci.ks 0 as q=none→ρ q=none)→
  bs.Nodup→(∀b∈bs,Out base 128 b)→ci.dA as=some a→ci.F a=some r→(ci.eR r).length≤128→zm0 g own w→
  zwv P f args w λv w'=>∃ρ',sB w outer own ρ' (nE ci as bs base (ci.eR r)) w'∧
   VR w' ρ' (sA outer ρ' (nE ci as bs base (ci.eR r))) v (fJ ci base (ci.eR r))∧
   (∀q b,mB ci.ks 0 bs q=some b→ρ' b=ρ q)∧(∀r,ρ' r≠none→(base≤r∧r<base+128)∨r∈bs)
omit [jA]in
def Calls.mono'{P:Program}{f:Nat}{args:Array Value}{w:World}{R R':Ending→World→Prop}(h:Calls P f args w R)(hr:∀e w',R e w'→R' e w'):Calls P f args w R':=
 λcs=>let ⟨e,w',fr,h1,h2⟩:=h cs;⟨e,w',fr,hr _ _ h1,h2⟩
omit [jA]in
def xK:∀(ks:List nB) (as:List V) (bs:List Nat) (vs:List V) (h:Nat→Option tA) (r:Nat),
  yB ks as bs vs h r=match yB ks as bs vs (λ_=>none) r with | some x=>some x | none=>h r
 | [],as,bs,vs,h,r=>by cases as<;>rfl
 | .plain :: ks,[],bs,vs,h,r=>rfl
 | .plain :: ks,a :: as,bs,vs,h,r=>by simp only[yB];exact xK ks as bs vs h r
 | .mv ow :: ks,[],bs,vs,h,r=>rfl
 | .mv ow :: ks,a :: as,bs,vs,h,r=>by simp only[yB];exact xK ks as bs vs h r
 | .ms :: ks,[],bs,vs,h,r=>rfl
 | .ms :: ks,a :: as,bs,vs,h,r=>by simp only[yB];exact xK ks as bs vs h r
 | .ptr ow :: ks,[],bs,vs,h,r=>rfl
 | .ptr ow :: ks,a :: as,[],vs,h,r=>by cases a<;>rfl
 | .ptr ow :: ks,a :: as,b :: bs,vs,h,r=>by
  cases a<;>try rfl
  simp only[yB]
  by_cases hr:r=b
  ·subst hr;simp[RA]
  ·rw[AA _ _ _ _ hr,AA _ _ _ _ hr];exact xK ks as bs _ h r
omit [jA]in
def bU:∀(ks:List nB) (as:List V) (bs:List Nat) (vs:List V) (r:Nat) (row:tA),yB ks as bs vs (λ_=>none) r=some row→r∈bs
 | [],as,bs,vs,r,row,h=>by cases as<;>simp[yB]at h
 | .plain :: ks,[],bs,vs,r,row,h=>by simp[yB]at h
 | .plain :: ks,a :: as,bs,vs,r,row,h=>by simp only[yB]at h;exact bU ks as bs vs r row h
 | .mv ow :: ks,[],bs,vs,r,row,h=>by simp[yB]at h
 | .mv ow :: ks,a :: as,bs,vs,r,row,h=>by simp only[yB]at h;exact bU ks as bs vs r row h
 | .ms :: ks,[],bs,vs,r,row,h=>by simp[yB]at h
 | .ms :: ks,a :: as,bs,vs,r,row,h=>by simp only[yB]at h;exact bU ks as bs vs r row h
 | .ptr ow :: ks,[],bs,vs,r,row,h=>by simp[yB]at h
 | .ptr ow :: ks,a :: as,[],vs,r,row,h=>by cases a<;>simp[yB]at h
 | .ptr ow :: ks,a :: as,b :: bs,vs,r,row,h=>by
  cases a<;>try (simp[yB]at h;done)
  simp only[yB]at h
  by_cases hr:r=b
  ·subst hr;simp
  ·rw[AA _ _ _ _ hr]at h;exact List.mem_cons_of_mem _ (bU ks as bs _ r row h)
omit [jA]in
def zvr{ks:List nB}{as:List V}{bs ow:List Nat}{base:Nat}{shape:List (Bool×Nat)}{rs:List V}{r:Nat}{row:tA}(hl:rs.length≤128)
  (h:gF ks as bs ow base shape rs r=some row):r∈bs∨(base≤r∧r<base+128):=by
 unfold gF at h;rw[xK]at h;split at h
 ·rename_i x hx;exact .inl (bU _ _ _ _ _ _ hx)
 ·obtain⟨_,_,_,h1,h2⟩:=PD _ _ _ _ _ _ h
  grind
omit [jA]in
def UT:∀(ks:List nB) (as:List V) (bs:List Nat) (vs:List V) (r:Nat) (row:tA),yB ks as bs vs (λ_=>none) r=some row→row.m= .own
 | [],as,bs,vs,r,row,h=>by cases as<;>simp[yB]at h
 | .plain :: ks,[],bs,vs,r,row,h=>by simp[yB]at h
 | .plain :: ks,a :: as,bs,vs,r,row,h=>by simp only[yB]at h;exact UT ks as bs vs r row h
 | .mv ow :: ks,[],bs,vs,r,row,h=>by simp[yB]at h
 | .mv ow :: ks,a :: as,bs,vs,r,row,h=>by simp only[yB]at h;exact UT ks as bs vs r row h
 | .ms :: ks,[],bs,vs,r,row,h=>by simp[yB]at h
 | .ms :: ks,a :: as,bs,vs,r,row,h=>by simp only[yB]at h;exact UT ks as bs vs r row h
 | .ptr ow :: ks,[],bs,vs,r,row,h=>by simp[yB]at h
 | .ptr ow :: ks,a :: as,[],vs,r,row,h=>by cases a<;>simp[yB]at h
 | .ptr ow :: ks,a :: as,b :: bs,vs,r,row,h=>by
  cases a<;>try (simp[yB]at h;done)
  simp only[yB]at h
  by_cases hr:r=b
  ·subst hr;rw[RA]at h;cases h;rfl
  ·rw[AA _ _ _ _ hr]at h;exact UT ks as bs _ r row h
omit [jA]in
def zuz{ks:List nB}{as:List V}{bs ow:List Nat}{base:Nat}{shape:List (Bool×Nat)}{rs:List V}{r:Nat}{row:tA}(hl:rs.length≤128)
  (h:gF ks as bs ow base shape rs r=some row):row.m= .own:=by
 unfold gF at h;rw[xK]at h;split at h
 ·rename_i x hx;cases h;exact UT _ _ _ _ _ _ hx
 ·obtain⟨_,_,h0,_,_⟩:=PD _ _ _ _ _ _ h;rw[h0]
omit [jA]in
def zwf(ks:List nB)(as:List V)(bs ow:List Nat)(base:Nat)(shape:List (Bool×Nat))(rs:List V)(h:Nat→Option tA)(r:Nat):
  yB ks as bs ((SA ow base 0 rs).drop (QK shape)) (aB ow base h 0 rs) r=match gF ks as bs ow base shape rs r with | some x=>some x | none=>h r:=by
 unfold gF;rw[xK ks as bs _ (aB ow base h 0 rs),xK ks as bs _ (aB ow base (λ_=>none) 0 rs),AB ow base h];cases yB ks as bs ((SA ow base 0 rs).drop (QK shape)) (λ_=>none) r<;>rfl
omit [jA]in
def zlo{ci:eB}{as:List V}{bs:List Nat}{base:Nat}{rs:List V}{r:Nat}{row:tA}(hl:rs.length≤128)(h:nE ci as bs base rs r=some row):r∈bs∨(base≤r∧r<base+128):=by
 unfold nE at h;cases hp:ci.pb
 ·rw[hp]at h;exact zvr hl h
 ·rw[hp]at h;simp only[cond_true]at h
  by_cases hr:r=base
  ·grind
  ·rw[AA _ _ _ _ hr]at h;cases h
omit [jA]in
def zfJ{ci:eB}{as:List V}{bs:List Nat}{base:Nat}{rs:List V}{r:Nat}{row:tA}(hl:rs.length≤128)(h:nE ci as bs base rs r=some row):row.m= .own:=by
 unfold nE at h;cases hp:ci.pb
 ·rw[hp]at h;exact zuz hl h
 ·rw[hp]at h;simp only[cond_true]at h
  by_cases hr:r=base
  ·subst hr;rw[RA]at h;cases h;rfl
  ·rw[AA _ _ _ _ hr]at h;cases h
omit [jA]in
def kO(ci:eB)(as:List V)(bs:List Nat)(base:Nat)(rs:List V)(h:Nat→Option tA)(r:Nat):
  eH ci as bs base rs h r=match nE ci as bs base rs r with | some x=>some x | none=>h r:=by
 unfold nE eH;cases hp:ci.pb
 ·exact zwf _ _ _ _ _ _ _ _ _
 ·simp only[cond_true]
  by_cases hr:r=base
  ·subst hr;rw[RA,RA]
  ·rw[AA _ _ _ _ hr,AA _ _ _ _ hr]
def GF(h' h:Nat→Option tA):Prop:=∀r row',h' r=some row'→∃row,h r=some row∧row.c=row'.c∧(row'.m.isRo=false→row.m.isRo=false)
omit [jA]in
def GF.refl(h:Nat→Option tA):GF h h:=λ_ row' h=>⟨row',h,rfl,id⟩
omit [jA]in
def GF.trans{a b c:Nat→Option tA}(h:GF a b)(k:GF b c):GF a c:=λr row' hr=>by
 obtain⟨row,h1,h2,h3⟩:=h r row' hr;obtain⟨row2,k1,k2,k3⟩:=k r row h1
 grind
omit [jA]in
def JU(h:Nat→Option tA)(r:Nat):GF (zA h r none) h:=λq row' hq=>by
 by_cases fW:q=r
 ·subst fW;rw[RA]at hq;cases hq
 ·rw[AA _ _ _ _ fW]at hq;exact⟨row',hq,rfl,id⟩
omit [jA]in
def sJ(ow:List Nat):∀(cs:List V) (p:Nat) (h:Nat→Option tA) (x:List V×(Nat→Option tA)),OD ow p cs h=some x→GF x.2 h
 | [],p,h,x,ht=>by simp[OD]at ht;subst ht;exact GF.refl h
 | c :: cs,p,h,x,ht=>by
  simp only[OD]at ht;cases hb:ow.any (Nat.beq p)
  ·simp only[hb,cond_false]at ht;split at ht
   case h_2=>cases ht
   split at ht
   case h_2=>cases ht
   rename_i hr;cases ht;exact(sJ ow cs _ _ _ hr).trans (lU h _)
  ·simp only[hb,cond_true]at ht;split at ht
   ·split at ht
    case h_2=>cases ht
    split at ht
    case h_2=>cases ht
    rename_i hr;cases ht;exact(sJ ow cs _ _ _ hr).trans (JU h _)
   ·split at ht
    case h_2=>cases ht
    rename_i hr;cases ht;have:=sJ ow cs _ _ _ hr;exact this
   ·split at ht
    case h_2=>cases ht
    split at ht
    case h_2=>cases ht
    rename_i hr;cases ht;exact(sJ ow cs _ _ _ hr).trans (JU h _)
   ·cases ht
omit [jA]in
def uP:∀(ks:List nB) (as:List V) (h:Nat→Option tA) (x:List V×(Nat→Option tA)×List Nat),dC ks as h=some x→GF x.2.1 h
 | [],[],h,x,ht=>by simp[dC]at ht;subst ht;exact GF.refl h
 | [],_ :: _,h,x,ht=>by simp[dC]at ht
 | .plain :: ks,[],h,x,ht=>by simp[dC]at ht
 | .ptr _ :: ks,[],h,x,ht=>by simp[dC]at ht
 | .mv _ :: ks,[],h,x,ht=>by simp[dC]at ht
 | .ms :: ks,[],h,x,ht=>by simp[dC]at ht
 | .ms :: ks,v :: vs,h,x,ht=>by
  simp only[dC]at ht;split at ht
  case h_2=>cases ht
  rename_i hl;split at ht
  ·cases ht
  rename_i hr;cases ht;exact(uP ks vs _ _ hr).trans (sJ _ _ _ _ _ hl)
 | .mv ow :: ks,v :: vs,h,x,ht=>by
  obtain⟨cs,rfl⟩:=zeI ht;simp only[dC]at ht;cases hb:Nat.ble cs.length 127
  case false=>simp[hb]at ht
  simp only[hb,cond_true]at ht;split at ht
  ·cases ht
  rename_i hl;split at ht
  ·cases ht
  rename_i hr;cases ht;exact(uP ks vs _ _ hr).trans (sJ _ _ _ _ _ hl)
 | .plain :: ks,v :: vs,h,x,ht=>by
  simp only[dC]at ht;split at ht
  ·cases ht
  split at ht
  ·cases ht
  rename_i hr;cases ht;exact(uP ks vs _ _ hr).trans (lU h _)
 | .ptr ow :: ks,v :: vs,h,x,ht=>by
  obtain⟨r,rfl⟩:=zeu ht;simp only[dC]at ht;split at ht
  case h_2=>cases ht
  rename_i cs _;cases hb:Nat.ble cs.length 127
  case false=>simp[hb]at ht
  simp only[hb,cond_true]at ht;split at ht
  ·cases ht
  rename_i hl;split at ht
  ·cases ht
  rename_i hr;cases ht;exact(uP ks vs _ _ hr).trans ((sJ _ _ _ _ _ hl).trans (JU h r))
section
variable {C:Cx} {w0:World} {outer own:Nat→Prop} {ρ:Nat→Option RI} {st st':St} {a:Act} {w:World} {h:Nat→Option tA}
def sB.sub(hh:sB w0 outer own ρ h w){w1:World}{outer' own':Nat→Prop}{e:Nat→Option tA}{ρe:Nat→Option RI}(φ:Nat→Nat)(kZ:Wx w1 w)
  (DZ:∀b,b<w1.heap.size→¬own' b→w.heap[b]?=w1.heap[b]?) (jX:∀b,outer' b→b<w1.heap.size∧¬own' b)
  (IV:∀q row,e q=some row→∃row' ri,h (φ q)=some row'∧ρe q=some ri∧ρ (φ q)=some ri∧ZD w ρe (sA outer' ρe e) ri row.c∧(ri.nl=false→¬outer' ri.b∧(row.m.isRo=false→w1.heap.size≤ri.b∨own' ri.b)))
  (Q9:∀q q' row row',e q=some row→e q'=some row'→φ q=φ q'→q=q'):sB w1 outer' own' ρe e w:=by
 refine⟨kZ,DZ,jX,λq row hq=>?_,λq q' row row' qi qi' h1 h2 h3 h4 h5 h6 h7=>?_⟩
 ·obtain⟨row',ri,h1,h2,h3,h4,h5⟩:=IV q row hq;obtain⟨ri',k1,_,k2⟩:=hh.rows _ _ h1
  grind
 ·obtain⟨r1,ri1,g1,g2,g3,_,_⟩:=IV q row h1;obtain⟨r2,ri2,g4,g5,g6,_,_⟩:=IV q' row' h2;rw[h3]at g2;cases g2;rw[h4]at g5;cases g5;exact Q9 q q' row row' h1 h2 (hh.inj _ _ _ _ _ _ g1 g4 g3 g6 h5 h6 h7)
variable {bad:Nat→Prop} {g:Nat→Option tA} {N0:Nat}
def IF.row{ks:List nB}{k:Nat}{as:List V}{bs:List Nat}{u:Nat→Value}(he:IF w ρ bad g N0 ks k as bs u):∀{q:Nat} {row:tA},BA ks k as q=some row→
  128 *k≤q∧q<128 *(k+ks.length)∧
  ((∃ b ow k' cs ri,mB ks k bs q=some b∧q=128 *k'+127∧k≤k'∧k'<k+ks.length∧row=⟨.box (SA ow (128 *k') 0 cs), .own⟩∧g b=some ⟨.box (SA ow (N0+128 *k') 0 cs), .own⟩∧ρ b=some ri∧ri.nl=false∧
    cs.length≤127∧(∀j (hj:j<cs.length),aD cs[j])∧b<N0∧∀p t l,cs[p]?=some (.sl t l)→ow.any (Nat.beq p)=true→BA ks k as (128 *k'+p)=some ⟨.arr t l, .own⟩)∨
  (∃t l,row=⟨.arr t l, .own⟩∧g (N0+q)=some row∧q % 128≠127)):=by
 induction he with
 | nil=>intro q row h;simp[BA]at h
 | plain hv hn hr ih=>
  rename_i ks k v as bs u;intro q row h;simp only[BA]at h;obtain⟨h1,h2,h3⟩:=ih h;refine⟨by omega,by simp;omega,?_⟩
  rcases h3 with⟨b,ow,k',cs,ri,e1,e2,e3,e4,e5,e6,e7,e8,e9,e10,e11,e12⟩ | h3
  ·exact .inl ⟨b,ow,k',cs,ri,e1,e2,by omega,by simp;omega,e5,e6,e7,e8,e9,e10,e11,λp t l h4 h5=>by simp only[BA];exact e12 p t l h4 h5⟩
  ·exact .inr h3
 | ptr ri hρ eW hu hg hl hq hc hb hr ih=>
  rename_i ow ks k b cs as bs u;intro q row h;simp only[BA]at h
  by_cases cZ:q=128 *k+127
  ·subst cZ;rw[RA]at h;cases h
   exact⟨by omega,by simp;omega, .inl ⟨b,ow,k,cs,ri,by simp[mB],rfl,Nat.le_refl _,by simp,rfl,hg,hρ,eW,hl,λj hj=>(hc j hj).1,hb,λp t l h4 h5=>by
    have hp:p<cs.length:=by
     grind
    simp only[BA];rw[AA _ _ _ _ (by omega),AB,zbE ow (128 *k) cs 0 p t l (Nat.zero_le _) h4 h5]⟩⟩
  ·rw[AA _ _ _ _ cZ,AB]at h;split at h
   ·rename_i x hx;cases h;obtain⟨t,l,e1,e2,e3⟩:=PD _ _ _ _ _ _ hx;refine⟨by omega,by simp;omega, .inr ⟨t,l,e1,?_,by omega⟩⟩;have h1:=hq (q - 128 *k) (by omega);have h2:=fR ow (128 *k) (N0+128 *k) cs 0 (q - 128 *k)
    grind
   ·obtain⟨h1,h2,h3⟩:=ih h;refine⟨by omega,by simp;omega,?_⟩
    rcases h3 with⟨b',ow',k',cs',ri',e1,e2,e3,e4,e5,e6,e7,e8,e9,e10,e11,e12⟩ | h3
    ·refine .inl ⟨b',ow',k',cs',ri',?_,e2,by omega,by simp;omega,e5,e6,e7,e8,e9,e10,e11,λp t l h4 h5=>?_⟩
     ·simp only[mB];rw[if_neg cZ];exact e1
     ·have hp:p<cs'.length:=by
       grind
      simp only[BA];rw[AA _ _ _ _ (by omega),AB,QC _ _ _ _ _ (by omega)];exact e12 p t l h4 h5
    ·exact .inr h3
 | mv hv hl hq hc hr ih=>
  rename_i ow ks k cs as bs u;intro q row h;simp only[BA]at h;rw[AB]at h;split at h
  ·rename_i x hx;cases h;obtain⟨t,l,e1,e2,e3⟩:=PD _ _ _ _ _ _ hx;refine⟨by omega,by simp;omega, .inr ⟨t,l,e1,?_,by omega⟩⟩;have h1:=hq (q - 128 *k) (by omega);have h2:=fR ow (128 *k) (N0+128 *k) cs 0 (q - 128 *k)
   grind
  ·obtain⟨h1,h2,h3⟩:=ih h;refine⟨by omega,by simp;omega,?_⟩
   rcases h3 with⟨b',ow',k',cs',ri',e1,e2,e3,e4,e5,e6,e7,e8,e9,e10,e11,e12⟩ | h3
   ·refine .inl ⟨b',ow',k',cs',ri',e1,e2,by omega,by simp;omega,e5,e6,e7,e8,e9,e10,e11,λp t l h4 h5=>?_⟩
    have hp:p<cs'.length:=by
     grind
    simp only[BA];rw[AB,QC _ _ _ _ _ (by omega)];exact e12 p t l h4 h5
   ·exact .inr h3
 | ms hv hq hc hr ih=>
  rename_i ks k v as bs u;intro q row h;simp only[BA]at h;rw[AB]at h;split at h
  ·rename_i x hx;cases h;obtain⟨t,l,e1,e2,e3⟩:=PD _ _ _ _ _ _ hx;simp only[List.length_singleton]at e3;refine⟨by omega,by simp;omega, .inr ⟨t,l,e1,?_,by omega⟩⟩;have h1:=hq (q - 128 *k) (by omega);have h2:=fR [0] (128 *k) (N0+128 *k) [v] 0 (q - 128 *k);rw[show 128 *k+(q - 128 *k)=q by omega,hx]at h2;rw[show N0+128 *k+(q - 128 *k)=N0+q by omega]at h1 h2;rw[h1, ←h2]
  ·obtain⟨h1,h2,h3⟩:=ih h;refine⟨by omega,by simp;omega,?_⟩
   rcases h3 with⟨b',ow',k',cs',ri',e1,e2,e3,e4,e5,e6,e7,e8,e9,e10,e11,e12⟩ | h3
   ·refine .inl ⟨b',ow',k',cs',ri',e1,e2,by omega,by simp;omega,e5,e6,e7,e8,e9,e10,e11,λp t l h4 h5=>?_⟩
    have hp:p<cs'.length:=by
     rcases Nat.lt_or_ge p cs'.length with h | h
     ·exact h
     ·rw[List.getElem?_eq_none h]at h4;cases h4
    simp only[BA];rw[AB,QC _ _ _ _ _ (by simp;omega)];exact e12 p t l h4 h5
   ·exact .inr h3
def IF.vals{ks:List nB}{k:Nat}{as:List V}{bs:List Nat}{u:Nat→Value}(he:IF w ρ bad g N0 ks k as bs u){ρc:Nat→Option RI}{badc:Nat→Prop}
  (hb:∀b,badc b→bad b) (hρ:∀q b,mB ks k bs q=some b→ρc q=ρ b) (hρ2:∀q row,BA ks k as q=some row→q % 128≠127→ρc q=ρ (N0+q)):
  (tB ks k as).length=ks.length∧∀j (hj:j<(tB ks k as).length),VR w ρc badc (u j) (tB ks k as)[j]:=by
 induction he with
 | nil=>exact⟨rfl,λj hj=>by simp[tB]at hj⟩
 | plain hv hn hr ih=>
  rename_i ks k v as bs u;obtain⟨h1,h2⟩:=ih (λq b h=>hρ q b h) λq row h=>hρ2 q row h;refine⟨by simp[tB,h1],λj hj=>?_⟩;cases j with
  | zero=>exact(hv.noRef hn ρc).mono (λ_ _ h=>h) (λ_ _ _=>rfl) λb h=> .inl (hb b h)
  | succ j=>exact h2 j (by simpa[tB]using hj)
 | ptr ri hρb eW hu hg hl hq hc R9 hr ih=>
  rename_i ow ks k b cs as bs u
  obtain⟨h1,h2⟩:=ih (λq b' h=>hρ q b' (by
   obtain⟨h3,_⟩:=LE _ _ _ _ _ h;simp only[mB];rw[if_neg (by omega)];exact h)) λq row h h3=>hρ2 q row (by
   have:=(hr.row h).1;simp only[BA];rw[AA _ _ _ _ (by omega),AB,QC _ _ _ _ _ (by omega)];exact h) h3
  refine⟨by simp[tB,h1],λj hj=>?_⟩;cases j with
  | zero=>
   show VR w ρc badc (u 0) (.bp (128 *k+127) 0)
   rw[hu];exact .bp _ _ ri (by rw[hρ (128 *k+127) b (by simp[mB])];exact hρb) eW
  | succ j=>exact h2 j (by simpa[tB]using hj)
 | mv hv hl hq hc hr ih=>
  rename_i ow ks k cs as bs u
  obtain⟨h1,h2⟩:=ih (λq b h=>hρ q b h) λq row h h3=>hρ2 q row (by
   have:=(hr.row h).1;simp only[BA];rw[AB,QC _ _ _ _ _ (by omega)];exact h) h3
  refine⟨by simp[tB,h1],λj hj=>?_⟩;cases j with
  | zero=>
   show VR w ρc badc (u 0) (.agg (SA ow (128 *k) 0 cs))
   generalize u 0=u0 at hv;cases hv with
   | agg _ vs hs CX=>
   refine .agg _ vs (by rw[wE];rw[wE]at hs;exact hs) ?_;refine kR ow (N0+128 *k) (128 *k) cs 0 (λj=>vs.getD j undef) (λq' h3 h4 h5 h6=>?_) (λj hj=>(hc j hj).1) hb (λj hj=>CX j hj);obtain⟨t,l,h6⟩:=h6
   have h0:BA (.mv ow :: ks) k (.agg cs :: as) (128 *k+q')=some ⟨.arr t l, .own⟩:=by
    simp only[BA];rw[AB,zbE ow (128 *k) cs 0 q' t l (Nat.zero_le _) h6 h5]
   have:=hρ2 _ _ h0 (by omega);rw[this];congr 1;omega
  | succ j=>exact h2 j (by simpa[tB]using hj)
 | ms hv hq hc hr ih=>
  rename_i ks k v as bs u
  obtain⟨h1,h2⟩:=ih (λq b h=>hρ q b h) λq row h h3=>hρ2 q row (by
   have:=(hr.row h).1;simp only[BA];rw[AB,QC _ _ _ _ _ (by simp;omega)];exact h) h3
  refine⟨by simp[tB,h1],λj hj=>?_⟩;cases j with
  | zero=>
   show VR w ρc badc (u 0) (zdy (128 *k) v)
   have:=kR (w:=w) [0] (N0+128 *k) (128 *k) [v] 0 (ρ:=ρ) (ρ2:=ρc) (bad:=bad) (bad2:=badc) (λ_=>u 0) (λq' h3 h4 h5 h6=>by
    obtain⟨t,l,h6⟩:=h6
    have h0:BA (.ms :: ks) k (v :: as) (128 *k+q')=some ⟨.arr t l, .own⟩:=by
     simp only[BA];rw[AB,zbE [0] (128 *k) [v] 0 q' t l (Nat.zero_le _) h6 h5]
    have:=hρ2 _ _ h0 (by simp at h4;omega)
    rw[this];congr 1;omega) (λj hj=>by
     obtain rfl:j=0:=by simpa using hj
     exact hc.1) hb (λj hj=>by
     have X1:j=0:=by simpa[wE]using hj
     subst X1;simpa only[IU,List.getElem_cons_zero]using hv) 0 (by rw[wE];simp)
   simpa only[IU,List.getElem_cons_zero]using this
  | succ j=>exact h2 j (by simpa[tB]using hj)
def IF.found{ks:List nB}{k:Nat}{as:List V}{bs:List Nat}{u:Nat→Value}(he:IF w ρ bad g N0 ks k as bs u):∀{q b:Nat},mB ks k bs q=some b→∃row,BA ks k as q=some row:=by
 induction he with
 | nil=>intro q b h;simp[mB]at h
 | plain hv hn hr ih=>intro q b h;simp only[mB]at h;simp only[BA];exact ih h
 | ptr ri hρ eW hu hg hl hq hc hb hr ih=>
  rename_i ow ks k b0 cs as bs u;intro q b h;simp only[mB]at h;simp only[BA]
  by_cases cZ:q=128 *k+127
  ·subst cZ;exact⟨_,RA _ _ _⟩
  ·rw[if_neg cZ]at h;obtain⟨row,h1⟩:=ih h;have:=(LE _ _ _ _ _ h).1;rw[AA _ _ _ _ cZ,AB,QC _ _ _ _ _ (by omega)];exact⟨row,h1⟩
 | mv hv hl hq hc hr ih=>
  rename_i ow ks k cs as bs u;intro q b h;simp only[mB]at h;simp only[BA];obtain⟨row,h1⟩:=ih h;have:=(LE _ _ _ _ _ h).1;rw[AB,QC _ _ _ _ _ (by omega)];exact⟨row,h1⟩
 | ms hv hq hc hr ih=>
  rename_i ks k v as bs u;intro q b h;simp only[mB]at h;simp only[BA];obtain⟨row,h1⟩:=ih h;have:=(LE _ _ _ _ _ h).1;rw[AB,QC _ _ _ _ _ (by simp;omega)];exact⟨row,h1⟩
def IF.surj{ks:List nB}{k:Nat}{as:List V}{bs:List Nat}{u:Nat→Value}(he:IF w ρ bad g N0 ks k as bs u):∀b∈bs,∃q,mB ks k bs q=some b:=by
 induction he with
 | nil=>intro b hb;simp at hb
 | plain hv hn hr ih=>intro b hb;obtain⟨q,h⟩:=ih b hb;exact⟨q,h⟩
 | mv hv hl hq hc hr ih=>intro b hb;obtain⟨q,h⟩:=ih b hb;exact⟨q,h⟩
 | ms hv hq hc hr ih=>intro b hb;obtain⟨q,h⟩:=ih b hb;exact⟨q,h⟩
 | ptr ri hρb eW hu hg hl hq hc R9 hr ih=>
  rename_i ow ks k b cs as bs u;intro b' GX
  rcases List.mem_cons.1 GX with rfl | GX
  ·exact⟨128 *k+127,by simp[mB]⟩
  ·obtain⟨q,h⟩:=ih b' GX;refine⟨q,?_⟩;have:=(LE _ _ _ _ _ h).1;simp only[mB];rw[if_neg (by omega)];exact h
def zaJ{bad2:Nat→Prop}{ri:RI}{t:TN}{l:List (El t)}(hr:ZD w ρ bad ri (.arr t l))(hb:∀b,bad2 b→bad b)(ρ2:Nat→Option RI):ZD w ρ2 bad2 ri (.arr t l):=by
 refine⟨hr.1,?_⟩
 rcases hr.2 with h | ⟨h1,he,h2,h3,h4,h5⟩
 ·exact .inl h
 ·refine .inr ⟨h1,he,h2,h3,h4,λi hi j hj=>?_⟩;obtain⟨u,h6,h7⟩:=h5 i hi j hj;exact⟨u,h6,(h7.noRef (λS=>tM S t _ j) ρ2).mono (λ_ _ h=>h) (λ_ _ _=>rfl) λb h=> .inl (hb b h)⟩
end
end Go.D
namespace Go.D
variable [jA]
inductive Rk(m:Nat):V→Prop where
 | undef:Rk m .undef
 | bool (b:Bool):Rk m (.bool b)
 | int (k:IntKind) (n:Int):Rk m (.int k n)
 | str (s:List UInt8):Rk m (.str s)
 | nil:Rk m .nil
 | sl (t:TN) (l:List (El t)) (h:t.rank<m):Rk m (.sl t l)
 | ow (r:Nat):Rk m (.ow r)
 | bp (r off:Nat):Rk m (.bp r off)
 | agg (cs:List V) (h:∀c∈cs,Rk m c):Rk m (.agg cs)
 | tup (cs:List V) (h:∀c∈cs,Rk m c):Rk m (.tup cs)
 | nili:Rk m .nili
 | ifc (b:Bool):Rk m (.ifc b)
def zgr(m:Nat):V→Bool
 | .sl t _=>Nat.blt t.rank m
 | .bool _ | .int _ _ | .str _ | .nil | .undef | .nili | .ifc _=>true
 | _=>false
omit [jA]in
def Rk.of_low{m:Nat}{v:V}(h:zgr m v=true):Rk m v:=by
 cases v<;>simp only[zgr]at h<;>try (cases h;done)
 ·exact .undef
 ·exact .bool _
 ·exact .int _ _
 ·exact .str _
 ·exact .nil
 ·exact .sl _ _ (by simpa[Nat.blt_eq]using h)
 ·exact .nili
 ·exact .ifc _
omit [jA]in
def Rk.mono{m m':Nat}(hm:m≤m'){v:V}(h:Rk m v):Rk m' v:=by
 induction h with
 | undef=>exact .undef
 | bool=>exact .bool _
 | int=>exact .int _ _
 | str=>exact .str _
 | nil=>exact .nil
 | sl t l h=>exact .sl _ _ (Nat.lt_of_lt_of_le h hm)
 | ow=>exact .ow _
 | bp=>exact .bp _ _
 | agg cs h ih=>exact .agg _ ih
 | tup cs h ih=>exact .tup _ ih
 | nili=>exact .nili
 | ifc=>exact .ifc _
omit [jA]in
def zuR(t:TN)(x:El t):(enc t x).all (zgr t.rank)=true:=by cases t<;>rfl
omit [jA]in
def zkn(t:TN)(x:El t)(j:Nat):Rk t.rank ((enc t x).getD j .undef):=by
 rw[List.getD_eq_getElem?_getD]
 by_cases hj:j<(enc t x).length
 ·rw[List.getElem?_eq_getElem hj];exact .of_low (List.all_eq_true.1 (zuR t x) _ (List.getElem_mem hj))
 ·rw[List.getElem?_eq_none (by omega)];exact .undef
variable {w:World} {ρ:Nat→Option RI} {bad bad':Nat→Prop} {v:Value} {d:V}
def VR.widen(h:VR w ρ bad v d){m:Nat}(hd:Rk m d)(hb:∀b,bad' b→bad b∨(jA.base≤b∧∃t,DF w b t∧m≤t.rank)):VR w ρ bad' v d:=by
 induction h with
 | undef=>exact .undef _
 | bool=>exact .bool _
 | int k n h=>exact .int _ _ h
 | str s h=>exact .str _ h
 | nil=>exact .nil
 | slE t a cap h=>exact .slE _ _ _ h
 | slC t l b off cap u R9 hl hc he hu hv ih=>
  cases hd with | sl _ _ hr=>
  by_cases Q1:l.length=0
  ·obtain rfl:l=[]:=List.eq_nil_of_length_eq_zero Q1;exact .slE _ _ _ hc
  ·refine .slC t l b off cap u (λh=>?_) hl hc he hu λi hi j hj=>ih i hi j hj ((zkn t l[i] j).mono (Nat.le_of_lt hr))
   rcases hb b h with h | ⟨h1,t',h2,h3⟩
   ·exact R9 h
   ·rcases he (by rintro rfl;simp at Q1)with h4 | h4
    ·omega
    ·have:=h4.uniq h2;subst this;omega
 | ow r ri h hn hc eW=>exact .ow _ _ h hn hc eW
 | owN r ri ao h hn eW=>exact .owN _ _ _ h hn eW
 | ov=>cases hd
 | bp r off ri h eW=>exact .bp _ _ _ h eW
 | ep=>cases hd
 | fp=>cases hd
 | fn=>cases hd
 | agg cs vs hs hv ih=>cases hd with | agg _ hd=>exact .agg _ _ hs λj hj=>ih j hj (hd _ (List.getElem_mem hj))
 | tup cs vs hs hv ih=>cases hd with | tup _ hd=>exact .tup _ _ hs λj hj=>ih j hj (hd _ (List.getElem_mem hj))
 | nili=>exact .nili
 | ifc=>exact .ifc _ _
 | ifn=>exact .ifn
def zdC(m:Nat):qF→Prop
 | .box cs=>∀c∈cs,Rk m c
 | .arr t _=>t.rank≤m
def ZD.keepR{w':World}{ρ':Nat→Option RI}{ri:RI}{c:qF}{m:Nat}(hr:ZD w ρ bad ri c)(hc:zdC m c)
  (hw:ri.nl=false→w'.heap[ri.b]?=w.heap[ri.b]?)
  (hv:∀u d,Rk m d→VR w ρ bad u d→VR w' ρ' bad' u d):ZD w' ρ' bad' ri c:=by
 cases c with
 | box cs=>
  refine⟨hr.1,λj hj=>?_⟩;obtain⟨h1,u,h2,h3⟩:=hr.2 j hj;have hb:=hw hr.1;exact⟨by rw[←h1];simp[World.frozen?,at_,hb],u,by rw[←h2];exact JJ hb,hv _ _ (hc _ (List.getElem_mem hj)) h3⟩
 | arr t l=>
  refine⟨hr.1,?_⟩
  rcases hr.2 with h | ⟨h0,he,h1,h2,h3,h4⟩
  ·exact .inl h
  ·have hb:=hw h0;refine .inr ⟨h0,he.same hb,h1,h2,λj hj=>?_,λi hi j hj=>?_⟩
   ·have:=h3 j hj;exact⟨by rw[←this.1];simp[World.frozen?,at_,hb],by rw[←this.2];congr 1;exact JJ hb⟩
   ·obtain⟨u,h5,h6⟩:=h4 i hi j hj;exact⟨u,by rw[←h5];exact JJ hb,hv _ _ ((zkn t _ j).mono hc) h6⟩
omit [jA]in
def zsF{m:Nat}{v:V}(h:lM v=true):Rk m v:=by
 cases v<;>simp[lM]at h
 ·exact .bool _
 ·exact .int _ _
 ·exact .str _
omit [jA]in
def zcN(ow:List Nat)(base:Nat):∀(vs:List V) (p m m':Nat),OE ow p vs=some m→m≤m'→
  (∀v∈SA ow base p vs,Rk m' v)∧∀q t l,aB ow base (λ_=>none) p vs q=some ⟨.arr t l, .own⟩→t.rank≤m'
 | [],p,m,m',h,hm=>⟨λv hv=>by simp[SA]at hv,λq t l hq=>by simp[aB]at hq⟩
 | v :: vs,p,m,m',h,hm=>by
  cases v
  case sl t l=>
   simp only[OE]at h;split at h
   case h_2=>cases h
   rename_i m1 h1;cases h;have hm1:m1≤m':=Nat.le_trans (Nat.le_max_right _ _) hm;have W3:=Nat.le_trans (Nat.le_max_left _ _) hm;obtain⟨i1,i2⟩:=zcN ow base vs (p+1) m1 m' h1 hm1;cases ho:ow.any (Nat.beq p)
   ·simp only[ho,cond_false]at W3;simp only[SA,aB,ho,cond_false];refine⟨λv hv=>?_,i2⟩
    rcases List.mem_cons.1 hv with rfl | hv
    ·exact .sl _ _ (by omega)
    ·exact i1 v hv
   ·simp only[ho,cond_true]at W3;simp only[SA,aB,ho,cond_true];refine⟨λv hv=>?_,λq t' l' hq=>?_⟩
    ·rcases List.mem_cons.1 hv with rfl | hv
     ·exact .ow _
     ·exact i1 v hv
    ·by_cases z3:q=base+p
     ·subst z3;rw[RA]at hq;cases hq;exact W3
     ·rw[AA _ _ _ _ z3]at hq;exact i2 q t' l' hq
  case nil=>
   simp only[OE]at h;obtain⟨i1,i2⟩:=zcN ow base vs (p+1) m m' h hm;simp only[SA,aB];refine⟨λv hv=>?_,i2⟩
   rcases List.mem_cons.1 hv with rfl | hv
   ·exact .nil
   ·exact i1 v hv
  all_goals
   simp only[OE]at h
   first
   | (simp only[lM,cond_false]at h;cases h;done)
   | (simp only [lM,cond_true] at h
      obtain⟨i1,i2⟩:=zcN ow base vs (p+1) m m' h hm;simp only[SA,aB];refine⟨λv hv=>?_,i2⟩
      rcases List.mem_cons.1 hv with rfl | hv
      ·exact zsF rfl
      ·exact i1 v hv)
omit [jA]in
def zko{m:Nat}:∀(sh:List (Bool×Nat)) (vs:List V),(∀v∈vs,Rk m v)→∀v∈PE sh vs,Rk m v
 | [],vs,h,v,hv=>by simp[PE]at hv
 | (ag,n) :: sh,vs,h,v,hv=>by
  simp only[PE]at hv
  rcases List.mem_cons.1 hv with rfl | hv
  ·cases ag
   ·cases vs with
    | nil=>exact .undef
    | cons x vs=>exact h x (by simp)
   ·exact .agg _ λc hc=>h c (List.mem_of_mem_take hc)
  ·exact zko sh (vs.drop n) (λv hv=>h v (List.mem_of_mem_drop hv)) v hv
omit [jA]in
def zu6{m:Nat}(sh:List (Bool×Nat))(vs:List V)(h:∀v∈vs,Rk m v):Rk m (kI sh vs):=by
 have:=zko sh vs h;unfold kI;split
 ·grind
 ·exact .tup _ this
omit [jA]in
def UU{m:Nat}:∀(ks:List nB) (as:List V) (bs:List Nat) (vs:List V) (r:Nat) (row:tA),(∀v∈vs,Rk m v)→yB ks as bs vs (λ_=>none) r=some row→zdC m row.c
 | [],as,bs,vs,r,row,hv,h=>by cases as<;>simp[yB]at h
 | .plain :: ks,[],bs,vs,r,row,hv,h=>by simp[yB]at h
 | .plain :: ks,a :: as,bs,vs,r,row,hv,h=>by simp only[yB]at h;exact UU ks as bs vs r row hv h
 | .mv ow :: ks,[],bs,vs,r,row,hv,h=>by simp[yB]at h
 | .mv ow :: ks,a :: as,bs,vs,r,row,hv,h=>by simp only[yB]at h;exact UU ks as bs vs r row hv h
 | .ms :: ks,[],bs,vs,r,row,hv,h=>by simp[yB]at h
 | .ms :: ks,a :: as,bs,vs,r,row,hv,h=>by simp only[yB]at h;exact UU ks as bs vs r row hv h
 | .ptr ow :: ks,[],bs,vs,r,row,hv,h=>by simp[yB]at h
 | .ptr ow :: ks,a :: as,[],vs,r,row,hv,h=>by cases a<;>simp[yB]at h
 | .ptr ow :: ks,a :: as,b :: bs,vs,r,row,hv,h=>by
  cases a<;>try (simp[yB]at h;done)
  simp only[yB]at h
  by_cases hr:r=b
  ·subst hr;rw[RA]at h;cases h;exact λc hc=>hv c (List.mem_of_mem_take hc)
  ·rw[AA _ _ _ _ hr]at h;exact UU ks as bs _ r row (λv U1=>hv v (List.mem_of_mem_drop U1)) h
omit [jA]in
def zvA{ci:eB}{as:List V}{bs:List Nat}{base:Nat}{rs:List V}{m:Nat}(hm:OE ci.own 0 rs=some m)(hp:ci.pb=false):
  (∀r row,nE ci as bs base rs r=some row→zdC m row.c)∧Rk m (fJ ci base rs):=by
 obtain⟨h1,h2⟩:=zcN ci.own base rs 0 m m hm (Nat.le_refl _);refine⟨λr row h=>?_,?_⟩
 ·unfold nE gF at h;rw[hp,cond_false,xK]at h;split at h
  ·rename_i x hx;cases h;exact UU _ _ _ _ _ _ (λv hv=>h1 v (List.mem_of_mem_drop hv)) hx
  ·obtain⟨t,l,h0,_,_⟩:=PD _ _ _ _ _ _ h;subst h0;exact h2 r t l h
 ·unfold fJ;rw[hp,cond_false];exact zu6 _ _ h1
end Go.D
namespace Go.D
variable [jA]
structure YF(C:Cx):Prop where
 ok:∀k ci,C.Φ k=some ci→xB C.P (k % 1048576) ci C.g
section
variable {C:Cx} {w0:World} {outer own:Nat→Prop} {ρ:Nat→Option RI} {st st':St} {a:Act} {w:World} {h:Nat→Option tA}
def bB.grow(hr:bB C w0 outer own ρ st a w){w1:World}(hx:Wx w w1)(ho:∀b,b<w.heap.size→w1.heap[b]?=w.heap[b]?):bB C w0 outer own ρ st a w1:=by
 have hv:∀u d,VR w ρ (sA outer ρ st.h) u d→VR w1 ρ (sA outer ρ st.h) u d:=λu d hu=>hu.mono (λ_ _ h=>h) (λb _ hb=>ho b hb) λb hb=> .inl hb;refine⟨⟨hr.heap.wx.trans hx,λb hb hn=>(ho b (Nat.lt_of_lt_of_le hb hr.heap.wx.size)).trans (hr.heap.old b hb hn),hr.heap.outLt,λr row h=>?_,hr.heap.inj⟩,λi=>hv _ _ (hr.slots i),hr.size,hr.defers,hr.glob⟩;obtain⟨ri,h1,h2,h3⟩:=hr.heap.rows r row h;exact⟨ri,h1,h2.keep (λhn=>ho _ (h3 hn).2) hv,λhn=>⟨(h3 hn).1,Nat.lt_of_lt_of_le (h3 hn).2 hx.size⟩⟩
inductive Sc:V→Prop where
 | undef:Sc .undef
 | bool (b:Bool):Sc (.bool b)
 | int (k:IntKind) (n:Int):Sc (.int k n)
 | str (s:List UInt8):Sc (.str s)
 | nil:Sc .nil
 | ow (r:Nat):Sc (.ow r)
 | agg (cs:List V) (h:∀c∈cs,Sc c):Sc (.agg cs)
 | tup (cs:List V) (h:∀c∈cs,Sc c):Sc (.tup cs)
def VR.sc{ρ':Nat→Option RI}{bad bad':Nat→Prop}{w':World}{v:Value}{d:V}(h:VR w ρ bad v d)(hs:Sc d)(hρ:∀r ri,ρ r=some ri→ρ' r=some ri):VR w' ρ' bad' v d:=by
 induction h with
 | undef=>exact .undef _
 | bool=>exact .bool _
 | int k n h=>exact .int _ _ h
 | str s h=>exact .str _ h
 | nil=>exact .nil
 | ow r ri h h1 h2 h3=>exact .ow _ _ (hρ _ _ h) h1 h2 h3
 | owN r ri ao h h1 h2=>exact .owN _ _ _ (hρ _ _ h) h1 h2
 | agg cs vs YV hv ih=>
  cases hs with
  | agg _ hs=>exact .agg _ _ YV λj hj=>ih j hj (hs _ (List.getElem_mem hj))
 | tup cs vs YV hv ih=>
  cases hs with
  | tup _ hs=>exact .tup _ _ YV λj hj=>ih j hj (hs _ (List.getElem_mem hj))
 | _=>cases hs
omit [jA]in
def zdv{v:V}(h:lM v=true):Sc v:=by
 cases v<;>simp[lM]at h
 ·exact .bool _
 ·exact .int _ _
 ·exact .str _
omit [jA]in
def zvP{t:TN}(h:t.flat=true)(x:El t)(j:Nat):Sc ((enc t x).getD j .undef):=by
 have S9:∀c∈enc t x,Sc c:=by
  cases t<;>simp[TN.flat]at h<;>intro c hc<;>simp[enc]at hc<;>(try subst hc)<;>(try exact zdv rfl)<;>(repeat' (rcases hc with rfl | hc))<;>(try subst hc)<;>first | exact zdv rfl | skip
  all_goals (simp[zcF,zb5,zcu,zcC]at hc;repeat' (rcases hc with rfl | hc))<;>(try subst hc)<;>exact zdv rfl
 rw[List.getD_eq_getElem?_getD]
 by_cases hj:j<(enc t x).length
 ·rw[List.getElem?_eq_getElem hj];exact S9 _ (List.getElem_mem hj)
 ·rw[List.getElem?_eq_none (by omega)];exact .undef
omit [jA]in
def zkh:∀(sh:List (Bool×Nat)) (vs:List V),(∀v∈vs,Sc v)→∀v∈PE sh vs,Sc v
 | [],vs,h,v,hv=>by simp[PE]at hv
 | (ag,n) :: sh,vs,h,v,hv=>by
  simp only[PE]at hv
  rcases List.mem_cons.1 hv with rfl | hv
  ·cases ag
   ·cases vs with
    | nil=>exact .undef
    | cons x vs=>exact h x (by simp)
   ·exact .agg _ λc hc=>h c (List.mem_of_mem_take hc)
  ·exact zkh sh (vs.drop n) (λv hv=>h v (List.mem_of_mem_drop hv)) v hv
omit [jA]in
def zu8(sh:List (Bool×Nat))(vs:List V)(h:∀v∈vs,Sc v):Sc (kI sh vs):=by
 have:=zkh sh vs h;unfold kI;split
 ·rename_i v hv;exact this v (by rw[hv];simp)
 ·exact .tup _ this
omit [jA]in
def zfB(ow:List Nat)(base:Nat):∀(vs:List V) (p:Nat),zV ow p vs=true→(∀v∈SA ow base p vs,Sc v)∧∀q t l,aB ow base (λ_=>none) p vs q=some ⟨.arr t l, .own⟩→t.flat=true
 | [],p,h=>⟨λv hv=>by simp[SA]at hv,λq t l hq=>by simp[aB]at hq⟩
 | v :: vs,p,h=>by
  cases v<;>simp only[zV,Bool.and_eq_true]at h
  case sl t l=>
   obtain⟨⟨h1,h2⟩,h3⟩:=h;obtain⟨i1,i2⟩:=zfB ow base vs (p+1) h3;simp only[SA,aB,h1,cond_true];refine⟨λv hv=>?_,λq t' l' hq=>?_⟩
   ·rcases List.mem_cons.1 hv with rfl | hv
    ·exact .ow _
    ·exact i1 v hv
   ·by_cases z3:q=base+p
    ·subst z3;rw[RA]at hq;cases hq;exact h2
    ·rw[AA _ _ _ _ z3]at hq;exact i2 q t' l' hq
  all_goals
   obtain⟨h1,h3⟩:=h;obtain⟨i1,i2⟩:=zfB ow base vs (p+1) h3;simp only[SA,aB];refine⟨λv hv=>?_,i2⟩
   rcases List.mem_cons.1 hv with rfl | hv
   ·exact zdv h1
   ·exact i1 v hv
omit [jA]in
def zhN:∀(ks:List nB) (as:List V) (bs:List Nat) (vs:List V) (h:Nat→Option tA),ks.all nB.isPlain=true→yB ks as bs vs h=h
 | [],as,bs,vs,h,hp=>by cases as<;>rfl
 | .plain :: ks,[],bs,vs,h,hp=>rfl
 | .plain :: ks,a :: as,bs,vs,h,hp=>by
  simp only[List.all_cons,Bool.and_eq_true]at hp;show yB ks as bs vs h=h
  exact zhN ks as bs vs h hp.2
 | .ptr _ :: ks,as,bs,vs,h,hp=>by simp[nB.isPlain]at hp
 | .mv _ :: ks,as,bs,vs,h,hp=>by simp[nB.isPlain]at hp
 | .ms :: ks,as,bs,vs,h,hp=>by simp[nB.isPlain]at hp
omit [jA]in
def ziG:∀(ks:List nB) (k:Nat) (as:List V),ks.all nB.isPlain=true→BA ks k as=λ_=>none
 | [],k,as,h=>by cases as<;>rfl
 | .plain :: ks,k,[],h=>rfl
 | .plain :: ks,k,a :: as,h=>by
  simp only[List.all_cons,Bool.and_eq_true]at h;show BA ks (k+1) as=_
  exact ziG ks (k+1) as h.2
 | .ptr _ :: ks,k,as,h=>by simp[nB.isPlain]at h
 | .mv _ :: ks,k,as,h=>by simp[nB.isPlain]at h
 | .ms :: ks,k,as,h=>by simp[nB.isPlain]at h
omit [jA]in
def zjS(h:Nat→Option tA):GF (sO h) h:=λr row' hr=>by
 unfold sO at hr;split at hr
 ·rename_i c h1;cases hr;exact⟨_,h1,rfl,λ_=>rfl⟩
 ·exact⟨row',hr,rfl,id⟩
omit [jA]in
def zse(h:Nat→Option tA):GF h (sO h):=λr row hr=>by
 unfold sO;obtain⟨c,m⟩:=row;cases m
 ·exact⟨_,by rw[hr],rfl,λ_=>rfl⟩
 ·exact⟨_,by rw[hr],rfl,λh=>h⟩
 ·exact⟨⟨c, .own⟩,by rw[hr],rfl,λ_=>rfl⟩
def bB.less(hr:bB C w0 outer own ρ st a w){h':Nat→Option tA}(hl:GF h' st.h):bB C w0 outer own ρ {st with h:=h'} a w:=
 ⟨(hr.heap.less hl).1,λi=>(hr.heap.less hl).2 _ _ (hr.slots i),hr.size,hr.defers,hr.glob⟩
variable {o:Oper} {i:Nat} (hr:bB C w0 outer own ρ st a w)
include hr
def zkN(bY:∃N,∀r,N≤r→ρ r=none)(IW:∀q,q<128→ρ (i+q)=none)(f:Nat)(args:Array Value)(as:List V)(YV:args.size=as.length)
  (BW:∀j (hj:j<as.length),VR w ρ (sA outer ρ st.h) (args.getD j undef) as[j]) (aW:(execOp a.eval o).run C.P w=(callFunc f args).run C.P w)
  {ci:eB} (H8:xB C.P f ci C.g) {as':List V} {h':Nat→Option tA} {bs:List Nat} (EZ:dC ci.ks as st.h=some (as',h',bs)) {x:ci.A} (qZ:ci.dA as'=some x) {r:ci.R} (hF:ci.F x=some r)
  (sW:(ci.eR r).length≤128) (hk:VA C o.dst {st with h:=eH ci as' bs i (ci.eR r) (bL ci (ci.eR r) st.h h')} (fJ ci i (ci.eR r)) some=some st'):
  KC C.P o a w (DC C w0 outer own i ρ st'):=by
 obtain⟨N,hN⟩:=bY
 -- the arguments
 have T9:∀q,N≤q→st.h q=none:=λq hq=>by
  cases hg:st.h q with
  | none=>rfl
  | some row=>obtain⟨ri,h3,_⟩:=hr.heap.rows _ _ hg;rw[hN q hq]at h3;cases h3
 obtain⟨ρ',g',c1,c2,c3,c4,c5,c6,c7,c8,c9,c10,c11⟩:=LU N ci.ks as st.h h' as' bs 0 ρ st.h (λj=>args.getD j undef) EZ hr.heap BW (λ_ _ h=>h) (λr hr=>hN r (by omega)) T9;have bW:=uP _ _ _ _ EZ;simp only at bW;let φ:Nat→Nat:=λq=>(mB ci.ks 0 bs q).getD (N+q);let E:=BA ci.ks 0 as';let ρc:Nat→Option RI:=λq=>if(E q).isSome=true then ρ' (φ q)else none
 let ownc:Nat→Prop:=λb=>∃q row ri,E q=some row∧ρc q=some ri∧ri.nl=false∧ri.b=b;let outc:Nat→Prop:=sA outer ρ' h'
 have U9:∀b∈bs,b<N:=λb hb=>by
  rcases Nat.lt_or_ge b N with h3 | h3
  ·exact h3
  ·exact absurd (T9 b h3) (c8 b hb).2
 have hφbox:∀q b,mB ci.ks 0 bs q=some b→φ q=b:=λq b h=>by simp[φ,h]
 have hφarr:∀q,q % 128≠127→φ q=N+q:=λq hq=>by
  have:mB ci.ks 0 bs q=none:=by
   cases hb:mB ci.ks 0 bs q with
   | none=>rfl
   | some b=>exact absurd (LE _ _ _ _ _ hb).2.1 hq
  simp[φ,this]
 -- the rows of the entry
 have hE:∀q row,E q=some row→∃row' ri,g' (φ q)=some row'∧row'.m= .own∧h' (φ q)=none∧ρc q=some ri∧ρ' (φ q)=some ri:=λq row hq=>by
  obtain⟨h1,h2,h3⟩:=c7.row hq;have NV:(E q).isSome=true:=by show(BA ci.ks 0 as' q).isSome=true;have h0:BA ci.ks 0 as' q=some row:=hq;rw[h0];rfl
  rcases h3 with⟨b,ow,k',cs,ri,e1,e2,e3,e4,e5,e6,e7,e8⟩ | ⟨t,l,e1,e2,e3⟩
  ·refine⟨_,ri,by rw[hφbox q b e1];exact e6,rfl,by rw[hφbox q b e1];exact(c8 b (LE _ _ _ _ _ e1).2.2).1,?_,by rw[hφbox q b e1];exact e7⟩;simp only[ρc,NV,if_true,hφbox q b e1,e7]
  ·obtain⟨ri,f1,_⟩:=c1.rows _ _ e2;subst e1;refine⟨_,ri,by rw[hφarr q e3];exact e2,rfl,by rw[hφarr q e3];exact c3 _ (T9 _ (by omega)),?_,by rw[hφarr q e3];exact f1⟩;simp only[ρc,NV,if_true,hφarr q e3,f1]
 have C4:∀b,ownc b→∃q row ri,g' q=some row∧row.m= .own∧h' q=none∧ρ' q=some ri∧ri.nl=false∧ri.b=b:=by
  rintro b ⟨q,row,ri,h1,h2,h3,h4⟩;obtain⟨row',ri',f1,f2,f3,f4,f5⟩:=hE q row h1;rw[h2]at f4;cases f4;exact⟨_,row',ri,f1,f2,f3,f5,h3,h4⟩
 have WV:∀q row,h' q=some row→∃ri,ρ' q=some ri∧(ri.nl=false→¬ownc ri.b∧ri.b<w.heap.size∧(¬outer ri.b∧(row.m.isRo=false→w0.heap.size≤ri.b∨own ri.b))):=λq row hq=>by
  obtain⟨ri,f1,_,f2⟩:=c1.rows q row (c2 q row hq);refine⟨ri,f1,λhn=>⟨λho=>?_,(f2 hn).2,(f2 hn).1⟩⟩;obtain⟨q',row',ri',e1,e2,e3,e4,e5,e6⟩:=C4 _ ho;have:=c1.inj q q' row row' ri ri' (c2 q row hq) e1 f1 e4 hn e5 e6.symm;subst this;rw[hq]at e3;cases e3
 have NX:∀b,ownc b→b<w.heap.size∧(w0.heap.size≤b∨own b):=λb hb=>by
  obtain⟨q',row',ri',e1,e2,e3,e4,e5,e6⟩:=C4 _ hb;obtain⟨ri2,f1,_,f2⟩:=c1.rows q' row' e1;rw[e4]at f1;cases f1;rw[←e6];exact⟨(f2 e5).2,(f2 e5).1.2 (by rw[e2];rfl)⟩
 have jX:∀b,outc b→b<w.heap.size∧¬ownc b:=by
  rintro b (hb | ⟨q,row,ri,f1,f2,f3,f4,f5⟩)
  ·obtain⟨g1,g2⟩:=c1.outLt b hb;refine⟨Nat.lt_of_lt_of_le g1 c1.wx.size,λho=>?_⟩
   rcases(NX b ho).2 with h3 | h3
   ·omega
   ·exact g2 h3
  ·obtain⟨ri',k1,k2⟩:=WV q row f1;rw[f3]at k1;cases k1;rw[←f5];exact⟨(k2 f4).2.1,(k2 f4).1⟩
 have E0:∀b,sA outc ρc E b→sA outer ρ' g' b:=by
  rintro b (hb | ⟨q,row,ri,f1,f2,f3,f4,f5⟩)
  ·exact hb.mono λq row h1 h2=>⟨row,c2 q row h1,h2⟩
  ·obtain⟨row',ri',k1,k2,k3,k4,k5⟩:=hE q row f1;rw[f3]at k4;cases k4;exact .inr ⟨_,row',ri,k1,by rw[k2];rfl,k5,f4,f5⟩
 have hρcbox:∀q b,mB ci.ks 0 bs q=some b→q<128 *ci.ks.length→ρc q=ρ' b:=λq b h _=>by
  obtain⟨row,h0⟩:=c7.found h;have NV:(E q).isSome=true:=by show(BA ci.ks 0 as' q).isSome=true;rw[h0];rfl
  simp only[ρc,NV,if_true,hφbox q b h]
 have F0:∀q b,mB ci.ks 0 bs q=some b→q<128 *ci.ks.length:=λq b h=>by have:=RU _ _ _ _ _ h;omega
 have D4:sB w outc ownc ρc E w:=by
  refine c1.sub φ (Wx.refl _) (λ_ _ _=>rfl) jX (λq row hq=>?_) (λq q' row row' h1 h2 h3=>?_)
  ·obtain⟨h1,h2,h3⟩:=c7.row hq;obtain⟨row',ri,f1,f2,f3,f4,f5⟩:=hE q row hq;refine⟨row',ri,f1,f4,f5,?_,λhn=>⟨λho=>(jX _ ho).2 ⟨q,row,ri,hq,f4,hn,rfl⟩,λ_=> .inr ⟨q,row,ri,hq,f4,hn,rfl⟩⟩⟩;obtain⟨ri2,k1,k2,_⟩:=c1.rows _ _ f1;rw[f5]at k1;cases k1
   rcases h3 with⟨b,ow,k',cs,ri',e1,e2,e3,e4,e5,e6,e7,e8,e9,e10,e11,e12⟩ | ⟨t,l,e1,e2,e3⟩
   ·rw[hφbox q b e1,e6]at f1;cases f1;subst e5;refine⟨k2.1,λj hj=>?_⟩;rw[wE]at hj;obtain⟨g1,x,g2,g3⟩:=k2.2 j (by rw[wE];exact hj);refine⟨g1,x,g2,?_⟩
    have:=kR (w:=w) (ρ:=ρ') (ρ2:=ρc) (bad:=sA outer ρ' g') (bad2:=sA outc ρc E) ow (N+128 *k') (128 *k') cs 0 (λj=>(w.cell? (at_ ri.b j)).getD undef) (λq' _ h4 h5 h6=>by
      obtain⟨t,l,h6⟩:=h6;have h0:=e12 q' t l (by simpa using h6) h5;have NV:(E (128 *k'+q')).isSome=true:=by show(BA ci.ks 0 as' (128 *k'+q')).isSome=true;rw[h0];rfl
      simp only[ρc,NV,if_true];rw[hφarr _ (by omega)];congr 1;omega) e10 E0 (λj hj=>by
      obtain⟨_,x,g2,g3⟩:=k2.2 j hj;rw[g2];exact g3) j (by rw[wE];exact hj)
    rw[g2]at this;exact this
   ·subst e1;rw[hφarr q e3,e2]at f1;cases f1;exact zaJ k2 E0 ρc
  ·obtain⟨_,_,h4⟩:=c7.row h1;obtain⟨_,_,h5⟩:=c7.row h2
   rcases h4 with⟨b,_,_,_,_,e1,_⟩ | ⟨_,_,_,_,e3⟩<;>rcases h5 with⟨b',_,_,_,_,e1',_⟩ | ⟨_,_,_,_,e3'⟩
   ·rw[hφbox q b e1,hφbox q' b' e1']at h3;subst h3;exact XR _ _ _ _ _ _ c9 e1 e1'
   ·rw[hφbox q b e1,hφarr q' e3']at h3;have:=U9 b (LE _ _ _ _ _ e1).2.2;omega
   ·rw[hφbox q' b' e1',hφarr q e3]at h3;have:=U9 b' (LE _ _ _ _ _ e1').2.2;omega
   ·rw[hφarr q e3,hφarr q' e3']at h3;omega
 obtain⟨S1,hv2⟩:=c7.vals E0 (λq b h=>hρcbox q b h (F0 q b h)) λq row h h3=>by
  have NV:(E q).isSome=true:=by show(BA ci.ks 0 as' q).isSome=true;rw[h];rfl
  simp only[ρc,NV,if_true,hφarr q h3]
 have oY:∀q,ρ q≠none→Out i 128 q:=λq hq h3=>hq (by
  have:=IW (q - i) (by omega);rwa [show i+(q - i)=q by omega]at this)
 have hsthρ:∀q row,st.h q=some row→ρ q≠none:=λq row hq=>by
  obtain⟨ri,h3,_⟩:=hr.heap.rows _ _ hq;rw[h3];simp
 have hbsρ:∀b∈bs,ρ b≠none:=λb hb=>by
  cases hq:st.h b with
  | none=>exact absurd hq (c8 b hb).2
  | some row=>exact hsthρ b row hq
 have G:=H8 w args as' outc ownc ρc x r i bs (by rw[YV,c10]) S1 D4 hv2 (λq hq=>by simp only[ρc];rw[if_neg];show ¬(BA ci.ks 0 as' q).isSome=true;rw[hq];simp) c9 (λb hb=>oY b (hbsρ b hb)) qZ hF sW
  ⟨C.g.stay w0 w (λc hc=>hr.heap.old c (Nat.lt_of_lt_of_le hc (C.g.lt _ hr.glob.p)) (hr.glob.own c hc)) hr.glob.p,λc hc ho=>by
   have:=Nat.lt_of_lt_of_le hc (C.g.lt _ hr.glob.p)
   rcases(NX c ho).2 with h | h
   ·omega
   ·exact hr.glob.own c hc h,Nat.le_trans hr.glob.base hr.heap.wx.size,λc hc ho=>by
   have:=Nat.lt_of_lt_of_le hc hr.glob.base
   rcases(NX c ho).2 with h | h
   ·omega
   ·exact hr.glob.low c hc h⟩
 -- a call that leaves all as it is
 cases rZ:BM ci (ci.eR r)
 case true=>
  simp only[bL,rZ,cond_true]at hk;simp only[BM,Bool.and_eq_true,Bool.not_eq_true']at rZ;obtain⟨⟨o3,oZ⟩,hsc⟩:=rZ;have hE0:E=λ_=>none:=ziG _ _ _ oZ
  have SW:∀b,¬ownc b:=by
   rintro b ⟨q,row,ri,h1,_⟩;rw[hE0]at h1;cases h1
  obtain⟨s1,s2⟩:=zfB ci.own i (ci.eR r) 0 hsc
  have xX:Sc (fJ ci i (ci.eR r)):=by
   unfold fJ;rw[o3,cond_false];exact zu8 _ _ s1
  have V9:nE ci as' bs i (ci.eR r)=aB ci.own i (λ_=>none) 0 (ci.eR r):=by
   unfold nE gF;rw[o3,cond_false,zhN _ _ _ _ _ oZ]
  have fin0:∀v w1,(∃ρx,sB w outc ownc ρx (nE ci as' bs i (ci.eR r)) w1∧
    VR w1 ρx (sA outc ρx (nE ci as' bs i (ci.eR r))) v (fJ ci i (ci.eR r))∧
    (∀q b,mB ci.ks 0 bs q=some b→ρx b=ρc q)∧(∀r,ρx r≠none→(i≤r∧r<i+128)∨r∈bs))→DC C w0 outer own i ρ st' (a.put o.dst v) w1:=by
   rintro v w1 ⟨ρx,hX,hV,_,E4⟩;have hg:=hr.grow hX.wx λb hb=>hX.old b hb (SW b)
   have C5:∀q,eH ci as' bs i (ci.eR r) st.h q=match nE ci as' bs i (ci.eR r) q with | some x=>some x | none=>st.h q:=λq=>by
    rw[kO]
    all_goals (cases nE ci as' bs i (ci.eR r) q<;>rfl)
   generalize I8:nE ci as' bs i (ci.eR r)=X at hX hV C5 V9;generalize eH ci as' bs i (ci.eR r) st.h=oX at hk C5;let ρn:Nat→Option RI:=λq=>if i≤q∧q<i+128 then ρx q else ρ q
   have oY:∀q,ρ q≠none→¬(i≤q∧q<i+128):=λq hq h3=>hq (by
    have:=IW (q - i) (by omega);rwa [show i+(q - i)=q by omega]at this)
   have W9:∀q row,X q=some row→i≤q∧q<i+128:=λq row hq=>by
    rw[V9]at hq;obtain⟨_,_,_,e1,e2⟩:=PD _ _ _ _ _ _ hq;omega
   have hρo:∀q ri,ρ q=some ri→ρn q=some ri:=λq ri hq=>by
    simp only[ρn,oY q (by rw[hq];simp),if_false];exact hq
   have hρX:∀q row ri,X q=some row→ρx q=some ri→ρn q=some ri:=λq row ri hq h3=>by
    simp only[ρn,W9 q row hq,and_self,if_true];exact h3
   have PW:∀q row,X q=some row→∃ri t l,row=⟨.arr t l, .own⟩∧t.flat=true∧ρx q=some ri∧ZD w1 ρx (sA outc ρx X) ri (.arr t l)∧(ri.nl=false→w.heap.size≤ri.b∧ri.b<w1.heap.size):=λq row hq=>by
    obtain⟨ri,k1,k2,k3⟩:=hX.rows q row hq;have YX:=hq;rw[V9]at YX;obtain⟨t,l,e0,_,_⟩:=PD _ _ _ _ _ _ YX;subst e0;refine⟨ri,t,l,rfl,s2 q t l YX,k1,k2,λhn=>⟨?_,(k3 hn).2⟩⟩
    rcases(k3 hn).1.2 rfl with h | h
    ·exact h
    ·exact absurd h (SW _)
   have CW:∀q row,oX q=some row→X q=some row∨(X q=none∧st.h q=some row):=λq row hq=>by
    rw[C5]at hq;cases hx:X q with
    | some y=>rw[hx]at hq;exact .inl hq
    | none=>rw[hx]at hq;exact .inr ⟨rfl,hq⟩
   have A3:∀q row ri,st.h q=some row→ρ q=some ri→ri.nl=false→ri.b<w.heap.size:=λq row ri hq h3 hn=>by
    obtain⟨ri',k1,_,k3⟩:=hr.heap.rows q row hq;rw[h3]at k1;cases k1;exact(k3 hn).2
   have hstρ:∀q row,st.h q=some row→∃ri,ρ q=some ri:=λq row hq=>by
    obtain⟨ri,k1,_⟩:=hr.heap.rows q row hq;exact⟨ri,k1⟩
   have OX:∀b,sA outer ρn oX b→sA outer ρ st.h b∨w.heap.size≤b:=by
    rintro b (hb | ⟨q,row,ri,f1,f2,f3,f4,f5⟩)
    ·exact .inl (.inl hb)
    ·rcases CW q row f1 with h3 | ⟨_,h3⟩
     ·obtain⟨ri',t,l,_,_,k1,_,k2⟩:=PW q row h3;rw[hρX q row ri' h3 k1]at f3;cases f3;exact .inr (by rw[←f5];exact(k2 f4).1)
     ·obtain⟨ri',k1⟩:=hstρ q row h3;rw[hρo q ri' k1]at f3;cases f3;exact .inl (.inr ⟨q,row,_,h3,f2,k1,f4,f5⟩)
   have keepAll:∀u d,VR w ρ (sA outer ρ st.h) u d→VR w1 ρn (sA outer ρn oX) u d:=λu d hu=>
    hu.mono hρo (λb _ NV=>hX.old b NV (SW b)) OX
   have G0:sB w0 outer own ρn oX w1:=by
    refine⟨hg.heap.wx,hg.heap.old,hg.heap.outLt,λq row hq=>?_,λq q' row row' qi qi' h1 h2 h3 h4 h5 h6 h7=>?_⟩
    ·rcases CW q row hq with h3 | ⟨_,h3⟩
     ·obtain⟨ri,t,l,rfl,ht,k1,k2,k3⟩:=PW q row h3;refine⟨ri,hρX q _ ri h3 k1,⟨k2.1,?_⟩,λhn=>⟨⟨λho=>?_,λ_=> .inl (Nat.le_trans hr.heap.wx.size (k3 hn).1)⟩,(k3 hn).2⟩⟩
      ·rcases k2.2 with h4 | ⟨e1,ee,e2,e3,e4,e5⟩
       ·exact .inl h4
       ·refine .inr ⟨e1,ee,e2,e3,e4,λa ha j hj=>?_⟩;obtain⟨u,f1,f2⟩:=e5 a ha j hj;exact⟨u,f1,f2.noRef (λS=>tM S t _ j) ρn |>.sc (zvP ht _ j) λ_ _ h=>h⟩
      ·have:=(hr.heap.outLt _ ho).1;have:=hr.heap.wx.size;have:=(k3 hn).1;omega
     ·obtain⟨ri,k1,k2,k3⟩:=hr.heap.rows q row h3;exact⟨ri,hρo q ri k1,k2.keep (λhn=>hX.old _ (k3 hn).2 (SW _)) keepAll,λhn=>⟨(k3 hn).1,Nat.lt_of_lt_of_le (k3 hn).2 hX.wx.size⟩⟩
    ·rcases CW q row h1 with k1 | ⟨_,k1⟩<;>rcases CW q' row' h2 with k2 | ⟨_,k2⟩
     ·obtain⟨r1,_,_,_,_,e1,_⟩:=PW q row k1;obtain⟨r2,_,_,_,_,e2,_⟩:=PW q' row' k2;rw[hρX q row r1 k1 e1]at h3;cases h3;rw[hρX q' row' r2 k2 e2]at h4;cases h4;exact hX.inj q q' row row' _ _ k1 k2 e1 e2 h5 h6 h7
     ·obtain⟨r1,_,_,_,_,e1,_,e2⟩:=PW q row k1;obtain⟨r2,e3⟩:=hstρ q' row' k2;rw[hρX q row r1 k1 e1]at h3;cases h3;rw[hρo q' r2 e3]at h4;cases h4;have h8:=(e2 h5).1;have h9:=A3 q' row' _ k2 e3 h6;omega
     ·obtain⟨r1,_,_,_,_,e1,_,e2⟩:=PW q' row' k2;obtain⟨r2,e3⟩:=hstρ q row k1;rw[hρX q' row' r1 k2 e1]at h4;cases h4;rw[hρo q r2 e3]at h3;cases h3;have h8:=(e2 h6).1;have h9:=A3 q row _ k1 e3 h5;omega
     ·obtain⟨r1,e1⟩:=hstρ q row k1;obtain⟨r2,e2⟩:=hstρ q' row' k2;rw[hρo q r1 e1]at h3;cases h3;rw[hρo q' r2 e2]at h4;cases h4;exact hr.heap.inj q q' row row' _ _ k1 k2 e1 e2 h5 h6 h7
   have OV:bB C w0 outer own ρn {st with h:=oX} a w1:=hr.turn G0 keepAll;refine⟨ρn,(OV.put (hV.sc xX λq ri hq=>?_) hk).1,λq hq=>?_,hρo⟩
   ·have:i≤q∧q<i+128:=by
     rcases E4 q (by rw[hq];simp)with h | h
     ·exact h
     ·exact absurd h (by
       have:bs=[]:=by
        cases bs with
        | nil=>rfl
        | cons b bs'=>
         obtain⟨q',YX⟩:=c7.surj b (by simp);obtain⟨row,IV⟩:=c7.found YX;have:BA ci.ks 0 as'=λ_=>none:=hE0;rw[this]at IV;cases IV
       rw[this];simp)
    simp only[ρn,this,and_self,if_true];exact hq
   ·simp only[ρn,hq,if_false]
  intro next Q hn;unfold Oper.wp;rw[aW]
  rcases G with⟨G1,G2⟩ | ⟨v,w1,G1,G2⟩
  ·rw[G1,Oper.upon_enter];refine Calls.mono' G2 ?_;rintro e w1 ⟨v,rfl,h3⟩;exact hn _ _ (fin0 v w1 h3)
  ·rw[G1,Oper.upon_value];exact hn _ _ (fin0 v w1 G2)
 simp only[bL,rZ,cond_false]at hk
 -- rows that stay the caller's own
 have D5:∀hb,(bif ci.pb then h' else match OE ci.own 0 (ci.eR r)with | some m=>iL m st.h h' | none=>h')=hb→
   ∀q row,hb q=some row→h' q=some row∨(∃t l m c,ci.pb=false∧OE ci.own 0 (ci.eR r)=some m∧m≤t.rank∧row=⟨.arr t l, .own⟩∧st.h q=some row∧h' q=some ⟨c, .ro⟩):=by
  rintro hb rfl q row hq;cases hp:ci.pb
  ·rw[hp,cond_false]at hq;cases hm:OE ci.own 0 (ci.eR r)with
   | none=>rw[hm]at hq;exact .inl hq
   | some m=>
    rw[hm]at hq;have hq:iL m st.h h' q=some row:=hq;unfold iL at hq;split at hq
    ·rename_i t l c h3 h4;cases F4:Nat.ble m t.rank
     ·rw[F4,cond_false]at hq;exact .inl (by rw[h4];exact hq)
     ·rw[F4,cond_true]at hq;cases hq;exact .inr ⟨t,l,m,c,rfl,rfl,Nat.le_of_ble_eq_true F4,rfl,h3,h4⟩
    ·exact .inl hq
  ·rw[hp,cond_true]at hq;exact .inl hq
 generalize hbe:(bif ci.pb then h' else match OE ci.own 0 (ci.eR r)with | some m=>iL m st.h h' | none=>h')=hb at hk
 replace D5:=D5 hb hbe
 clear hbe
 -- behind the call
 have WB:∀v w1,(∃ρx,sB w outc ownc ρx (nE ci as' bs i (ci.eR r)) w1∧
   VR w1 ρx (sA outc ρx (nE ci as' bs i (ci.eR r))) v (fJ ci i (ci.eR r))∧
   (∀q b,mB ci.ks 0 bs q=some b→ρx b=ρc q)∧(∀r,ρx r≠none→(i≤r∧r<i+128)∨r∈bs))→DC C w0 outer own i ρ st' (a.put o.dst v) w1:=by
  rintro v w1 ⟨ρx,hX,hV,pX,E4⟩;generalize I8:nE ci as' bs i (ci.eR r)=X at hX hV
  have hrk:∀m,ci.pb=false→OE ci.own 0 (ci.eR r)=some m→(∀q row,X q=some row→zdC m row.c)∧Rk m (fJ ci i (ci.eR r)):=λm hp hm=>by
   have:=zvA (as:=as') (bs:=bs) (base:=i) hm hp;rw[I8]at this;exact this
  have C5:∀q,eH ci as' bs i (ci.eR r) hb q=match X q with | some x=>some x | none=>hb q:=λq=>by
   rw[kO,I8]
   all_goals (cases X q<;>rfl)
  generalize yY:eH ci as' bs i (ci.eR r) hb=oX at hk C5;let ρn:Nat→Option RI:=λq=>if i≤q∧q<i+128 then ρx q else ρ q
  have hρbs:∀b∈bs,ρx b=ρ b:=λb hb=>by
   obtain⟨q,hq⟩:=c7.surj b hb;rw[pX q b hq,hρcbox q b hq (F0 q b hq),c11 b (U9 b hb)]
  have hρx:∀q,ρx q≠none→ρn q=ρx q:=λq hq=>by
   by_cases FW:i≤q∧q<i+128
   ·simp only[ρn,FW,and_self,if_true]
   ·simp only[ρn,FW,if_false]
    rcases E4 q hq with h3 | h3
    ·exact absurd h3 FW
    ·exact(hρbs q h3).symm
  have hρo:∀q,ρ q≠none→ρn q=ρ q:=λq hq=>by
   have:¬(i≤q∧q<i+128):=oY q hq;simp only[ρn,this,if_false]
  have hρ':∀q ri,ρ q≠none→ρ' q=some ri→ρ q=some ri:=λq ri hq h3=>by
   cases h4:ρ q with
   | none=>exact absurd h4 hq
   | some ri'=>have:=c5 _ _ h4;rw[h3]at this;rw[this]
  have CW:∀q row,oX q=some row→X q=some row∨(X q=none∧hb q=some row):=λq row hq=>by
   rw[C5]at hq;cases hx:X q with
   | some y=>rw[hx]at hq;exact .inl hq
   | none=>rw[hx]at hq;exact .inr ⟨rfl,hq⟩
  have hh'ρ:∀q row,h' q=some row→ρ q≠none:=λq row hq=>by
   obtain⟨row',h3,_⟩:=bW q row hq;exact hsthρ q row' h3
  have hbρ:∀q row,hb q=some row→ρ q≠none:=λq row hq=>by
   rcases D5 q row hq with h3 | ⟨_,_,_,_,_,_,_,_,_,h3⟩
   ·exact hh'ρ q row h3
   ·exact hh'ρ q _ h3
  have hXρ:∀q row,X q=some row→ρn q=ρx q:=λq row hq=>by
   obtain⟨ri,h3,_⟩:=hX.rows q row hq;exact hρx q (by rw[h3];simp)
  -- the JC of rows that stay the caller's own
  let Rest:Nat→Prop:=λb=>∃q t l m c ri,ci.pb=false∧OE ci.own 0 (ci.eR r)=some m∧m≤t.rank∧st.h q=some ⟨.arr t l, .own⟩∧h' q=some ⟨c, .ro⟩∧ρ q=some ri∧ri.nl=false∧ri.b=b
  have OX:∀b,sA outer ρn oX b→sA outc ρx X b∨Rest b:=by
   rintro b (GX | ⟨q,row,ri,f1,f2,f3,f4,f5⟩)
   ·exact .inl (.inl (.inl GX))
   ·rcases CW q row f1 with h3 | ⟨_,h3⟩
    ·rw[hXρ q row h3]at f3;exact .inl (.inr ⟨q,row,ri,h3,f2,f3,f4,f5⟩)
    ·rw[hρo q (hbρ q row h3)]at f3
     rcases D5 q row h3 with h3 | ⟨t,l,m,c,e1,e2,e3,rfl,e5,e6⟩
     ·exact .inl (.inl (.inr ⟨q,row,ri,h3,f2,c5 _ _ f3,f4,f5⟩))
     ·exact .inr ⟨q,t,l,m,c,ri,e1,e2,e3,e5,e6,f3,f4,f5⟩
  have sZ:∀b,ownc b→sA outer ρ' g' b:=λb hb=>by
   obtain⟨q,row,ri,e1,e2,e3,e4,e5,e6⟩:=C4 b hb;exact .inr ⟨q,row,ri,e1,by rw[e2];rfl,e4,e5,e6⟩
  have tZ:∀b,sA outc ρx X b→sA outer ρ' g' b∨w.heap.size≤b:=by
   rintro b (hb | ⟨q,row,ri,f1,f2,f3,f4,f5⟩)
   ·exact .inl (hb.mono λq row h1 h2=>⟨row,c2 q row h1,h2⟩)
   ·obtain⟨ri',k1,_,k2⟩:=hX.rows q row f1;rw[f3]at k1;cases k1
    rcases(k2 f4).1.2 f2 with h3 | h3
    ·exact .inr (by omega)
    ·exact .inl (by rw[←f5];exact sZ _ h3)
  -- what the arguments' taking keeps clear of was kept clear of before
  have B3:∀b,QS w b→sA outer ρ' g' b→sA outer ρ st.h b:=by
   rintro b ⟨o,u,hu⟩ GX;refine Classical.byContradiction λhn=>?_
   have h1:VR w ρ (sA outer ρ st.h) (.pointer (some (at_ b (o+0)))) (.fp [.undef] 0):=
    .fp [.undef] 0 b o (fun _ => u) (by simp) hn (fun j hj => by have : j = 0 := by simpa using hj
                                                                 subst this;exact hu) λj hj=>by
     have:j=0:=by simpa using hj
     subst this;exact .undef _
   have h2:=c6 _ _ h1;generalize hp:Value.pointer (some (at_ b (o+0)))=pv at h2;cases h2 with
   | fp _ _ b2 o2 u2 _ W1 hu2 _=>
    have:b=b2:=by injection hp with hp;injection hp with hp;exact congrArg Addr.block hp
    subst this;exact W1 GX
  have C3:∀b,Rest b→sA outer ρ st.h b∧b<w.heap.size∧¬ownc b∧jA.base≤b∧∃t m,DF w b t∧ci.pb=false∧OE ci.own 0 (ci.eR r)=some m∧m≤t.rank:=by
   rintro b ⟨q,t,l,m,c,ri,e1,e2,e3,e4,e5,e6,e7,e8⟩;obtain⟨ri2,k1,k2,k3⟩:=hr.heap.rows q _ e4;rw[e6]at k1;cases k1;obtain⟨ri3,n1,n2⟩:=WV q _ e5;have:=c5 _ _ e6;rw[n1]at this;cases this;subst e8;refine⟨.inr ⟨q,_,ri,e4,rfl,e6,e7,rfl⟩,(k3 e7).2,(n2 e7).1,?_,t,m,?_,e1,e2,e3⟩
   ·rcases(k3 e7).1.2 rfl with h | h
    ·exact Nat.le_trans hr.glob.base h
    ·exact Nat.le_of_not_lt λh'=>hr.glob.low _ h' h
   ·rcases k2.2 with h | ⟨_,he,_⟩
    ·rw[e7]at h;cases h.1
    ·exact he
  have keepAll:∀u d,VR w ρ (sA outer ρ st.h) u d→VR w1 ρn (sA outer ρn oX) u d:=λu d hu=>
   hu.keep2 hu.refs (λq ri hq h3=>by rw[hρo q hq];exact h3)
    (fun b hb hc=>by
     obtain⟨_,_,uZ⟩:=hc;exact hX.old b (YU uZ) λho=>hb (B3 b ⟨_,_,uZ⟩ (sZ b ho)))
    λb hc GX=>by
     obtain⟨_,_,uZ⟩:=id hc;have:=YU uZ
     rcases OX b GX with h | h
     ·rcases tZ b h with h | h
      ·exact B3 b hc h
      ·omega
     ·exact(C3 b h).1
  have keepX:∀u d,(∀m,ci.pb=false→OE ci.own 0 (ci.eR r)=some m→Rk m d)→VR w1 ρx (sA outc ρx X) u d→VR w1 ρn (sA outer ρn oX) u d:=λu d hk hu=>by
   have h0:VR w1 ρx (sA outer ρn oX) u d:=by
    by_cases hm:∃m,ci.pb=false∧OE ci.own 0 (ci.eR r)=some m
    ·obtain⟨m,hp,hm⟩:=hm;refine hu.widen (hk m hp hm) λb GX=>?_
     rcases OX b GX with h | h
     ·exact .inl h
     ·obtain⟨_,h1,h2,h3,t,m',h4,_,h5,h6⟩:=C3 b h;rw[hm]at h5;cases h5;exact .inr ⟨h3,t,h4.same (hX.old b h1 h2),h6⟩
    ·refine hu.mono (λ_ _ h=>h) (λ_ _ _=>rfl) λb GX=>?_
     rcases OX b GX with h | ⟨_,_,_,m,_,_,h1,h2,_⟩
     ·exact .inl h
     ·exact absurd ⟨m,h1,h2⟩ hm
   exact h0.keep h0.refs (λq ri hq h3=>by rw[hρx q hq];exact h3) (λ_ _ _=>rfl) λb hb=> .inl hb
  have keepRow:∀q row ri,X q=some row→ZD w1 ρx (sA outc ρx X) ri row.c→ZD w1 ρn (sA outer ρn oX) ri row.c:=λq row ri hq XV=>by
   by_cases hm:∃m,ci.pb=false∧OE ci.own 0 (ci.eR r)=some m
   ·obtain⟨m,hp,hm⟩:=hm;exact XV.keepR ((hrk m hp hm).1 q row hq) (λ_=>rfl) λu d hd hu=>keepX u d (λm' _ hm'=>by rw[hm]at hm';cases hm';exact hd) hu
   ·exact XV.keep (λ_=>rfl) λu d hu=>keepX u d (λm hp h=>absurd ⟨m,hp,h⟩ hm) hu
  have PW:∀q row,X q=some row→∃ri,ρn q=some ri∧ρx q=some ri∧ZD w1 ρx (sA outc ρx X) ri row.c∧(ri.nl=false→(w.heap.size≤ri.b∨ownc ri.b)∧ri.b<w1.heap.size):=λq row hq=>by
   obtain⟨ri,k1,k2,k3⟩:=hX.rows q row hq;exact⟨ri,by rw[hXρ q row hq];exact k1,k1,k2,λhn=>⟨(k3 hn).1.2 (by rw[zfJ sW (by rw[←I8]at hq;exact hq)];rfl),(k3 hn).2⟩⟩
  have zY:∀q row,hb q=some row→∃ri,ρn q=some ri∧ρ q=some ri∧ρ' q=some ri∧ZD w ρ (sA outer ρ st.h) ri row.c∧(ri.nl=false→¬ownc ri.b∧ri.b<w.heap.size∧(¬outer ri.b∧(row.m.isRo=false→w0.heap.size≤ri.b∨own ri.b))):=λq row hq=>by
   rcases D5 q row hq with hq | ⟨t,l,m,c,e1,e2,e3,rfl,e5,e6⟩
   ·obtain⟨row',h3,h4,_⟩:=bW q row hq;obtain⟨ri,k1,k2,_⟩:=hr.heap.rows q row' h3;obtain⟨ri',k3,k4⟩:=WV q row hq;have:=c5 _ _ k1;rw[k3]at this;cases this;exact⟨ri,by rw[hρo q (hh'ρ q row hq)];exact k1,k1,k3,by rw[←h4];exact k2,k4⟩
   ·obtain⟨ri,k1,k2,k5⟩:=hr.heap.rows q _ e5;obtain⟨ri',k3,k4⟩:=WV q _ e6;have:=c5 _ _ k1;rw[k3]at this;cases this;exact⟨ri,by rw[hρo q (hh'ρ q _ e6)];exact k1,k1,k3,k2,λhn=>⟨(k4 hn).1,(k4 hn).2.1,(k5 hn).1⟩⟩
  have hbg:∀q row,hb q=some row→∃row',g' q=some row':=λq row hq=>by
   rcases D5 q row hq with hq | ⟨t,l,m,c,e1,e2,e3,rfl,e5,e6⟩
   ·exact⟨_,c2 q row hq⟩
   ·exact⟨_,c2 q _ e6⟩
  have G0:sB w0 outer own ρn oX w1:=by
   refine⟨hr.heap.wx.trans hX.wx,λb hb ho=>?_,hr.heap.outLt,λq row hq=>?_,λq q' row row' qi qi' h1 h2 h3 h4 h5 h6 h7=>?_⟩
   ·rw[←hr.heap.old b hb ho];refine hX.old b (Nat.lt_of_lt_of_le hb hr.heap.wx.size) λX9=>?_
    rcases(NX b X9).2 with h3 | h3
    ·omega
    ·exact ho h3
   ·rcases CW q row hq with h3 | ⟨_,h3⟩
    ·obtain⟨ri,k1,k2,k3,k4⟩:=PW q row h3;refine⟨ri,k1,keepRow q row ri h3 k3,λhn=>⟨?_,(k4 hn).2⟩⟩
     have hx:w0.heap.size≤ri.b∨own ri.b:=by
      rcases(k4 hn).1 with h4 | h4
      ·exact .inl (Nat.le_trans hr.heap.wx.size h4)
      ·exact(NX _ h4).2
     refine⟨λho=>?_,λ_=>hx⟩;obtain⟨g1,g2⟩:=hr.heap.outLt _ ho
     rcases hx with hx | hx
     ·omega
     ·exact g2 hx
    ·obtain⟨ri,k1,k2,k3,k4,k5⟩:=zY q row h3;refine⟨ri,k1,k4.keep (λhn=>hX.old _ (k5 hn).2.1 (k5 hn).1) keepAll,λhn=>⟨(k5 hn).2.2,Nat.lt_of_lt_of_le (k5 hn).2.1 hX.wx.size⟩⟩
   ·rcases CW q row h1 with k1 | ⟨_,k1⟩<;>rcases CW q' row' h2 with k2 | ⟨_,k2⟩
    ·obtain⟨r1,e1,e2,_⟩:=PW q row k1;obtain⟨r2,e3,e4,_⟩:=PW q' row' k2;rw[h3]at e1;cases e1;rw[h4]at e3;cases e3;exact hX.inj q q' row row' qi qi' k1 k2 e2 e4 h5 h6 h7
    ·obtain⟨r1,e1,e2,_,e5⟩:=PW q row k1;obtain⟨r2,e3,e4,e6,_,e7⟩:=zY q' row' k2;rw[h3]at e1;cases e1;rw[h4]at e3;cases e3
     rcases(e5 h5).1 with h8 | h8
     ·have:=(e7 h6).2.1;omega
     ·rw[h7]at h8;exact absurd h8 (e7 h6).1
    ·obtain⟨r1,e1,e2,_,e5⟩:=PW q' row' k2;obtain⟨r2,e3,e4,e6,_,e7⟩:=zY q row k1;rw[h4]at e1;cases e1;rw[h3]at e3;cases e3
     rcases(e5 h6).1 with h8 | h8
     ·have:=(e7 h5).2.1;omega
     ·rw[←h7]at h8;exact absurd h8 (e7 h5).1
    ·obtain⟨r1,e1,e2,e2',_⟩:=zY q row k1;obtain⟨r2,e3,e4,e4',_⟩:=zY q' row' k2;rw[h3]at e1;cases e1;rw[h4]at e3;cases e3;obtain⟨y1,y2⟩:=hbg q row k1;obtain⟨y3,y4⟩:=hbg q' row' k2;exact c1.inj q q' y1 y3 qi qi' y2 y4 e2' e4' h5 h6 h7
  have OV:bB C w0 outer own ρn {st with h:=oX} a w1:=hr.turn G0 keepAll;refine⟨ρn,(OV.put (keepX _ _ (λm hp hm=>(hrk m hp hm).2) hV) hk).1,λq hq=>?_,λq ri hq=>?_⟩
  ·simp only[ρn,hq,if_false]
  ·rw[hρo q (by rw[hq];simp)];exact hq
 intro next Q hn;unfold Oper.wp;rw[aW]
 rcases G with⟨G1,G2⟩ | ⟨v,w1,G1,G2⟩
 ·rw[G1,Oper.upon_enter];refine Calls.mono' G2 ?_;rintro e w1 ⟨v,rfl,h3⟩;exact hn _ _ (WB v w1 h3)
 ·rw[G1,Oper.upon_value];exact hn _ _ (WB v w1 G2)
omit hr in
omit [jA]in
def zu4{ci:eB}{as:List V}{bs:List Nat}{i:Nat}{rs:List V}{h h':Nat→Option tA}(hl:GF h h'):GF (eH ci as bs i rs h) (eH ci as bs i rs h'):=λr row hr=>by
 rw[kO]at hr⊢;split at hr
 ·rename_i x hx;cases hr;exact⟨_,rfl,rfl,id⟩
 ·exact hl r row hr
omit hr in
omit [jA]in
def zv5{dst:Option Nat}{st st':St}{v:V}{h:Nat→Option tA}(hk:VA C dst st v some=some st'):VA C dst {st with h:=h} v some=some {st' with h:=h}:=by
 cases dst with
 | none=>simp only[VA,Option.some.injEq]at hk⊢;subst hk;rfl
 | some d=>
  simp only[VA]at hk⊢;cases hb:Nat.blt d C.nt
  ·simp[hb]at hk
  ·simp only[hb,XC,Option.some.injEq]at hk⊢;subst hk;rfl
omit hr in
omit [jA]in
def zst{dst:Option Nat}{st st':St}{v:V}(hk:VA C dst st v some=some st'):st'.h=st.h:=by
 cases dst with
 | none=>simp only[VA,Option.some.injEq]at hk;subst hk;rfl
 | some d=>
  simp only[VA]at hk;cases hb:Nat.blt d C.nt
  ·simp[hb]at hk
  ·simp only[hb,XC,Option.some.injEq]at hk;subst hk;rfl
def ztt(hΦ:YF C)(bY:∃N,∀r,N≤r→ρ r=none)(IW:∀q,q<128→ρ (i+q)=none)(f:Nat)(args:Array Value)(as:List V)(YV:args.size=as.length)
  (BW:∀j (hj:j<as.length),VR w ρ (sA outer ρ st.h) (args.getD j undef) as[j]) (aW:(execOp a.eval o).run C.P w=(callFunc f args).run C.P w)
  (hk:fK C i o.dst st f as some=some st'):KC C.P o a w (DC C w0 outer own i ρ st'):=by
 unfold fK at hk;split at hk
 ·cases hk
 rename_i ci G4
 have H8:xB C.P f ci C.g:=by
  cases NV:Nat.blt f 1048576
  ·simp[NV]at G4
  ·simp only[NV,cond_true]at G4;have:=hΦ.ok _ _ G4;rwa [zsm f as (by simpa using NV)]at this
 split at hk
 ·split at hk
  ·cases hk
  rename_i as' h' bs EZ;obtain⟨x,qZ,hk⟩:=Option.bind_eq_some_iff.1 ((HS _ _).symm.trans hk);obtain⟨r,hF,hk⟩:=Option.bind_eq_some_iff.1 hk;cases sW:(Nat.ble (ci.eR r).length 128&&BM ci (ci.eR r))
  case false=>simp[sW]at hk
  simp only[sW,XC]at hk;simp only[Bool.and_eq_true]at sW;have dW:bB C w0 outer own ρ {st with h:=sO st.h} a w:=hr.less (zjS _)
  have D:=zkN (o:=o) dW bY IW f args as YV (λj hj=>(hr.heap.less (zjS st.h)).2 _ _ (BW j hj)) aW H8 EZ qZ hF (Nat.le_of_ble_eq_true sW.1)
   (st':= { st' with h:=eH ci as' bs i (ci.eR r) (sO st.h) }) (by
    rw[bL,sW.2,cond_true];exact zv5 (st:={st with h:=eH ci as' bs i (ci.eR r) st.h}) hk)
  refine λnext Q hn=>D next Q λa' w' ⟨ρ',h1,h2,h3⟩=>hn a' w' ⟨ρ',?_,h2,h3⟩;have e:st'.h=eH ci as' bs i (ci.eR r) st.h:=zst hk;have:=h1.less (h':=st'.h) (by rw[e];exact zu4 (zse _));exact this
 ·rename_i as' h' bs EZ;obtain⟨x,qZ,hk⟩:=Option.bind_eq_some_iff.1 ((HS _ _).symm.trans hk);obtain⟨r,hF,hk⟩:=Option.bind_eq_some_iff.1 hk;cases sW:Nat.ble (ci.eR r).length 128
  case false=>simp[sW]at hk
  simp only[sW,XC]at hk;exact zkN hr bY IW f args as YV BW aW H8 EZ qZ hF (Nat.le_of_ble_eq_true sW) hk
end
end Go.D
namespace Go.D
variable [jA]
section
variable {C:Cx} {w0:World} {outer own:Nat→Prop} {ρ:Nat→Option RI} {st st':St} {a:Act} {w:World} {h:Nat→Option tA}
variable {o:Oper} {i:Nat} (hr:bB C w0 outer own ρ st a w)
include hr
def zu7(hΦ:YF C)(bY:∃N,∀r,N≤r→ρ r=none)(IW:∀q,q<128→ρ (i+q)=none)(x:Operand)(args:Array Operand)(argTypes:Array TypeId)
  (ho:o.op= .call {callee:= .value x,args,argTypes}) (hk:rB C i o st some=some st'):KC C.P o a w (DC C w0 outer own i ρ st'):=by
 simp only[rB,ho]at hk;split at hk
 case h_2=>cases hk
 rename_i f cs cW;have hx:=hr.opd x;rw[cW]at hx;generalize hv:a.eval x=v at hx;cases hx with
 | fn _ _ caps hs hvc=>
 refine ztt hr hΦ bY IW f (args.map a.eval++caps) _ (by simp[hs]) (λj hj=>?_) ?_ hk
 ·by_cases mX:j<args.size
  ·rw[List.getElem_append_left (by simpa using mX),Array.getD_eq_getD_getElem?,Array.getElem?_append_left (by simpa using mX)];simp only[Array.getElem?_map,Array.getElem?_eq_getElem mX,Option.map_some,Option.getD_some,List.getElem_map,Array.getElem_toList];exact hr.opd _
  ·have RW:j - args.size<cs.length:=by simp at hj;omega
   rw[List.getElem_append_right (by simp;omega),Array.getD_eq_getD_getElem?,Array.getElem?_append_right (by simp;omega)];have:=hvc (j - args.size) RW;rw[Array.getD_eq_getD_getElem?]at this;simpa using this
 ·simp[execOp,ho,resolve,Deferred.ofValue,hv,invoke]
def zs9(c x y:Operand)(ho:o.op= .pick c x y)(t:Bool)(hc:opd st.s c= .bool t)(hk:VA C o.dst st (cond t (opd st.s x) (opd st.s y)) some=some st'):
  KC C.P o a w (DC C w0 outer own i ρ st'):=by
 have h1:=hr.opd c;rw[hc]at h1;generalize l9:a.eval c=vc at h1;cases h1;refine lC (v:=if t then a.eval x else a.eval y) (w':=w) ?_ (hr.after ?_ hk)
 ·cases t<;>simp[execOp,ho,l9,asBool]
 ·cases t
  ·exact hr.opd y
  ·exact hr.opd x
def zlj(hC:LF C)(hΦ:YF C)(bY:∃N,∀r,N≤r→ρ r=none)(IW:∀q,q<128→ρ (i+q)=none)(hk:rB C i o st some=some st'):
  KC C.P o a w (DC C w0 outer own i ρ st'):=by
 have hi:ρ i=none:=IW 0 (by omega);have none_of:∀{p:Prop},rB C i o st some=none→p:=λh=>by rw[h]at hk;cases hk
 cases ho:o.op with
 | move x=>exact zkU hr x (.inl ho) (by simpa only[rB,ho]using hk)
 | assign x=>exact zkU hr x (.inr ho) (by simpa only[rB,ho]using hk)
 | pick c x y=>
  simp only[rB,ho]at hk;split at hk
  case h_2=>cases hk
  rename_i t hc;split at hk
  ·rename_i p q hx hy;exact zuD hr c x y ho t p q hc hx hy hk
  ·exact zs9 hr c x y ho t hc hk
 | alloc e=>
  simp only[rB,ho]at hk;split at hk
  case h_2=>cases hk
  rename_i cs hz;exact zuf hr e ho hi cs hz hk
 | box e x=>
  simp only[rB,ho]at hk;cases hb:YG (cellsOf (opd st.s x))
  case false=>simp[hb]at hk
  simp only[hb,XC]at hk;exact zvD hr e x ho hi hb hk
 | build t parts=>exact zto hr t parts ho hk
 | buildSlice t len parts=>exact zqf hr hC t len parts ho hi hk
 | load t x=>exact zvj hr t x ho hk
 | store t x y=>exact ztI hr t x y ho hk
 | nilCheck x=>exact zrf hr x ho hk
 | binOp op t x y t'=>exact zuh hr op t t' x y ho hk
 | unOp op t x=>exact zvm hr op t x ho hk
 | convert s d x=>exact zr0 hr hC s d x ho hi hk
 | makeFunc fn first captured=>
  cases fn with
  | func f=>exact zqW hr f first captured ho hk
  | _=>exact none_of (by simp only[rB,ho])
 | makeSlice t x y=>exact zqu hr hC t x y ho hi hk
 | slice t x lo hi mx=>exact ztk hr hC t x lo hi mx ho hk
 | fieldAddr t x f=>exact zqF hr t x f ho hk
 | field t x f=>exact ztv hr t x f ho hk
 | indexAddr t x y=>exact zqQ hr hC t x y ho hk
 | index t x y=>exact ztD hr t x y ho hk
 | extract x ix=>exact zrO hr x ix ho hk
 | call c=>
  obtain⟨callee,args,argTypes⟩:=c;cases callee with
  | value x=>exact zu7 hr hΦ bY IW x args argTypes ho hk
  | invoke r m=>exact none_of (by simp only[rB,ho])
  | builtin b=>
   cases b with
   | len=>exact zvC hr args argTypes ho hk
   | append=>exact zsl hr hC args argTypes ho hi hk
   | min=>exact zv0 hr args argTypes ho hk
   | max=>exact zv8 hr args argTypes ho hk
   | _=>exact none_of (by simp only[rB,ho])
 | _=>exact none_of (by simp only[rB,ho])
end
end Go.D
namespace Go.D
variable [jA]
section
variable {C:Cx} {R:Type} {st:St} {K:St→Option R}
omit [jA]in
def pS(dst:Option Nat)(st:St)(v:V)(K:St→Option R):VA C dst st v K=(VA C dst st v some).bind K:=by
 cases dst with
 | none=>rfl
 | some d=>simp only[VA];cases Nat.blt d C.nt<;>rfl
omit [jA]in
def zt3(dst:Option Nat)(st:St)(r:Nat)(c:qF)(v:V)(K:St→Option R):rF C dst st r c v K=(rF C dst st r c v some).bind K:=pS _ _ _ _
omit [jA]in
def zp4{K1:V→Option St}{K2:V→Option R}(h:∀v,K2 v=(K1 v).bind K)(ag:Bool)(n:Nat)(cs:List V)(off:Nat):fG ag n cs off K2=(fG ag n cs off K1).bind K:=by
 cases ag<;>simp only[fG,XC,wS]
 ·grind
 ·cases Nat.ble (off+n) cs.length
  ·rfl
  ·exact h _
omit [jA]in
def ztX{K1:V→Option St}{K2:V→Option R}(h:∀v,K2 v=(K1 v).bind K)(op:BinOp)(x y:V):JM op x y K2=(JM op x y K1).bind K:=by
 have hb:∀(b:Bool) (v:V),(bif b then none else K2 v)=(bif b then none else K1 v:Option St).bind K:=λb v=>by cases b;exact h v;rfl
 have GX:∀(b:Bool) (v:V),(bif b then K2 v else none)=(bif b then K1 v else none:Option St).bind K:=λb v=>by cases b;rfl;exact h v
 unfold JM
 grind
omit [jA]in
def zi4{f1:Nat→Option St}{f2:Nat→Option R}(h:∀k,f2 k=(f1 k).bind K)(i:Int):∀(n k:Nat),UI f2 i k n=(UI f1 i k n).bind K
 | 0,k=>rfl
 | n+1,k=>by
  simp only[UI];cases i==(k:Int)
  ·exact zi4 h i n (k+1)
  ·exact h k
omit [jA]in
def ztf{K1:V→Option St}{K2:V→Option R}(h:∀v,K2 v=(K1 v).bind K)(d:TypeDesc)(tk:TypeId→TN→Bool)(hp:Nat→Option tA)(x:V)(lo hi:Option V):
  uO d tk hp x lo hi K2=(uO d tk hp x lo hi K1).bind K:=by
 have GX:∀(b:Bool) (v:V),(bif b then K2 v else none)=(bif b then K1 v else none:Option St).bind K:=λb v=>by cases b;rfl;exact h v
 unfold uO;split
 ·rfl
 split
 case h_2=>rfl
 rename_i len _ _ _ a b _ _;cases decide (0≤a)&&decide (a≤b)&&decide (b≤(len:Int))
 ·rfl
 simp only[cond_true];split
 ·exact GX _ _
 ·exact h _
 ·split
  ·exact GX _ _
  ·rfl
 ·exact GX _ _
 ·rfl
omit [jA]in
def zff{α:Type}(x:Option α){f1:α→Option St}{f2:α→Option R}(h:∀v,f2 v=(f1 v).bind K):Option.bind x f2=(Option.bind x f1).bind K:=by
 cases x with
 | none=>rfl
 | some v=>exact h v
omit [jA]in
def zuk(b:Bool){x1:Option St}{x2:Option R}(h:x2=x1.bind K):(bif b then x2 else none)=(bif b then x1 else none:Option St).bind K:=by
 grind
omit [jA]in
def zs1(b:Bool){x1:Option St}{x2:Option R}(h:x2=x1.bind K):(bif b then none else x2)=(bif b then none else x1:Option St).bind K:=by
 grind
omit [jA]in
def zgc(b:Bool){x1:Option St}{x2:Option R}(h:x2=x1.bind K):gd b x2 none=(gd b x1 none:Option St).bind K:=by
 cases b
 ·rfl
 ·exact h
omit [jA]in
def zuC(b:Bool){x1:Option St}{x2:Option R}(h:x2=x1.bind K):gd b none x2=(gd b none x1:Option St).bind K:=by
 cases b
 ·exact h
 ·rfl
omit [jA]in
def zfX{α:Type}(x:Option α){f1:α→Option St}{f2:α→Option R}(h:∀v,f2 v=(f1 v).bind K):lK x f2=(lK x f1).bind K:=by
 cases x with
 | none=>rfl
 | some v=>exact h v
omit [jA]in
def zsM(i:Nat)(dst:Option Nat)(f:Nat)(as:List V):fK C i dst st f as K=(fK C i dst st f as some).bind K:=by
 unfold fK;split
 ·rfl
 split
 ·split
  ·rfl
  exact zfX _ λ_=>zff _ λ_=>zgc _ (pS _ _ _ _)
 exact zfX _ λ_=>zff _ λ_=>zgc _ (pS _ _ _ _)
omit [jA]in
def YR(i:Nat)(o:Oper):rB C i o st K=(rB C i o st some).bind K:=by
 unfold rB
 repeat' first
  | rfl
  | exact pS _ _ _ _
  | exact zt3 _ _ _ _ _ _
  | exact zsM _ _ _ _
  | refine zp4 (λ_=>?_) _ _ _ _
  | refine ztX (λ_=>?_) _ _ _
  | refine zi4 (λ_=>?_) _ _ _
  | refine ztf (λ_=>?_) _ _ _ _ _ _
  | refine zuk _ ?_
  | refine zs1 _ ?_
  | refine zgc _ ?_
  | refine zuC _ ?_
  | refine zfX _ (λ_=>?_)
  | refine zff _ (λ_=>?_)
  | split
end
end Go.D
namespace Go.D
variable [jA]
def MD(π:Nat→Prop)(h h':Nat→Option tA):Prop:=∀r row,π r→h r=some row→row.m.isOwn=false→h' r=some row
omit [jA]in
def MD.refl(π:Nat→Prop)(h:Nat→Option tA):MD π h h:=λ_ _ _ h _=>h
omit [jA]in
def MD.trans{π:Nat→Prop}{a b c:Nat→Option tA}(h:MD π a b)(k:MD π b c):MD π a c:=λr row hn hr hm=>k r row hn (h r row hn hr hm) hm
omit [jA]in
def FK{π:Nat→Prop}{h h':Nat→Option tA}(k:MD π h h')(r:Nat)(x:Option tA)(hr:¬π r∨∃row,h r=some row∧row.m.isOwn=true):MD π h (zA h' r x):=λq row hn hq hm=>by
 rw[AA]
 ·exact k q row hn hq hm
 grind
omit [jA]in
def vN{π:Nat→Prop}{h:Nat→Option tA}(ids:List Nat)(hl:∀r∈ids,∀row,h r=some row→row.m.isLock=false):MD π h (yC h ids):=λq row hn hq hm=>by
 rw[wF]
 by_cases hi:q∈ids
 ·have:=hl q hi row hq;obtain⟨c,m⟩:=row;cases m
  ·cases hm
  ·simp[hi,hq]
  ·cases this
 ·simp[hi,hq]
def WI(h:Nat→Option tA)(ids:List Nat):Prop:=∀r∈ids,∀row,h r=some row→row.m.isLock=false
omit [jA]in
def xU(h:Nat→Option tA):WI h []:=λr hr=>by simp at hr
omit [jA]in
def zjd{h:Nat→Option tA}{i j:List Nat}(a:WI h i)(b:WI h j):WI h (i++j):=λr hr=>by
 rcases List.mem_append.1 hr with hr | hr
 ·exact a r hr
 ·exact b r hr
omit [jA]in
def zeF{h:Nat→Option tA}{r:Nat}{j:List Nat}(a:∀row,h r=some row→row.m.isLock=false)(b:WI h j):WI h (r :: j):=λq hq=>by
 rcases List.mem_cons.1 hq with rfl | hq
 ·exact a
 ·exact b q hq
omit [jA]in
def zea{h:Nat→Option tA}{v:V}{x:V×List Nat}(hf:xG h v=some x):WI h x.2:=by
 unfold xG at hf;split at hf
 ·split at hf
  ·rename_i t l m hr;cases hm:m.isLock<;>simp[hm]at hf
   subst hf;exact zeF (λrow h1=>by rw[hr]at h1;cases h1;exact hm) (xU _)
  ·cases hf
 ·split at hf
  ·rename_i t' l m hr;cases hm:m.isLock
   ·simp only[hm,cond_false]at hf;split at hf
    ·simp at hf;subst hf;exact zeF (λrow h1=>by rw[hr]at h1;cases h1;exact hm) (xU _)
    ·cases hf
   ·simp[hm]at hf
  ·cases hf
 ·cases hb:kG 8 v<;>simp[hb]at hf
  subst hf;exact xU _
omit [jA]in
def tT{h:Nat→Option tA}:∀{vs:List V} {x:List V×List Nat},RF h vs=some x→WI h x.2
 | [],x,hf=>by simp[RF]at hf;subst hf;exact xU _
 | v :: vs,x,hf=>by
  simp only[RF]at hf;split at hf
  ·cases hf
  rename_i h1;split at hf
  ·cases hf
  rename_i h2;cases hf;exact zjd (zea h1) (tT h2)
omit [jA]in
def zbG{h:Nat→Option tA}{v:V}{x:V×List Nat}(hf:fH h v=some x):WI h x.2:=by
 unfold fH at hf;split at hf
 ·split at hf
  ·rename_i h1;cases hf;exact(tT h1:_)
  ·cases hf
 ·split at hf
  ·rename_i cs m hr;cases hb:(m.isLock||cs.isEmpty)
   case true=>simp[hb]at hf
   simp only[hb,cond_false]at hf;split at hf
   ·rename_i h1;cases hf;refine zeF (λrow h2=>?_) (tT h1)
    grind
   ·cases hf
  ·cases hf
 ·exact zea hf
omit [jA]in
def zd9{h:Nat→Option tA}:∀{vs:List V} {x:List V×List Nat},TK h vs=some x→WI h x.2
 | [],x,hf=>by simp[TK]at hf;subst hf;exact xU _
 | v :: vs,x,hf=>by
  simp only[TK]at hf;split at hf
  ·cases hf
  rename_i h1;split at hf
  ·cases hf
  rename_i h2;cases hf;exact zjd (zbG h1) (zd9 h2)
omit [jA]in
def zjv{π:Nat→Prop}{h:Nat→Option tA}{t:TN}{v:V}{l:List (El t)}{r:Option Nat}(ht:yS h t v=some (l,r)):MD π h (pO h r):=by
 cases r with
 | none=>exact MD.refl _ _
 | some r=>
  refine FK (MD.refl _ _) r none (.inr ?_);unfold yS at ht;split at ht
  ·cases ht
  ·split at ht
   ·rename_i hr;split at ht
    ·cases ht;exact⟨_,hr,rfl⟩
    ·cases ht
   ·cases ht
  ·split at ht
   ·rename_i hr;split at ht
    ·cases ht;exact⟨_,hr,rfl⟩
    ·cases ht
   ·cases ht
  ·cases ht
omit [jA]in
def rI(π:Nat→Prop)(ow:List Nat):∀(cs:List V) (p:Nat) (h:Nat→Option tA) (x:List V×(Nat→Option tA)),OD ow p cs h=some x→MD π h x.2
 | [],p,h,x,ht=>by simp[OD]at ht;subst ht;exact MD.refl π h
 | c :: cs,p,h,x,ht=>by
  simp only[OD]at ht;cases hb:ow.any (Nat.beq p)
  ·simp only[hb,cond_false]at ht;split at ht
   case h_2=>cases ht
   rename_i hf;split at ht
   case h_2=>cases ht
   rename_i hr;cases ht;have k:=rI π ow cs (p+1) _ _ hr;exact(vN _ (zea hf)).trans k
  ·simp only[hb,cond_true]at ht;split at ht
   ·split at ht
    case h_2=>cases ht
    rename_i IV;split at ht
    case h_2=>cases ht
    rename_i hr;cases ht;have k:=rI π ow cs (p+1) _ _ hr;exact(FK (MD.refl π h) _ none (.inr ⟨_,IV,rfl⟩)).trans k
   ·split at ht
    case h_2=>cases ht
    rename_i hr;cases ht;have:=rI π ow cs _ _ _ hr;exact this
   ·split at ht
    case h_2=>cases ht
    rename_i IV;split at ht
    case h_2=>cases ht
    rename_i hr;cases ht;have k:=rI π ow cs (p+1) _ _ hr;exact(FK (MD.refl π h) _ none (.inr ⟨_,IV,rfl⟩)).trans k
   ·cases ht
omit [jA]in
def zT(π:Nat→Prop):∀(ks:List nB) (as:List V) (h:Nat→Option tA) (x:List V×(Nat→Option tA)×List Nat),dC ks as h=some x→
  MD π h x.2.1∧∀b∈x.2.2,∃row,h b=some row∧row.m.isOwn=true
 | [],[],h,x,ht=>by simp[dC]at ht;subst ht;exact⟨MD.refl π h,λb hb=>by simp at hb⟩
 | [],_ :: _,h,x,ht=>by simp[dC]at ht
 | .plain :: ks,[],h,x,ht=>by simp[dC]at ht
 | .ptr _ :: ks,[],h,x,ht=>by simp[dC]at ht
 | .mv _ :: ks,[],h,x,ht=>by simp[dC]at ht
 | .ms :: ks,[],h,x,ht=>by simp[dC]at ht
 | .mv ow :: ks,v :: vs,h,x,ht=>by
  obtain⟨cs,rfl⟩:=zeI ht;simp only[dC]at ht;cases hb:Nat.ble cs.length 127
  case false=>simp[hb]at ht
  simp only[hb,cond_true]at ht;split at ht
  ·cases ht
  rename_i hl;split at ht
  ·cases ht
  rename_i hr;cases ht;obtain⟨k1,k2⟩:=zT π ks vs _ _ hr;refine⟨(rI π _ _ _ _ _ hl).trans k1,λb hb=>?_⟩;obtain⟨row,h1,h2⟩:=k2 b hb;obtain⟨row2,h3,h4,h5⟩:=sJ _ _ _ _ _ hl b row h1;refine⟨row2,h3,?_⟩;cases ho:row2.m.isOwn with
  | true=>rfl
  | false=>
   have:=rI (λ_=>True) _ _ _ _ _ hl b row2 trivial h3 ho
   grind
 | .ms :: ks,v :: vs,h,x,ht=>by
  simp only[dC]at ht;split at ht
  case h_2=>cases ht
  rename_i hl;split at ht
  ·cases ht
  rename_i hr;cases ht;obtain⟨k1,k2⟩:=zT π ks vs _ _ hr;refine⟨(rI π _ _ _ _ _ hl).trans k1,λb hb=>?_⟩;obtain⟨row,h1,h2⟩:=k2 b hb;obtain⟨row2,h3,h4,h5⟩:=sJ _ _ _ _ _ hl b row h1;refine⟨row2,h3,?_⟩;cases ho:row2.m.isOwn with
  | true=>rfl
  | false=>
   have:=rI (λ_=>True) _ _ _ _ _ hl b row2 trivial h3 ho
   grind
 | .plain :: ks,v :: vs,h,x,ht=>by
  simp only[dC]at ht;split at ht
  ·cases ht
  rename_i v' ids hf;split at ht
  ·cases ht
  rename_i hr;cases ht;obtain⟨k1,k2⟩:=zT π ks vs _ _ hr;refine⟨(vN _ (zbG hf)).trans k1,λb hb=>?_⟩;obtain⟨row,h1,h2⟩:=k2 b hb;obtain⟨row',h3,h4,h5⟩:=lU h ids b row h1;rw[wF]at h1
  by_cases hm:b∈ids
  ·simp[hm,h3]at h1;subst h1;cases h2
  grind
 | .ptr ow :: ks,v :: vs,h,x,ht=>by
  obtain⟨r,rfl⟩:=zeu ht;simp only[dC]at ht;split at ht
  case h_2=>cases ht
  rename_i cs IV;cases hb:Nat.ble cs.length 127
  case false=>simp[hb]at ht
  simp only[hb,cond_true]at ht;split at ht
  ·cases ht
  rename_i hl;split at ht
  ·cases ht
  rename_i hr;cases ht;obtain⟨k1,k2⟩:=zT π ks vs _ _ hr;refine⟨(FK (MD.refl π h) _ none (.inr ⟨_,IV,rfl⟩)).trans ((rI π _ _ _ _ _ hl).trans k1),λb hb=>?_⟩
  rcases List.mem_cons.1 hb with rfl | hb
  ·exact⟨_,IV,rfl⟩
  ·obtain⟨row,h1,h2⟩:=k2 b hb;obtain⟨row2,h3,h4,h5⟩:=sJ _ _ _ _ _ hl b row h1;have P2:b≠r:=by rintro rfl;rw[RA]at h3;cases h3
   rw[AA _ _ _ _ P2]at h3;refine⟨row2,h3,?_⟩;cases ho:row2.m.isOwn with
   | true=>rfl
   | false=>
    have:=rI (λ_=>True) _ _ _ _ _ hl b row2 trivial (by rw[AA _ _ _ _ P2];exact h3) ho
    grind
def dD{α:Type}(p:α→Prop)(x:Option α):Prop:=∀y,x=some y→p y
structure BO(π:Nat→Prop)(dst:Option Nat)(st st':St):Prop where
 slots:∀s,dst≠some s→st'.s s=st.s s
 rows:MD π st.h st'.h
 nx:st'.nx=st.nx
section
variable {C:Cx} {st:St} {π:Nat→Prop} {dst:Option Nat}
omit [jA]in
def lF{α:Type}{p:α→Prop}:dD p none:=λ_ h=>by cases h
omit [jA]in
def sM{h':Nat→Option tA}(hk:MD π st.h h')(v:V):dD (BO π dst st) (VA C dst {st with h:=h'} v some):=by
 intro st' h;cases dst with
 | none=>simp[VA]at h;subst h;exact⟨λ_ _=>rfl,hk,rfl⟩
 | some d=>
  simp only[VA]at h;cases hb:Nat.blt d C.nt<;>simp[hb]at h
  subst h;exact⟨λs hs=>AA _ _ _ _ (λe=>hs (by rw[e])),hk,rfl⟩
omit [jA]in
def zcB(v:V):dD (BO π dst st) (VA C dst st v some):=sM (MD.refl π st.h) v
omit [jA]in
def zlh{h':Nat→Option tA}(hk:MD π st.h h'){i:Nat}(hi:∀q,q<128→¬π (i+q))(c:qF)(v:V):dD (BO π dst st) (rF C dst {st with h:=h'} i c v some):=sM (FK hk i _ (.inl (hi 0 (by omega)))) v
omit [jA]in
def zt4{i:Nat}(hi:∀q,q<128→¬π (i+q))(c:qF)(v:V):dD (BO π dst st) (rF C dst st i c v some):=sM (FK (MD.refl π st.h) i _ (.inl (hi 0 (by omega)))) v
omit [jA]in
def kS{α:Type}{p:α→Prop}(b:Bool){x:Option α}(h:b=true→dD p x):dD p (bif b then x else none):=by
 cases b
 ·exact lF
 ·exact h rfl
omit [jA]in
def FR{α:Type}{p:α→Prop}(b:Bool){x:Option α}(h:b=false→dD p x):dD p (bif b then none else x):=by
 cases b
 ·exact h rfl
 ·exact lF
omit [jA]in
def oS{α β:Type}{p:β→Prop}(x:Option α){f:α→Option β}(h:∀v,x=some v→dD p (f v)):dD p (Option.bind x f):=by
 cases x with
 | none=>exact lF
 | some v=>exact h v rfl
omit [jA]in
def cK{α:Type}{p:α→Prop}(b:Bool){x:Option α}(h:b=true→dD p x):dD p (gd b x none):=by
 cases b
 ·exact lF
 ·exact h rfl
omit [jA]in
def zkS{α:Type}{p:α→Prop}(b:Bool){x:Option α}(h:b=false→dD p x):dD p (gd b none x):=by
 cases b
 ·exact h rfl
 ·exact lF
omit [jA]in
def zS{α β:Type}{p:β→Prop}(x:Option α){f:α→Option β}(h:∀v,x=some v→dD p (f v)):dD p (lK x f):=by
 cases x with
 | none=>exact lF
 | some v=>exact h v rfl
omit [jA]in
def zkk{p:St→Prop}{K:V→Option St}(h:∀v,dD p (K v))(ag:Bool)(m:Nat)(cs:List V)(off:Nat):dD p (fG ag m cs off K):=by
 cases ag<;>simp only[fG,XC,wS]
 ·split
  ·exact h _
  ·exact lF
 ·exact cK _ λ_=>h _
omit [jA]in
def zk8{p:St→Prop}{K:V→Option St}(h:∀v,dD p (K v))(op:BinOp)(x y:V):dD p (JM op x y K):=by
 unfold JM;split
 ·exact kS _ λ_=>FR _ λ_=>h _
 ·exact kS _ λ_=>FR _ λ_=>h _
 ·exact FR _ λ_=>h _
 ·exact FR _ λ_=>h _
 ·exact kS _ λ_=>h _
 ·split
  ·exact h _
  ·exact lF
omit [jA]in
def ze3{p:St→Prop}{f:Nat→Option St}(h:∀k,dD p (f k))(i:Int):∀(m k:Nat),dD p (UI f i k m)
 | 0,k=>lF
 | m+1,k=>by
  simp only[UI];cases i==(k:Int)
  ·exact ze3 h i m (k+1)
  ·exact h k
omit [jA]in
def zkW{p:St→Prop}{K:V→Option St}(h:∀v,dD p (K v))(d:TypeDesc)(tk:TypeId→TN→Bool)(hp:Nat→Option tA)(x:V)(lo hi:Option V):dD p (uO d tk hp x lo hi K):=by
 unfold uO;split
 ·exact lF
 split
 case h_2=>exact lF
 refine kS _ λ_=>?_;split
 ·exact cK _ λ_=>h _
 ·exact h _
 ·split
  ·exact cK _ λ_=>h _
  ·exact lF
 ·exact cK _ λ_=>h _
 ·exact lF
omit [jA]in
def ziJ:∀(ks:List nB) (as:List V) (h:Nat→Option tA) (x:List V×(Nat→Option tA)×List Nat),ks.all nB.isPlain=true→dC ks as h=some x→x.2.2=[]
 | [],[],h,x,_,ht=>by simp[dC]at ht;subst ht;rfl
 | [],_ :: _,h,x,_,ht=>by simp[dC]at ht
 | .plain :: ks,[],h,x,_,ht=>by simp[dC]at ht
 | .plain :: ks,v :: vs,h,x,hp,ht=>by
  simp only[List.all_cons,Bool.and_eq_true]at hp;simp only[dC]at ht;split at ht
  ·cases ht
  split at ht
  ·cases ht
  rename_i hr;cases ht;have:=ziJ ks vs _ _ hp.2 hr;exact this
 | .ptr _ :: ks,as,h,x,hp,ht=>by simp[nB.isPlain]at hp
 | .mv _ :: ks,as,h,x,hp,ht=>by simp[nB.isPlain]at hp
 | .ms :: ks,as,h,x,hp,ht=>by simp[nB.isPlain]at hp
omit [jA]in
def zrc{ci:eB}{rs:List V}{h h':Nat→Option tA}{q:Nat}{row:tA}(hq:bL ci rs h h' q=some row):h q=some row∨h' q=some row:=by
 unfold bL at hq;cases hp:BM ci rs
 ·rw[hp,cond_false]at hq;cases hb:ci.pb
  ·rw[hb,cond_false]at hq;cases hm:OE ci.own 0 rs with
   | none=>rw[hm]at hq;exact .inr hq
   | some m=>
    rw[hm]at hq;have hq:iL m h h' q=some row:=hq;unfold iL at hq
    grind
  grind
 grind
omit [jA]in
def zrL{ci:eB}{rs:List V}{h h':Nat→Option tA}{q:Nat}{row:tA}(h1:h q=some row)(h2:h' q=some row)(hm:row.m.isOwn=false):bL ci rs h h' q=some row:=by
 unfold bL;cases BM ci rs
 ·cases ci.pb
  ·simp only[cond_false];cases OE ci.own 0 rs with
   | none=>exact h2
   | some m=>
    show iL m h h' q=some row
    unfold iL
    grind
  ·exact h2
 ·exact h1
omit [jA]in
def ztq{i:Nat}(hi:∀q,q<128→¬π (i+q))(f:Nat)(as:List V):dD (BO π dst st) (fK C i dst st f as some):=by
 unfold fK;split
 ·exact lF
 rename_i ci _;split
 ·split
  ·exact lF
  rename_i as' h' bs EZ;refine zS _ λx _=>oS _ λr _=>cK _ λLV=>sM ?_ _;simp only[Bool.and_eq_true]at LV;intro q row hq IV hm;rw[kO]
  have SW:nE ci as' bs i (ci.eR r) q=none:=by
   cases hx:nE ci as' bs i (ci.eR r) q with
   | none=>rfl
   | some y=>
    rcases zlo (Nat.le_of_ble_eq_true LV.1) hx with h1 | h1
    ·have hp:=LV.2;simp only[BM,Bool.and_eq_true]at hp;have hb:bs=[]:=ziJ ci.ks as _ _ hp.1.2 EZ
     grind
    ·exact absurd hq (by have:=hi (q - i) (by omega);rwa [show i+(q - i)=q by omega]at this)
  grind
 rename_i as' h' bs EZ;refine zS _ λx _=>oS _ λr _=>cK _ λLV=>sM ?_ _;obtain⟨k1,k2⟩:=zT π _ _ _ _ EZ;intro q row hq IV hm;have LV:=Nat.le_of_ble_eq_true LV;rw[kO]
 have SW:nE ci as' bs i (ci.eR r) q=none:=by
  cases hx:nE ci as' bs i (ci.eR r) q with
  | none=>rfl
  | some y=>
   rcases zlo LV hx with h1 | h1
   ·grind
   ·exact absurd hq (by have:=hi (q - i) (by omega);rwa [show i+(q - i)=q by omega]at this)
 rw[SW];exact zrL IV (k1 q row hq IV hm) hm
omit [jA]in
def ziE{i:Nat}(hi:∀q,q<128→¬π (i+q))(o:Oper):dD (BO π o.dst st) (rB C i o st some):=by
 unfold rB
 repeat' first
  | exact lF
  | exact zcB _
  | exact zt4 hi _ _
  | exact ztq hi _ _
  | exact sM (vN _ (zd9 ‹_›)) _
  | exact zlh (vN _ (zd9 ‹_›)) hi _ _
  | exact zlh (zjv ‹_›) hi _ _
  | exact sM (FK (MD.refl π st.h) _ _ (.inr ⟨_, ‹_›,rfl⟩)) _
  | exact sM (FK (vN _ (tT ‹_›)) _ _ (.inr ⟨_, ‹_›,rfl⟩)) _
  | refine zkk (λ_=>?_) _ _ _ _
  | refine zk8 (λ_=>?_) _ _ _
  | refine ze3 (λ_=>?_) _ _ _
  | refine zkW (λ_=>?_) _ _ _ _ _ _
  | refine kS _ (λ_=>?_)
  | refine FR _ (λ_=>?_)
  | refine cK _ (λ_=>?_)
  | refine zkS _ (λ_=>?_)
  | refine zS _ (λ_ _=>?_)
  | refine oS _ (λ_ _=>?_)
  | split
end
abbrev kD(n:Nat)(h h':Nat→Option tA):Prop:=MD (λr=>r<n) h h'
omit [jA]in
def kD.refl(n:Nat)(h:Nat→Option tA):kD n h h:=MD.refl _ h
omit [jA]in
def kD.trans{n:Nat}{a b c:Nat→Option tA}(h:kD n a b)(k:kD n b c):kD n a c:=MD.trans h k
omit [jA]in
def kD.le{n m:Nat}{a b:Nat→Option tA}(h:kD n a b)(hm:m≤n):kD m a b:=λr row hr=>h r row (by have:r<m:=hr;show r<n;omega)
omit [jA]in
def zjt{C:Cx}{st:St}{n:Nat}{i:Nat}(hi:n≤i)(o:Oper):dD (BO (λr=>r<n) o.dst st) (rB C i o st some):=ziE (λq _ h=>by omega) o
end Go.D

/-
 One operation, continued: conversions, closures, what is made.
-/
import Derived.Test.YtdmiplkjdpcbeaaGreatL3
import Derived.Laws.IdiomStrings
import Derived.Laws.BytesArg
import Derived.Laws.MakeOwn
namespace Go.D
variable [fA]
omit [fA] in
theorem UU (t:TN):sz t≤128:=by cases t <;> simp [sz]
section
variable {C:Cx} {w0:World} {outer own:Nat→Prop} {ρ:Nat→Option RI} {st st':St} {a:Act} {w:World} {h:Nat→Option nA}
omit [fA] in
theorem zfI:∀ (parts:List (Nat × Operand)) (k:Nat) (vs:List V),dO st.s k parts=some vs→vs.length=parts.length∧
  ∀ j (hj:j<parts.length),(parts[j]).1=k+j∧∃ (h:j<vs.length),vs[j]=opd st.s (parts[j]).2
 | [],k,vs,h=>by simp [dO] at h;subst h;exact ⟨rfl,fun j hj=>by simp at hj⟩
 | (j,x) :: r,k,vs,h=>by
  simp only [dO] at h
  cases hb:Nat.beq k j
  case false=>simp [hb] at h
  have hkj:=Nat.eq_of_beq_eq_true hb
  simp only [hb,cond_true] at h
  split at h
  ·cases h
  rename_i vs' hv
  cases h
  obtain ⟨h1,h2⟩:=zfI r (k+1) vs' hv
  refine ⟨by simp [h1],fun q hq=>?_⟩
  cases q with
  | zero=>exact ⟨by simp [hkj],by simp,rfl⟩
  | succ q=>
   obtain ⟨h3,h4,h5⟩:=h2 q (by simpa using hq)
   refine ⟨by simp [h3];omega,by simp;omega,?_⟩
   simpa using h5
omit [fA] in
theorem zeV (off:Nat):∀ (l:List (Value × Nat)) (k:Nat) (cs:Array Value),(∀ j (hj:j<l.length),(l[j]).2=k+j)→
  (l.foldl (fun cs (c,j)=>cs.setIfInBounds (off+j) c) cs).size=cs.size∧
  ∀ p,p<cs.size→(l.foldl (fun cs (c,j)=>cs.setIfInBounds (off+j) c) cs).getD p undef=if h:off+k≤p∧p<off+k+l.length then (l[p - (off+k)]'(by omega)).1 else cs.getD p undef
 | [],k,cs,_=>⟨rfl,fun p hp=>by simp;omega⟩
 | (c,j) :: l,k,cs,hl=>by
  have hj:j=k:=hl 0 (by simp)
  subst hj
  obtain ⟨h1,h2⟩:=zeV off l (j+1) (cs.setIfInBounds (off+j) c) (fun q hq=>by have:=hl (q+1) (by simp;omega);simp at this;omega)
  refine ⟨by simp only [List.foldl_cons];rw [h1];simp,fun p hp=>?_⟩
  simp only [List.foldl_cons]
  rw [h2 p (by simpa using hp)]
  by_cases VW:off+(j+1)≤p∧p<off+(j+1)+l.length
  ·rw [dif_pos VW,dif_pos ⟨by omega,by simp;omega⟩]
   have:p - (off+j)=p - (off+(j+1))+1:=by omega
   simp [this]
  ·rw [dif_neg VW]
   by_cases he:p=off+j
   ·subst he
    rw [dif_pos ⟨Nat.le_refl _,by simp⟩]
    rw [Array.getD_eq_getD_getElem?,Array.getElem?_setIfInBounds]
    simp [hp]
   ·rw [dif_neg (by simp;omega)]
    rw [Array.getD_eq_getD_getElem?,Array.getElem?_setIfInBounds,if_neg (by omega),Array.getD_eq_getD_getElem?]
omit [fA] in
theorem zeP (v:Value) (off:Nat) (cs:Array Value):(v.cells.zipIdx.foldl (fun cs (c,j)=>cs.setIfInBounds (off+j) c) cs).size=cs.size∧
  ∀ p,p<cs.size→(v.cells.zipIdx.foldl (fun cs (c,j)=>cs.setIfInBounds (off+j) c) cs).getD p undef=if off≤p∧p<off+v.cells.size then v.cells.getD (p - off) undef else cs.getD p undef:=by
 rw [← Array.foldl_toList]
 obtain ⟨h1,h2⟩:=zeV off v.cells.zipIdx.toList 0 cs (fun j hj=>by simp)
 refine ⟨h1,fun p hp=>?_⟩
 rw [h2 p hp]
 by_cases VW:off≤p∧p<off+v.cells.size
 ·rw [if_pos VW,dif_pos (by simpa using VW)]
  rw [Array.getD_eq_getD_getElem?,Array.getElem?_eq_getElem (by omega)]
  simp
 ·rw [if_neg VW,dif_neg (by simpa using VW)]
omit [fA] in
theorem zeR (size:Nat):∀ (parts:List (Nat × Value)) (k:Nat) (cs:Array Value),(∀ j (hj:j<parts.length),(parts[j]).1=k+j∧(parts[j]).2.cells.size=size)→
  (k+parts.length) *size≤cs.size→∃ cs',Instr.fill (fun i=>some (i *size,size)) cs parts=some cs'∧cs'.size=cs.size∧
   (∀ j (hj:j<parts.length) q,q<size→cs'.getD ((k+j) *size+q) undef=(parts[j]).2.cells.getD q undef)∧∀ p,p<k *size→cs'.getD p undef=cs.getD p undef
 | [],k,cs,_,_=>⟨cs,rfl,rfl,fun j hj=>by simp at hj,fun _ _=>rfl⟩
 | (i,v) :: r,k,cs,hp,hs=>by
  obtain ⟨h1,h2⟩:=hp 0 (by simp)
  simp only [List.getElem_cons_zero,Nat.add_zero] at h1 h2
  subst h1
  simp only [List.length_cons] at hs
  have R7:(i+1+r.length) *size=i *size+size+r.length *size:=by rw [Nat.add_mul,Nat.add_mul,Nat.one_mul]
  have hs3:(i+(r.length+1)) *size=i *size+size+r.length *size:=by rw [Nat.add_mul,Nat.add_mul,Nat.one_mul];omega
  obtain ⟨h3,h4⟩:=zeP v (i *size) cs
  obtain ⟨cs',h5,h6,h7,h8⟩:=zeR size r (i+1) _ (fun j hj=>by have:=hp (j+1) (by simp;omega);simpa [Nat.add_assoc,Nat.add_comm 1 j] using this) (by rw [h3];omega)
  have eW:∀ j,j<r.length→(i+1+j) *size≥i *size+size:=fun j _=>by rw [Nat.add_mul,Nat.add_mul,Nat.one_mul];omega
  refine ⟨cs',?_,by rw [h6,h3],fun j hj q hq=>?_,fun p hp'=>?_⟩
  ·simp only [Instr.fill]
   rw [if_neg]
   ·exact h5
   ·simp [h2];omega
  ·cases j with
   | zero=>
    rw [Nat.add_zero,h8 _ (by rw [Nat.add_mul,Nat.one_mul];omega),h4 _ (by omega),if_pos ⟨by omega,by omega⟩]
    simp
   | succ j=>
    have:=h7 j (by simpa using hj) q hq
    rw [show i+(j+1)=i+1+j by omega,this];simp
  ·rw [h8 p (by rw [Nat.add_mul,Nat.one_mul];omega),h4 p (by omega),if_neg (by omega)]
omit [fA] in
theorem zej (t:TN):∀ (css:List (List V)) (l:List (El t)),dN t css=some l→l.length=css.length∧∀ j (hj:j<css.length) (DX:j<l.length),vB css[j] (enc t l[j])
 | [],l,h=>by simp [dN] at h;subst h;exact ⟨rfl,fun j hj=>by simp at hj⟩
 | cs :: css,l,h=>by
  simp only [dN] at h
  split at h
  ·cases h
  rename_i x hx
  split at h
  ·cases h
  rename_i l' hl
  cases h
  obtain ⟨h1,h2⟩:=zej t css l' hl
  refine ⟨by simp [h1],fun j hj DX=>?_⟩
  cases j with
  | zero=>exact CD t hx
  | succ j=>simpa using h2 j (by simpa using hj) (by simpa using DX)
variable {o:Oper} {i:Nat} (hr:RA C w0 outer own ρ st a w)
include hr
theorem zj5 (xs:List Operand):∀ j (hj:j<(xs.map (opd st.s)).length),VR w ρ (mA outer ρ st.h) ((xs.map a.eval).getD j undef) (xs.map (opd st.s))[j]:=fun j hj=>by
 have DX:j<xs.length:=by simpa using hj
 rw [List.getD_eq_getElem?_getD,List.getElem?_map,List.getElem?_eq_getElem DX,List.getElem_map]
 exact hr.opd xs[j]
theorem zrQ (f:Nat) (first captured:Array Operand) (ho:o.op= .makeFunc (.func f) first captured) (hk:bB C i o st some=some st'):OB C.P o a w (KB C w0 outer own i ρ st'):=by
 simp only [bB,ho] at hk
 cases he:first.isEmpty
 case false=>simp [he] at hk
 simp only [he,XB] at hk
 split at hk
 case h_2=>cases hk
 rename_i cs ids I0
 have he:first= #[]:=by simpa using he
 subst he
 obtain ⟨h1,h2⟩:=hr.heap.mark ids
 obtain ⟨h3,h4⟩:=za4 hr.heap (zj5 hr captured.toList) I0
 have MV:RA C w0 outer own ρ { st with h:=IB st.h ids } a w:=hr.turn h1 h2
 refine yB (v:= .func (.func f) #[] (captured.map a.eval)) (w':=w) (by simp [execOp,ho,Instr.makeFunc]) (MV.after (.fn f cs _ (by simp [h3]) fun j hj=>?_) hk)
 have:=(h4 j hj).1
 rw [Array.getD_eq_getD_getElem?]
 rw [List.getD_eq_getElem?_getD] at this
 simpa using this
theorem zrF (hC:yD C) (t:TypeId) (len:Nat) (parts:Array (Nat × Operand)) (ho:o.op= .buildSlice t len parts) (hi:ρ i=none) (hk:bB C i o st some=some st'):
  OB C.P o a w (KB C w0 outer own i ρ st'):=by
 simp only [bB,ho] at hk
 split at hk
 ·cases hk
 rename_i tn tX
 obtain ⟨e,he,C5⟩:=Option.bind_eq_some_iff.1 tX
 have hu:C.P.underlying t=some (.slice e):=by
  unfold mJ at he
  split at he
  ·rename_i h1;cases he;exact h1
  ·cases he
 obtain ⟨info,z,cZ,lX,N7,E6,Z8⟩:=hC.ok e tn C5
 split at hk
 ·cases hk
 rename_i vs M6
 cases hb:(Nat.beq vs.length len&&Nat.ble len 1000)
 case false=>simp [hb] at hk
 simp only [hb,XB] at hk
 simp only [Bool.and_eq_true] at hb
 have QV:=Nat.eq_of_beq_eq_true hb.1
 have AW:=Nat.le_of_ble_eq_true hb.2
 split at hk
 ·cases hk
 rename_i vs' ids I0
 obtain ⟨l,hl,hk⟩:=Option.bind_eq_some_iff.1 ((kK _ _).symm.trans hk)
 obtain ⟨hp1,hp2⟩:=zfI parts.toList 0 vs M6
 have RZ:parts.toList.length=len:=by omega
 have hps:parts.size=len:=by rw [← Array.length_toList];exact RZ
 have cY:∀ j (hj:j<vs.length),VR w ρ (mA outer ρ st.h) (a.eval ((parts.toList.map (·.2)).getD j (.const undef))) vs[j]:=fun j hj=>by
  obtain ⟨_,h4,h5⟩:=hp2 j (by omega)
  rw [h5,List.getD_eq_getElem?_getD,List.getElem?_map,List.getElem?_eq_getElem (by omega)]
  exact hr.opd _
 obtain ⟨h1,h2⟩:=hr.heap.mark ids
 obtain ⟨h3,h4⟩:=za4 hr.heap cY I0
 obtain ⟨h5,h6⟩:=zej tn _ l hl
 have MV:RA C w0 outer own ρ { st with h:=IB st.h ids } a w:=hr.turn h1 h2
 -- the cells
 let pv:List (Nat × Value):=parts.toList.map fun p=>(p.1,a.eval p.2)
 have hpvl:pv.length=len:=by simp [pv];omega
 have hll:l.length=len:=by rw [h5,List.length_map];omega
 have hpv:∀ j (hj:j<pv.length),(pv[j]).1=0+j∧(pv[j]).2.cells.size=sz tn∧∀ q,q<sz tn→∃ (DX:j<l.length),VR w ρ (mA outer ρ (IB st.h ids)) ((pv[j]).2.cells.getD q undef) ((enc tn l[j]).getD q .undef):=fun j hj=>by
  have hjv:j<vs'.length:=by omega
  have PY:j<l.length:=by omega
  obtain ⟨e1,e2,e3⟩:=hp2 j (by omega)
  obtain ⟨g1,g2⟩:=h4 j hjv
  have o0:(parts.toList.map (·.2)).getD j (.const undef)=(parts.toList[j]'(by omega)).2:=by
   rw [List.getD_eq_getElem?_getD,List.getElem?_map,List.getElem?_eq_getElem (by omega)];rfl
  rw [o0] at g1
  have JW:=h6 j (by simpa using hjv) PY
  rw [List.getElem_map] at JW
  have F4:(cellsOf vs'[j]).length=sz tn:=by rw [JW.len,aC]
  have hpj:pv[j]=((parts.toList[j]'(by omega)).1,a.eval (parts.toList[j]'(by omega)).2):=by simp [pv]
  rw [hpj]
  have N9:SE (cellsOf vs'[j])=true:=by
   rw [SE,List.all_eq_true]
   intro c hc
   obtain ⟨q,hq,rfl⟩:=List.mem_iff_getElem.1 hc
   have hs:=JW.get q hq (by rw [← JW.len];exact hq)
   have GZ:=zeu tn l[j] q (by omega)
   rw [qJ _ _ _ (by rw [aC];omega)] at GZ
   generalize (cellsOf vs'[j])[q]=c at hs
   generalize (enc tn l[j])[q]'_=d at hs GZ
   cases hs <;> first | exact GZ | rfl
  obtain ⟨f1,f2,f3⟩:=bV g1 N9
  refine ⟨e1,by rw [f1,F4],fun q hq=>⟨PY,?_⟩⟩
  have:=VR.sub (JW.get q (by omega) (by rw [aC];exact hq)) (f2 q (by omega))
  rwa [qJ _ _ _ (by rw [aC];exact hq)]
 obtain ⟨cs',c1,c2,c3,_⟩:=zeR (sz tn) pv 0 ((Array.range (len *sz tn)).map (fun k=>(if len *sz tn=0 then (#[]:Array Value) else z.cells)[k % (if len *sz tn=0 then (#[]:Array Value) else z.cells).size]!))
  (fun j hj=>⟨(hpv j hj).1,(hpv j hj).2.1⟩) (by simp [hpvl])
 have hcsz:cs'.size=len *sz tn:=by rw [c2];simp
 have hbig:¬ (2^24<len *sz tn):=by
  have h1:=UU tn
  have:len *sz tn≤1000 *128:=Nat.mul_le_mul AW h1
  omega
 have KV:(execOp a.eval o).run C.P w= .ok (.value (.slice (some ⟨w.heap.size,0,none⟩) len len)) (w.alloc (.cells cs' e)):=by
  have hpm:(parts.map fun x=>(x.1,a.eval x.2)).toList=pv:=by simp [pv]
  simp only [execOp,ho,Instr.buildSlice,Sem.run_bind,LD hu,Result.andThen_ok,sizeOf,typeInfo,run_program,cZ,Sem.run_pure,lX,gt_iff_lt,hbig,if_false]
  by_cases h0:len *sz tn=0
  ·simp only [h0,if_true] at c1 ⊢
   simp only [Sem.run_bind,Sem.run_pure,Result.andThen_ok,hpm,c1]
   rfl
  ·simp only [h0,if_false] at c1 ⊢
   simp only [Sem.run_bind,Sem.run_pure,Result.andThen_ok,zeroValue,typeInfo,run_program,cZ,E6,hpm,c1]
   rfl
 refine yB KV (MV.newRow hi ⟨w.heap.size,len,len,false⟩ (fun _=>rfl) _ (JP _ _) (fun b hb=>oN _ _ _ hb) (fun _=>by simp) (c:= .arr tn l) (fun bad NV=>?_) (fun bad=>?_) hk)
 ·refine ⟨hll.symm, .inr ⟨rfl,zaB (hC.tys e tn C5),Nat.le_refl _,by unfold maxLen;simp;omega,fun j hj=>⟨World.frozen?_alloc_new _ _ _ _,?_⟩,fun i' CW j hj=>?_⟩⟩
  ·have DX:j<len *sz tn:=hj
   rw [eJ w cs' e j (by omega)];rfl
  ·have hip:i'<pv.length:=by omega
   have RV:i' *sz tn+j<cs'.size:=by
    rw [hcsz]
    have:(i'+1) *sz tn≤len *sz tn:=Nat.mul_le_mul_right _ (by omega)
    rw [Nat.add_mul,Nat.one_mul] at this;omega
   obtain ⟨_,_,g3⟩:=hpv i' hip
   obtain ⟨_,g4⟩:=g3 j hj
   refine ⟨_,eJ w cs' e _ RV,?_⟩
   have:=c3 i' hip j hj
   rw [Nat.zero_add] at this
   rw [this]
   exact NV _ _ g4
 ·exact .ow i ⟨w.heap.size,len,len,false⟩ (IA _ _ _) (Nat.le_refl _) (by unfold maxLen;simp;omega) rfl
end
end Go.D
namespace Go.D
variable [fA]
section
variable {C:Cx} {w0:World} {outer own:Nat→Prop} {ρ:Nat→Option RI} {st st':St} {a:Act} {w:World}
theorem zeO (hr:RA C w0 outer own ρ st a w) (pl:List (Nat × Nat)):∀ (parts:List (Nat × Operand)) (cs cs':List V) (vs:Array Value),
  kN pl st.s cs parts=some cs'→vs.size=cs.length→(∀ j (hj:j<cs.length),VR w ρ (mA outer ρ st.h) (vs.getD j undef) cs[j])→
  ∃ vs',Instr.fill (fun i=>pl[i]?) vs (parts.map fun p=>(p.1,a.eval p.2))=some vs'∧vs'.size=cs'.length∧∀ j (hj:j<cs'.length),VR w ρ (mA outer ρ st.h) (vs'.getD j undef) cs'[j]
 | [],cs,cs',vs,hf,hs,hv=>by simp [kN] at hf;subst hf;exact ⟨vs,rfl,hs,hv⟩
 | (f,x) :: r,cs,cs',vs,hf,hs,hv=>by
  simp only [kN] at hf
  split at hf
  ·cases hf
  rename_i off n hp
  cases hb:(Nat.beq n (cellsOf (opd st.s x)).length&&SE (cellsOf (opd st.s x))&&Nat.ble (off+n) cs.length)
  case false=>simp [hb] at hf
  simp only [hb,cond_true] at hf
  simp only [Bool.and_eq_true] at hb
  obtain ⟨⟨F5,B4⟩,hb3⟩:=hb
  have hn:=Nat.eq_of_beq_eq_true F5
  have AW:=Nat.le_of_ble_eq_true hb3
  obtain ⟨g1,g2,_⟩:=bV (hr.opd x) B4
  obtain ⟨k1,k2⟩:=zeP (a.eval x) off vs
  obtain ⟨s1,s2⟩:=zb4 cs off (cellsOf (opd st.s x)) (by omega)
  obtain ⟨vs',h1,h2,h3⟩:=zeO hr pl r _ cs' _ hf (by rw [k1,s1,hs]) (fun j hj=>by
   rw [s2 j (by omega) hj,k2 j (by omega)]
   by_cases VW:off≤j∧j<off+(cellsOf (opd st.s x)).length
   ·rw [dif_pos VW,if_pos (by omega)];exact g2 _ (by omega)
   ·rw [dif_neg VW,if_neg (by omega)];exact hv j (by omega))
  refine ⟨vs',?_,h2,h3⟩
  simp only [List.map_cons,Instr.fill,hp]
  rw [if_neg]
  ·exact h1
  ·simp;omega
omit [fA] in
theorem zeQ {f g:Nat→Option (Nat × Nat)} (hfg:∀ k p,f k=some p→g k=some p):∀ (cs:Array Value) (l:List (Nat × Value)) (r:Array Value),Instr.fill f cs l=some r→Instr.fill g cs l=some r
 | cs,[],r,h=>h
 | cs,(i,v) :: l,r,h=>by
  simp only [Instr.fill] at h ⊢
  cases hf:f i with
  | none=>rw [hf] at h;cases h
  | some p=>
   obtain ⟨off,n⟩:=p
   rw [hf] at h
   rw [hfg i _ hf]
   simp only at h ⊢
   split at h
   ·cases h
   ·rename_i hc
    rw [if_neg hc]
    exact zeQ hfg _ l r h
variable {o:Oper} {i:Nat} (hr:RA C w0 outer own ρ st a w)
include hr
theorem zrE (t:TypeId) (parts:Array (Nat × Operand)) (ho:o.op= .build t parts) (hk:bB C i o st some=some st'):OB C.P o a w (KB C w0 outer own i ρ st'):=by
 simp only [bB,ho] at hk
 split at hk
 case h_2=>cases hk
 rename_i cs pl hz RZ
 obtain ⟨cs',hf,NV⟩:=Option.bind_eq_some_iff.1 ((kK _ _).symm.trans hk)
 unfold zeroCells at hz
 split at hz
 case h_2=>cases hz
 rename_i z C0
 cases hb:SE (z.cells.toList.map xJ) <;> simp [hb] at hz
 subst hz
 obtain ⟨info,cZ,lX⟩:=Option.bind_eq_some_iff.1 C0
 obtain ⟨vs',h1,h2,h3⟩:=zeO hr pl parts.toList _ cs' z.cells hf (by simp) (fun j hj=>by
  rw [List.getElem_map]
  have DX:j<z.cells.size:=by simpa using hj
  rw [Array.getD_eq_getD_getElem?,Array.getElem?_eq_getElem DX]
  exact fS _)
 have I5:C.P.built t (parts.map fun (i,x)=>(i,a.eval x)).toList=some vs':=by
  unfold zfK at RZ
  split at RZ
  ·rename_i fs hu
   simp only [Program.built,cZ,hu,lX,RZ,Array.toList_map]
   simpa using h1
  ·rename_i n e hu
   split at RZ
   case h_2=>cases RZ
   rename_i ie b9
   cases hb:Nat.ble n 128 <;> simp [hb] at RZ
   subst RZ
   simp only [Program.built,cZ,hu,lX,b9,Array.toList_map]
   refine zeQ (fun k p hp=>?_) _ _ _ h1
   simp only [List.getElem?_map] at hp
   cases hk:(List.range n)[k]? with
   | none=>simp [hk] at hp
   | some y=>
    simp [hk] at hp
    have:y=k:=by
     obtain ⟨RV,hy⟩:=List.getElem?_eq_some_iff.1 hk
     simpa using hy.symm
    subst this;rw [← hp]
  ·cases RZ
 refine yB (v:= .agg vs') (w':=w) ?_ (hr.after (.agg cs' vs' h2 h3) NV)
 simp only [execOp,ho,Sem.run_bind,run_build w t _ vs' I5,Result.andThen_ok]
 rfl
theorem zrR (hC:yD C) (t:TypeId) (x y:Operand) (ho:o.op= .makeSlice t x y) (hi:ρ i=none) (hk:bB C i o st some=some st'):OB C.P o a w (KB C w0 outer own i ρ st'):=by
 simp only [bB,ho] at hk
 split at hk
 case h_2=>cases hk
 rename_i tn z tX hz
 obtain ⟨e,he,C5⟩:=Option.bind_eq_some_iff.1 tX
 have hu:C.P.underlying t=some (.slice e):=by
  unfold mJ at he
  split at he
  ·rename_i h1;cases he;exact h1
  ·cases he
 obtain ⟨info,z',cZ,lX,N7,E6,Z8⟩:=hC.ok e tn C5
 rw [he,Option.bind_some] at hz
 unfold zeroCells at hz
 rw [cZ,Option.bind_some,E6] at hz
 simp only at hz
 cases hb:SE (z'.cells.toList.map xJ) <;> simp [hb] at hz
 subst hz
 split at hk
 case h_2=>cases hk
 rename_i n c hn hc
 cases F0:(decide (0≤n)&&decide (n≤(bA:Int))&&(n==c))
 case false=>simp [F0] at hk
 simp only [F0,cond_true] at hk
 simp only [Bool.and_eq_true,decide_eq_true_eq,beq_iff_eq] at F0
 obtain ⟨⟨h0,YW⟩,rfl⟩:=F0
 obtain ⟨x0,zZ,hk⟩:=Option.bind_eq_some_iff.1 ((kK _ _).symm.trans hk)
 have hx:=hr.opd x;rw [hn] at hx
 have hy:=hr.opd y;rw [hc] at hy
 generalize J1:a.eval x=vx at hx
 generalize L1:a.eval y=vy at hy
 cases hx;cases hy
 have KV:=run_make (P:=C.P) w t e info z' hu cZ E6 .i64 .i64 n n h0 (Int.le_refl _) (by
  have h1:info.bytes *n≤1024 *n:=Int.mul_le_mul_of_nonneg_right (by omega) h0
  unfold bA at YW;omega) (by unfold bA at YW;omega)
 have aAA:(execOp a.eval o).run C.P w= .ok (.value (.slice (some ⟨w.heap.size,0,none⟩) n.toNat n.toNat)) (w.alloc (.cells (madeCells z'.cells (n.toNat *info.size)) e)):=by
  simp only [execOp,ho,J1,L1,Sem.run_bind,KV,Result.andThen_ok];rfl
 have hnm:n.toNat≤maxLen:=by unfold maxLen;unfold bA at YW;omega
 have eW:(madeCells z'.cells (n.toNat *info.size)).size=n.toNat *sz tn:=by rw [size_madeCells,lX]
 refine yB aAA (hr.newRow hi ⟨w.heap.size,n.toNat,n.toNat,false⟩ (fun _=>rfl) _ (JP _ _) (fun b hb=>oN _ _ _ hb) (fun _=>by simp) (c:= .arr tn (List.replicate n.toNat x0)) (fun bad NV=>?_) (fun bad=>?_) hk)
 ·refine ⟨by simp, .inr ⟨rfl,zaB (hC.tys e tn C5),Nat.le_refl _,hnm,fun j hj=>⟨World.frozen?_alloc_new _ _ _ _,?_⟩,fun i' CW j hj=>?_⟩⟩
  ·have DX:j<n.toNat *sz tn:=hj
   rw [eJ w _ e j (by omega)];rfl
  ·have VW:i'<n.toNat:=by simpa using CW
   have RV:i' *sz tn+j<(madeCells z'.cells (n.toNat *info.size)).size:=by
    rw [eW]
    have:(i'+1) *sz tn≤n.toNat *sz tn:=Nat.mul_le_mul_right _ VW
    rw [Nat.add_mul,Nat.one_mul] at this;omega
   refine ⟨_,eJ w _ e _ RV,?_⟩
   have eX:j<z'.cells.size:=by omega
   have o0:(madeCells z'.cells (n.toNat *info.size)).getD (i' *sz tn+j) undef=z'.cells.getD j undef:=by
    rw [Array.getD_eq_getD_getElem?,Array.getElem?_eq_getElem RV,Array.getD_eq_getD_getElem?,Array.getElem?_eq_getElem eX]
    simp only [madeCells,Array.getElem_map,Array.getElem_range,Option.getD_some]
    have hmod:(i' *sz tn+j) % z'.cells.size=j:=by
     rw [Z8,Nat.add_comm,Nat.mul_comm,Nat.add_mul_mod_self_left,Nat.mod_eq_of_lt hj]
    rw [hmod,getElem!_pos z'.cells j eX]
   rw [o0,List.getElem_replicate]
   have hs:=CD tn zZ
   have R7:=hs.get j (by simpa using eX) (by rw [aC];exact hj)
   rw [qJ _ _ _ (by rw [aC];exact hj)]
   refine NV _ _ (VR.sub R7 ?_)
   rw [List.getElem_map,Array.getD_eq_getD_getElem?,Array.getElem?_eq_getElem eX]
   simpa using fS z'.cells[j]
 ·exact .ow i ⟨w.heap.size,n.toNat,n.toNat,false⟩ (IA _ _ _) (Nat.le_refl _) hnm rfl
theorem zrI (hC:yD C) (src d:TypeId) (x:Operand) (ho:o.op= .convert src d x) (hi:ρ i=none) (hk:bB C i o st some=some st'):OB C.P o a w (KB C w0 outer own i ρ st'):=by
 simp only [bB,ho] at hk
 have hx:=hr.opd x
 have jW:∀ v w',(convert src d (a.eval x)).run C.P w= .ok v w'→(execOp a.eval o).run C.P w= .ok (.value v) w':=fun v w' h1=>by
  simp [execOp,ho,h1]
 split at hk
 ·rename_i k0 k k1 n h1 h2 h3
  rw [h3] at hx
  generalize hv:a.eval x=v at hx jW
  cases hx
  refine yB (jW (.int k (k.wrap n)) w ?_) (hr.after (.int _ _ (IM _ _)) hk)
  simp [convert,run_underlying h1,run_underlying h2,Conv.intToInt]
 ·rename_i e s h1 h2 h3
  split at hk
  case h_2=>cases hk
  rename_i h4 h5
  rw [h3] at hx
  cases YW:Nat.ble s.length bA
  case false=>simp [YW] at hk
  simp only [YW,cond_true] at hk
  have YW:=Nat.le_of_ble_eq_true YW
  generalize hv:a.eval x=v at hx jW
  cases hx with
  | str _ hs=>
  obtain ⟨info,z,cZ,lX,N7,E6,Z8⟩:=hC.ok e .byte h4
  have KV:=run_bytes_of_string (P:=C.P) w src d e ⟨s.toArray⟩ h1 h2 h5
  have hss:(ByteArray.mk s.toArray).size=s.length:=by simp [ByteArray.size]
  rw [hss] at KV
  have bZ:=grownCap_ge w s.length 0 e
  have L7:grownCap w s.length 0 e≤maxLen:=grownCap_le_maxLen w s.length 0 e hs
  generalize Q1:grownCap w s.length 0 e=cap at KV bZ L7
  have G5:(bytesRow ⟨s.toArray⟩ cap).size=cap:=by simp [bytesRow,hss];omega
  refine yB (jW _ _ KV) (hr.newRow hi ⟨w.heap.size,s.length,cap,false⟩ (fun _=>rfl) _ (Wx.trans (zhc w) (JP _ _))
   (fun b hb=>oN w.drew _ b hb) (fun _=>by simp) (c:= .arr .byte s) (fun bad NV=>?_) (fun bad=>?_) hk)
  ·have iW:∀ j,j<cap→(w.drew.alloc (.cells (bytesRow ⟨s.toArray⟩ cap) e ((bytesRow ⟨s.toArray⟩ cap).size,(bytesRow ⟨s.toArray⟩ cap).size+1))).cell? (xA w.heap.size j)=(bytesRow ⟨s.toArray⟩ cap)[j]?:=fun j hj=>by
    have hh:(w.drew.alloc (.cells (bytesRow ⟨s.toArray⟩ cap) e ((bytesRow ⟨s.toArray⟩ cap).size,(bytesRow ⟨s.toArray⟩ cap).size+1))).heap[w.heap.size]?=some (.cells (bytesRow ⟨s.toArray⟩ cap) e ((bytesRow ⟨s.toArray⟩ cap).size,(bytesRow ⟨s.toArray⟩ cap).size+1)):=by
     show (w.heap.push _)[w.heap.size]?=_
     simp
    unfold World.cell? xA
    rw [hh]
    rfl
   refine ⟨rfl, .inr ⟨rfl,⟨_,e,_,by show (w.heap.push _)[w.heap.size]?=_;rw [Array.getElem?_push_size],hC.tys e .byte h4⟩,bZ,L7,fun j hj=>?_,fun i' CW j hj=>?_⟩⟩
   ·have DX:j<cap:=by simpa [sz] using hj
    refine ⟨?_,?_⟩
    ·have:=World.frozen?_alloc_mark w.drew (bytesRow ⟨s.toArray⟩ cap) e (bytesRow ⟨s.toArray⟩ cap).size ((bytesRow ⟨s.toArray⟩ cap).size+1) j
     rw [World.size_drew] at this
     show World.frozen? _ ⟨w.heap.size,j,none⟩=false
     rw [this,G5];simp;omega
    ·rw [iW j DX,Array.getElem?_eq_getElem (by omega)];rfl
   ·have n9:j=0:=by simp [sz] at hj;exact hj
    subst n9
    have m9:i'<s.length:=CW
    refine ⟨.int .u8 (s[i'].toNat:Int),?_,?_⟩
    ·simp only [sz,Nat.mul_one,Nat.add_zero]
     rw [iW i' (by omega),bytesRow_at _ _ _ (by simpa using m9)]
     simp
    ·have:=s[i'].toNat_lt
     exact .int _ _ ⟨by simp [IntKind.min,IntKind.signed],by simp [IntKind.max,IntKind.signed,IntKind.bits];omega⟩
  ·exact .ow i ⟨w.heap.size,s.length,cap,false⟩ (IA _ _ _) bZ L7 rfl
 ·rename_i e h1 h2
  split at hk
  case h_2=>cases hk
  rename_i l h5 h4
  cases YW:Nat.ble l.length bA
  case false=>simp [YW] at hk
  simp only [YW,cond_true] at hk
  have YW:=Nat.le_of_ble_eq_true YW
  obtain ⟨ao,cap,hv,R1⟩:=zes hr hx h4
  refine yB (jW (.string ⟨l.toArray⟩) w ?_) (hr.after (.str l (by unfold bA at YW;unfold maxLen;omega)) hk)
  rw [hv]
  have empty:∀ (ao:Option Addr) (c:Nat),(convert src d (.slice ao 0 c)).run C.P w= .ok (.string ⟨#[]⟩) w:=fun ao c=>by
   cases ao with
   | none=>exact run_convert_bytes_nil w src e h1 h5 0 c d h2
   | some ad=>exact run_convert_bytes_back w src d e ad c [] h1 h5 h2 (fun j hj=>by simp at hj)
  rcases R1 with rfl | ⟨b,off,rfl,hc⟩
  ·exact empty ao cap
  ·refine run_convert_bytes_back w src d e (xA b off) cap l h1 h5 h2 fun j hj=>?_
   obtain ⟨u,c1,c2⟩:=hc j hj 0 (by simp [sz])
   simp only [sz,Nat.mul_one,Nat.add_zero] at c1
   rw [aE,c1]
   have:(enc .byte l[j]).getD 0 .undef= .int .u8 (l[j].toNat:Int):=rfl
   rw [this] at c2
   cases c2;rfl
 ·rename_i e0 e r h1 h2 h3
  split at hk
  case h_2=>cases hk
  rename_i y l hsd h5 h4
  have hsd:=Nat.eq_of_beq_eq_true hsd
  subst hsd
  have he:e0=e:=by rw [h1] at h2;cases h2;rfl
  subst he
  rw [h3] at hx
  obtain ⟨ri,hρ,dW,g7⟩:=hr.heap.rows r _ h4
  obtain ⟨QV,R1⟩:=dW
  generalize hv:a.eval x=v at hx jW
  cases hx with
  | owN _ ri' ao I3 hn mW=>
   rw [hρ] at I3;cases I3
   rw [hn] at QV;simp at QV
  | ow _ ri' I3 hn hc mW=>
  rw [hρ] at I3;cases I3
  rcases R1 with ⟨Q9,_⟩ | ⟨_,ce,_,_,gY,BY⟩
  ·rw [mW] at Q9;cases Q9
  have m5:0<ri.cap *sz .byte:=by
   have:0<ri.n:=by rw [QV];simp
   simp [sz];omega
  obtain ⟨c,elem,lo,CW,C4⟩:∃ c elem lo CW,w.heap[ri.b]?=some (.cells c elem (lo,CW)):=by
   have:=(gY 0 m5).2
   unfold World.cell? xA at this
   simp only at this
   split at this
   ·rename_i c elem fr hb
    exact ⟨c,elem,fr.1,fr.2,hb⟩
   ·cases this
  have zX:(w.freeze ⟨ri.b,c.size,none⟩ 1).heap=w.heap.modify ri.b fun
    | .cells c' elem (lo,hi)=> .cells c' elem (if lo==hi then (c.size,c.size+1) else (min lo c.size,max hi (c.size+1)))
    | o=>o:=by
   unfold World.freeze
   rw [if_neg (by decide)]
   rfl
  generalize hW:w.freeze ⟨ri.b,c.size,none⟩ 1=W at zX
  have K6:∀ b,b≠ri.b→W.heap[b]?=w.heap[b]?:=fun b hb=>by
   rw [zX,Array.getElem?_modify,if_neg (Ne.symm hb)]
  have iW:∀ j,W.cell? (xA ri.b j)=w.cell? (xA ri.b j):=fun j=>by
   unfold World.cell? xA
   simp only [zX,Array.getElem?_modify,C4,if_true,Option.map_some]
  have ceW:DD W ri.b .byte:=by
   obtain ⟨c',e',z',k1,k2⟩:=ce
   rw [C4] at k1;cases k1
   exact ⟨c,elem,_,by rw [zX,Array.getElem?_modify,if_pos rfl,C4];rfl,k2⟩
  have KV:(convert src src (.slice (some (xA ri.b 0)) ri.n ri.cap)).run C.P w= .ok (.slice (some (xA ri.b 0)) ri.n ri.cap) W:=by
   have hsh:w.shape? ri.b=some (elem,c.size):=by simp [World.shape?,C4]
   simp [convert,run_underlying h1,run_underlying h5,markStringish,xA,hsh]
   exact hW
  have O0:Wx w W:=by
   rw [← hW];unfold World.freeze;rw [if_neg (by decide)]
   exact ⟨rfl,rfl,rfl,by simp⟩
  have uX:=hr.heap.write h4 hρ mW W O0 (by rw [zX];simp) K6 (.box []) (fun _=>⟨mW,fun j hj=>by simp at hj⟩)
  have kW:=uX.1.less (h':=uA st.h r none) (fun q row' hq=>by
   by_cases qW:q=r
   ·subst qW;rw [IA] at hq;cases hq
   ·rw [vA _ _ _ _ qW] at hq
    exact ⟨row',by rw [vA _ _ _ _ qW];exact hq,rfl,fun h=>h⟩)
  have n0:=hr.turn kW.1 (fun u d hu=>kW.2 _ _ (uX.2 u d hu))
  have hnb:¬ mA outer ρ (uA st.h r none) ri.b:=by
   rintro (hb | ⟨q,row,qi,q1,q2,q3,q4,q5⟩)
   ·exact (g7 mW).1.1 hb
   ·by_cases qW:q=r
    ·subst qW;rw [IA] at q1;cases q1
    ·rw [vA _ _ _ _ qW] at q1
     exact qW (hr.heap.inj q r row _ qi ri q1 h4 q3 hρ q4 mW q5)
  refine yB (jW _ _ KV) (n0.after ?_ hk)
  have I6:ri.n=(y :: l).length:=QV
  rw [I6]
  rw [I6] at hn
  refine .slC .byte (y :: l) ri.b 0 ri.cap (fun i _=> .int .u8 ((((y :: l).getD i 0:UInt8).toNat:Nat):Int)) hnb hn hc (fun _=> .inr ceW) (fun i hi j hj=>?_) (fun i hi j hj=>?_)
  ·have n9:j=0:=by simp [sz] at hj;exact hj
   subst n9
   obtain ⟨u,c1,c2⟩:=BY i hi 0 (by simp [sz])
   rw [iW]
   simp only [Nat.zero_add]
   rw [c1]
   have e2:(enc .byte (y :: l)[i]).getD 0 .undef= .int .u8 ((y :: l)[i].toNat:Int):=rfl
   rw [e2] at c2
   cases c2
   have e3:(y :: l).getD i (0:UInt8)=(y :: l)[i]:=by rw [List.getD_eq_getElem?_getD,List.getElem?_eq_getElem hi];rfl
   rw [e3]
  ·have n9:j=0:=by simp [sz] at hj;exact hj
   subst n9
   have e3:(y :: l).getD i (0:UInt8)=(y :: l)[i]:=by rw [List.getD_eq_getElem?_getD,List.getElem?_eq_getElem hi];rfl
   rw [e3]
   have:=UInt8.toNat_lt (y :: l)[i]
   show VR _ _ _ _ (.int .u8 ((((y :: l)[i]:UInt8).toNat:Nat):Int))
   exact .int _ _ ⟨by simp [IntKind.min,IntKind.signed],by simp [IntKind.max,IntKind.signed,IntKind.bits];omega⟩
 ·cases hk
end
end Go.D
namespace Go.D
variable [fA]
section
variable {C:Cx} {w0:World} {outer own:Nat→Prop} {ρ:Nat→Option RI} {st st':St} {a:Act} {w:World} {h:Nat→Option nA}
def Out (base N r:Nat):Prop:=¬ (base≤r∧r<base+N)
omit [fA] in
theorem FB (ow:List Nat) (base:Nat) (h:Nat→Option nA):∀ (es:List V) (p r:Nat),UA ow base h p es r=match UA ow base (fun _=>none) p es r with | some x=>some x | none=>h r
 | [],p,r=>rfl
 | e :: es,p,r=>by
  have ih:=FB ow base h es (p+1) r
  cases e <;> simp only [UA] <;> try exact ih
  cases hb:ow.any (Nat.beq p)
  ·simpa using ih
  ·simp only [cond_true]
   by_cases hr:r=base+p
   ·subst hr;simp [IA]
   ·simp only [vA _ _ _ _ hr];exact ih
omit [fA] in
theorem BC (ow:List Nat) (base:Nat):∀ (es:List V) (p r:Nat),(r<base+p∨base+p+es.length≤r)→UA ow base (fun _=>none) p es r=none
 | [],p,r,_=>rfl
 | e :: es,p,r,hr=>by
  have ih:=BC ow base es (p+1) r (by simp at hr;omega)
  cases e <;> simp only [UA] <;> try exact ih
  cases hb:ow.any (Nat.beq p)
  ·simpa using ih
  ·simp only [cond_true]
   rw [vA _ _ _ _ (by simp at hr;omega)];exact ih
omit [fA] in
theorem ND (ow:List Nat) (base:Nat):∀ (es:List V) (p:Nat),(JA ow base p es).length=es.length
 | [],p=>rfl
 | e :: es,p=>by cases e <;> simp [JA,ND ow base es (p+1)]
def GE (h g:Nat→Option nA):Prop:=∀ r row,h r=some row→g r=some row
omit [fA] in
theorem za5 {c:V} {h g:Nat→Option nA} {x:V × List Nat} (hg:GE h g) (hf:tE h c=some x):tE g c=some x∧∀ r ∈ x.2,∃ row,h r=some row:=by
 unfold tE at hf
 split at hf
 ·rename_i r
  split at hf
  ·rename_i t l m hr
   refine ⟨by simp only [tE,hg _ _ hr];exact hf,?_⟩
   cases hm:m.isLock <;> simp [hm] at hf
   subst hf;intro q hq;simp at hq;subst hq;exact ⟨_,hr⟩
  ·cases hf
 ·rename_i r t off len
  split at hf
  ·rename_i t' l m hr
   refine ⟨by simp only [tE,hg _ _ hr];exact hf,?_⟩
   cases hm:m.isLock
   ·simp only [hm,cond_false] at hf
    split at hf
    ·simp at hf;subst hf;intro q hq;simp at hq;subst hq;exact ⟨_,hr⟩
    ·cases hf
   ·simp [hm] at hf
  ·cases hf
 ·cases hb:iE 8 c <;> simp [hb] at hf
  subst hf
  refine ⟨?_,by simp⟩
  unfold tE
  split
  ·simp [iE] at hb
  ·simp [iE] at hb
  ·simp [hb]
omit [fA] in
theorem za8 {h g:Nat→Option nA} (hg:GE h g):∀ {cs:List V} {x:List V × List Nat},TD h cs=some x→TD g cs=some x∧∀ r ∈ x.2,∃ row,h r=some row
 | [],x,hf=>by simp [TD] at hf;subst hf;simp [TD]
 | c :: cs,x,hf=>by
  simp only [TD] at hf
  split at hf
  ·cases hf
  rename_i c' i h1
  split at hf
  ·cases hf
  rename_i cs' j h2
  cases hf
  obtain ⟨k1,k2⟩:=za5 hg h1
  obtain ⟨k3,k4⟩:=za8 hg h2
  refine ⟨by simp [TD,k1,k3],fun r hr=>?_⟩
  rcases List.mem_append.1 hr with hr | hr
  ·exact k2 r hr
  ·exact k4 r hr
omit [fA] in
theorem zeX {c:V} {h g:Nat→Option nA} {x:V × List Nat} (hg:GE h g) (hf:OE h c=some x):OE g c=some x∧∀ r ∈ x.2,∃ row,h r=some row:=by
 unfold OE at hf
 split at hf
 ·split at hf
  ·rename_i cs cs' i h1
   cases hf
   obtain ⟨k1,k2⟩:=za8 hg h1
   exact ⟨by simp [OE,k1],k2⟩
  ·cases hf
 ·rename_i r off
  split at hf
  ·rename_i cs m hr
   cases hb:(m.isLock||cs.isEmpty)
   case true=>simp [hb] at hf
   simp only [hb,cond_false] at hf
   split at hf
   ·rename_i cs' i h1
    cases hf
    obtain ⟨k1,k2⟩:=za8 hg h1
    refine ⟨by simp [OE,hg _ _ hr,hb,k1],fun q hq=>?_⟩
    rcases List.mem_cons.1 hq with rfl | hq
    ·exact ⟨_,hr⟩
    ·exact k2 q hq
   ·cases hf
  ·cases hf
 ·rename_i h1 h2
  obtain ⟨k1,k2⟩:=za5 hg hf
  refine ⟨?_,k2⟩
  unfold OE
  split
  ·exact absurd rfl (h1 _)
  ·exact absurd rfl (h2 _ _)
  ·exact k1
omit [fA] in
theorem zbk {h g:Nat→Option nA} (hg:GE h g) (ids:List Nat):GE (IB h ids) (IB g ids):=by
 intro r row hr
 rw [ID] at hr ⊢
 by_cases hm:r ∈ ids
 ·simp only [hm,if_true,Option.map_eq_some_iff] at hr ⊢
  obtain ⟨row',h1,rfl⟩:=hr;exact ⟨row',hg _ _ h1,rfl⟩
 ·simp only [hm,if_false] at hr ⊢;exact hg _ _ hr
theorem zbG {bad bad':Nat→Prop} {ri:RI} {ρ':Nat→Option RI} {t:TN} {l:List (El t)} (hr:xC w ρ bad ri (.arr t l))
  (hv:∀ u d,VR w ρ bad u d→VR w ρ' bad' u d):xC w ρ' bad' ri (.arr t l):=hr.keep (fun _=>rfl) hv
theorem aB.rename (hh:aB w0 outer own ρ h w) {r i:Nat} {t:TN} {l:List (El t)} {ri:RI} (hr:h r=some ⟨.arr t l, .own⟩) (hρ:ρ r=some ri) (hi:ρ i=none):
  aB w0 outer own (uA ρ i (some ri)) (uA (uA h r none) i (some ⟨.arr t l, .own⟩)) w∧
   ∀ u d,VR w ρ (mA outer ρ h) u d→VR w (uA ρ i (some ri)) (mA outer (uA ρ i (some ri)) (uA (uA h r none) i (some ⟨.arr t l, .own⟩))) u d:=by
 obtain ⟨ri',h1,h2,h3⟩:=hh.rows r _ hr
 rw [hρ] at h1;cases h1
 cases hn:ri.nl
 ·exact hh.move hr hρ hn hi rfl hn w (Wx.refl _) rfl (fun _ _=>rfl) _ fun bad hv=>zbG h2 hv
 ·obtain ⟨k1,k2⟩:=hh.less (h':=uA h r none) (fun q row' hq=>by
   by_cases qW:q=r
   ·subst qW;rw [IA] at hq;cases hq
   ·rw [vA _ _ _ _ qW] at hq;exact ⟨row',hq,rfl,id⟩)
  obtain ⟨k3,k4⟩:=k1.alloc i hi ri (fun h=>by rw [hn] at h;cases h) w (Wx.refl _) (fun _ _=>rfl) (fun h=>by rw [hn] at h;cases h) (.arr t l)
   fun hv=>zbG (zbG h2 k2) hv
  exact ⟨k3,fun u d hu=>k4 _ _ (k2 _ _ hu)⟩
theorem aB.empty (hh:aB w0 outer own ρ h w) {i:Nat} (t:TN) (hi:ρ i=none):
  aB w0 outer own (uA ρ i (some ⟨0,0,0,true⟩)) (uA h i (some ⟨.arr t [], .own⟩)) w∧
   ∀ u d,VR w ρ (mA outer ρ h) u d→VR w (uA ρ i (some ⟨0,0,0,true⟩)) (mA outer (uA ρ i (some ⟨0,0,0,true⟩)) (uA h i (some ⟨.arr t [], .own⟩))) u d:=
 hh.alloc i hi ⟨0,0,0,true⟩ (fun h=>by cases h) w (Wx.refl _) (fun _ _=>rfl) (fun h=>by cases h) (.arr t []) fun _=>⟨rfl, .inl ⟨rfl,rfl⟩⟩
theorem aB.cut (hh:aB w0 outer own ρ h w) {r i len:Nat} {t:TN} {l:List (El t)} {v:Value} (hr:h r=some ⟨.arr t l, .own⟩) (hi:ρ i=none) (hv:VR w ρ (mA outer ρ h) v (.ov r t 0 len)):
  ∃ ri',aB w0 outer own (uA ρ i (some ri')) (uA (uA h r none) i (some ⟨.arr t (l.take len), .own⟩)) w∧
   (∀ u d,VR w ρ (mA outer ρ h) u d→VR w (uA ρ i (some ri')) (mA outer (uA ρ i (some ri')) (uA (uA h r none) i (some ⟨.arr t (l.take len), .own⟩))) u d)∧
   VR w (uA ρ i (some ri')) (mA outer (uA ρ i (some ri')) (uA (uA h r none) i (some ⟨.arr t (l.take len), .own⟩))) v (.ow i):=by
 obtain ⟨ri,hρq,dW,_⟩:=hh.rows r _ hr
 have dZ:ri.n=l.length:=dW.1
 obtain ⟨ao,cap,h1,h2,h3,h4,h5⟩:=hv.ov_inv hρq
 rcases h3 with ⟨rfl,rfl⟩ | ⟨rfl,mW,hc⟩
 ·obtain ⟨k1,k2⟩:=hh.less (h':=uA h r none) (fun q row' hq=>by
   by_cases qW:q=r
   ·subst qW;rw [IA] at hq;cases hq
   ·rw [vA _ _ _ _ qW] at hq;exact ⟨row',hq,rfl,id⟩)
  obtain ⟨n1,n2⟩:=k1.empty t hi
  rw [List.take_zero]
  exact ⟨⟨0,0,0,true⟩,n1,fun u d hu=>n2 _ _ (k2 _ _ hu),by rw [h1];exact .owN _ ⟨0,0,0,true⟩ ao (IA _ _ _) rfl rfl⟩
 ·rw [Nat.zero_mul] at h1
  rcases dW.2 with h6 | ⟨_,ce,c1,c2,c3,c4⟩
  ·rw [mW] at h6;cases h6.1
  obtain ⟨n1,n2⟩:=hh.move hr hρq mW hi (ri':=⟨ri.b,len,cap,false⟩) rfl rfl w (Wx.refl _) rfl (fun _ _=>rfl) (.arr t (l.take len)) fun bad NV=>by
   refine ⟨by simp;omega, .inr ⟨rfl,ce,h4,h5,fun j hj=>c3 j ?_,fun i hi j hj=>?_⟩⟩
   ·have:cap *sz t≤ri.cap *sz t:=Nat.mul_le_mul_right _ (by omega)
    have hj:j<cap *sz t:=hj
    omega
   ·obtain ⟨u,f1,f2⟩:=c4 i (by simp at hi;omega) j hj
    refine ⟨u,f1,?_⟩
    rw [List.getElem_take];exact NV _ _ f2
  exact ⟨_,n1,n2,by rw [h1];exact .ow _ ⟨ri.b,len,cap,false⟩ (IA _ _ _) h4 h5 rfl⟩
structure zco (w0:World) (outer own:Nat→Prop) (w:World) (ow:List Nat) (base N p:Nat) (ρ:Nat→Option RI) (g h h':Nat→Option nA) (es:List V) (u:Nat→Value)
  (ρ':Nat→Option RI) (g':Nat→Option nA):Prop where
 heap:aB w0 outer own ρ' g' w
 lies:GE h' g'
 out:∀ r,Out base N r→ρ' r=ρ r∧(h r=none→g' r=g r)
 less:∀ r,h r=none→h' r=none
 before:∀ q,q<p→g' (base+q)=g (base+q)∧ρ' (base+q)=ρ (base+q)
 new:∀ q,p≤q→q<N→g' (base+q)=UA ow base (fun _=>none) p es (base+q)
 ext:∀ r ri,ρ r=some ri→ρ' r=some ri
 keep:∀ v d,VR w ρ (mA outer ρ g) v d→VR w ρ' (mA outer ρ' g') v d
 vals:∀ j (hj:j<(JA ow base p es).length),VR w ρ' (mA outer ρ' g') (u j) (JA ow base p es)[j]
 closed:∀ j (hj:j<es.length),ZB es[j]∧(es[j]).leaf=true
omit [fA] in
theorem vB.closed1 {c e:V} (hs:dF c e) (h:ZB c∧c.leaf=true):ZB e∧e.leaf=true:=by
 cases hs with
 | refl=>exact h
 | byte n=>exact ⟨fun _=> .int _ _,rfl⟩
 | nil t=>exact ⟨yI _ _,rfl⟩
theorem yP (ow:List Nat) (base N:Nat):∀ (cs:List V) (p:Nat) (h h':Nat→Option nA) (cs' es:List V) (ρ:Nat→Option RI) (g:Nat→Option nA) (u:Nat→Value),
  AC ow p cs h=some (cs',h')→vB cs' es→p+cs.length≤N→aB w0 outer own ρ g w→
  (∀ j (hj:j<cs.length),VR w ρ (mA outer ρ g) (u j) cs[j])→GE h g→(∀ q,q<N→h (base+q)=none)→
  (∀ q,p≤q→q<N→ρ (base+q)=none)→∃ ρ' g',zco w0 outer own w ow base N p ρ g h h' es u ρ' g'∧es.length=cs.length
 | [],p,h,h',cs',es,ρ,g,u,ht,hs,hN,hh,hv,hg,dX,hf=>by
  simp only [AC,Option.some.injEq,Prod.mk.injEq] at ht
  obtain ⟨rfl,rfl⟩:=ht
  cases hs
  refine ⟨ρ,g,⟨hh,hg,fun r hr=>⟨rfl,fun _=>rfl⟩,fun _ h=>h,fun q hq=>⟨rfl,rfl⟩,fun q h1 h2=>?_,fun _ _ h=>h,fun _ _ h=>h,fun j hj=>by simp [JA] at hj,fun j hj=>by simp at hj⟩,rfl⟩
  cases M7:g (base+q) with
  | none=>rfl
  | some row=>obtain ⟨ri,h3,_⟩:=hh.rows _ _ M7;rw [hf q h1 h2] at h3;cases h3
 | c :: cs,p,h,h',cs',es,ρ,g,u,ht,hs,hN,hh,hv,hg,dX,hf=>by
  simp only [List.length_cons] at hN
  have VW:¬ Out base N (base+p):=fun ho=>ho ⟨by omega,by omega⟩
  have W2:∀ r row,h r=some row→Out base N r:=fun r row hr=>by
   rintro ⟨h1,h2⟩
   have:=dX (r - base) (by omega)
   rw [show base+(r - base)=r by omega,hr] at this;cases this
  -- behind a step
  have go:∀ (ρ1:Nat→Option RI) (g1 h1:Nat→Option nA) (cs1 es1:List V) (e:V),AC ow (p+1) cs h1=some (cs1,h')→vB cs1 es1→es=e :: es1→aB w0 outer own ρ1 g1 w→
    (∀ v d,VR w ρ (mA outer ρ g) v d→VR w ρ1 (mA outer ρ1 g1) v d)→GE h1 g1→(∀ r,Out base N r→ρ1 r=ρ r∧(h r=none→g1 r=g r))→(∀ r,h r=none→h1 r=none)→(∀ q,q<p→g1 (base+q)=g (base+q)∧ρ1 (base+q)=ρ (base+q))→
    (∀ q,p+1≤q→q<N→ρ1 (base+q)=ρ (base+q))→(∀ r ri,ρ r=some ri→ρ1 r=some ri)→(ZB e∧e.leaf=true)→
    (∀ (ρ':Nat→Option RI) (g':Nat→Option nA),(∀ v d,VR w ρ1 (mA outer ρ1 g1) v d→VR w ρ' (mA outer ρ' g') v d)→
     ∃ (hl:0<(JA ow base p (e :: es1)).length),VR w ρ' (mA outer ρ' g') (u 0) (JA ow base p (e :: es1))[0])→
    UA ow base (fun _=>none) p (e :: es1) (base+p)=g1 (base+p)→(∀ q,q≠p→UA ow base (fun _=>none) p (e :: es1) (base+q)=UA ow base (fun _=>none) (p+1) es1 (base+q))→
    (∀ j (hj:j<(JA ow base (p+1) es1).length),∃ (hl:j+1<(JA ow base p (e :: es1)).length),(JA ow base p (e :: es1))[j+1]=(JA ow base (p+1) es1)[j])→
    ∃ ρ' g',zco w0 outer own w ow base N p ρ g h h' es u ρ' g'∧es.length=(c :: cs).length:=by
   rintro ρ1 g1 h1 cs1 es1 e o4 QX rfl Y4 O7 d5 ho1 PZ F5 hf1 hx1 he RX d4 dZ hgl1
   obtain ⟨ρ',g',T,QV⟩:=yP ow base N cs (p+1) h1 h' cs1 es1 ρ1 g1 (fun j=>u (j+1)) o4 QX (by omega) Y4
    (fun j hj=>O7 _ _ (hv (j+1) (by simp;omega))) d5 (fun q hq=>PZ _ (dX q hq))
    (fun q h1 h2=>by rw [hf1 q h1 h2];exact hf q (by omega) h2)
   refine ⟨ρ',g',⟨T.heap,T.lies,fun r hr=>⟨(T.out r hr).1.trans (ho1 r hr).1,fun hn=>((T.out r hr).2 (PZ r hn)).trans ((ho1 r hr).2 hn)⟩,fun r hr=>T.less r (PZ r hr),fun q hq=>?_,fun q h1 h2=>?_,fun r ri hr=>T.ext _ _ (hx1 r ri hr),fun v d hd=>T.keep _ _ (O7 _ _ hd),fun j hj=>?_,fun j hj=>?_⟩,by simp [QV]⟩
   ·obtain ⟨b1,b2⟩:=T.before q (by omega)
    exact ⟨b1.trans (F5 q hq).1,b2.trans (F5 q hq).2⟩
   ·by_cases hq:q=p
    ·subst hq;rw [(T.before q (by omega)).1];exact d4.symm
    ·rw [T.new q (by omega) h2,dZ q hq]
   ·cases j with
    | zero=>exact (RX ρ' g' T.keep).2
    | succ j=>
     have DX:j<(JA ow base (p+1) es1).length:=by
      rw [ND] at hj ⊢;simpa using hj
     obtain ⟨_,h2⟩:=hgl1 j DX
     rw [h2];exact T.vals j DX
   ·cases j with
    | zero=>exact he
    | succ j=>exact T.closed j (by simpa using hj)
  simp only [AC] at ht
  have B6:ρ (base+p)=none:=hf p (Nat.le_refl _) (by omega)
  have hgp:g (base+p)=none:=by
   cases M7:g (base+p) with
   | none=>rfl
   | some row=>obtain ⟨ri,h3,_⟩:=hh.rows _ _ M7;rw [B6] at h3;cases h3
  have A1:=hv 0 (by simp)
  simp only [List.getElem_cons_zero] at A1
  cases hb:ow.any (Nat.beq p)
  ·simp only [hb,cond_false] at ht
   split at ht
   case h_2=>cases ht
   rename_i c' ids I0
   split at ht
   case h_2=>cases ht
   rename_i cs1 h1 o4
   simp only [Option.some.injEq,Prod.mk.injEq] at ht
   obtain ⟨rfl,rfl⟩:=ht
   cases hs with
   | cons EY QX=>
   rename_i e es1
   obtain ⟨hfz',NZ⟩:=za5 hg I0
   simp only at NZ
   obtain ⟨k1,k2⟩:=hh.mark ids
   have k3:=za7 hh A1 hfz'
   have m4:∀ r,h r=none→r ∉ ids:=fun r hn hm=>by obtain ⟨row,h5⟩:=NZ r hm;rw [hn] at h5;cases h5
   have he:=vB.closed1 EY k3.2
   have hl:JA ow base p (e :: es1)=e :: JA ow base (p+1) es1:=by cases e <;> simp [JA,hb]
   have hth:∀ q,UA ow base (fun _=>none) p (e :: es1) q=UA ow base (fun _=>none) (p+1) es1 q:=fun q=>by cases e <;> simp [UA,hb]
   refine go ρ (IB g ids) (IB h ids) cs1 es1 e o4 QX rfl k1 k2 (zbk hg ids) (fun r hr=>⟨rfl,fun hn=>?_⟩) (fun r hn=>?_) (fun q hq=>⟨?_,rfl⟩) (fun _ _ _=>rfl) (fun _ _ h=>h) he (fun ρ' g' hk=>?_) ?_ (fun q hq=>hth _) (fun j hj=>?_)
   ·rw [ID,if_neg (m4 r hn)]
   ·rw [ID,if_neg (m4 r hn)];exact hn
   ·rw [ID,if_neg (m4 _ (dX q (by omega)))]
   ·simp only [hl]
    exact ⟨by simp,(VR.sub EY (hk _ _ k3.1))⟩
   ·rw [hth,BC _ _ _ _ _ (by omega),ID,if_neg (m4 _ (dX p (by omega))),hgp]
   ·simp only [hl]
    exact ⟨by simpa using hj,by simp⟩
  ·simp only [hb,cond_true] at ht
   split at ht
   ·rename_i r
    split at ht
    case h_2=>cases ht
    rename_i t l LV
    split at ht
    case h_2=>cases ht
    rename_i cs1 h1 o4
    simp only [Option.some.injEq,Prod.mk.injEq] at ht
    obtain ⟨rfl,rfl⟩:=ht
    cases hs with
    | cons EY QX=>
    rename_i e es1
    cases EY
    have dW:=W2 r _ LV
    have hrg:g r=some ⟨.arr t l, .own⟩:=hg _ _ LV
    obtain ⟨ri,hρr,_,_⟩:=hh.rows r _ hrg
    obtain ⟨k1,k2⟩:=hh.rename hrg hρr B6
    have hrne:r≠base+p:=by rintro rfl;exact VW dW
    have hl:JA ow base p (.sl t l :: es1)= .ow (base+p) :: JA ow base (p+1) es1:=by simp [JA,hb]
    refine go _ _ (uA h r none) cs1 es1 (.sl t l) o4 QX rfl k1 k2 (fun q row hq=>?_) (fun q hq=>⟨vA _ _ _ _ ?_,fun hn=>?_⟩) (fun q hn=>?_) (fun q hq=>⟨?_,vA _ _ _ _ (by omega)⟩) (fun q h1 _=>vA _ _ _ _ (by omega))
     (fun q qi hq=>by rw [vA];exact hq;rintro rfl;rw [B6] at hq;cases hq) ⟨yI _ _,rfl⟩ (fun ρ' g' hk=>?_) ?_ (fun q hq=>?_) (fun j hj=>?_)
    ·by_cases qW:q=r
     ·subst qW;rw [IA] at hq;cases hq
     ·rw [vA _ _ _ _ qW] at hq
      have:q≠base+p:=by rintro rfl;exact VW (W2 _ _ hq)
      rw [vA _ _ _ _ this,vA _ _ _ _ qW];exact hg _ _ hq
    ·rintro rfl;exact VW hq
    ·have V9:q≠base+p:=by rintro rfl;exact VW hq
     have qW:q≠r:=by rintro rfl;rw [LV] at hn;cases hn
     rw [vA _ _ _ _ V9,vA _ _ _ _ qW]
    ·by_cases qW:q=r
     ·subst qW;exact IA _ _ _
     ·rw [vA _ _ _ _ qW];exact hn
    ·rw [vA _ _ _ _ (by omega),vA]
     rintro rfl;exact dW ⟨by omega,by omega⟩
    ·simp only [hl]
     refine ⟨by simp,?_⟩
     have:VR w (uA ρ (base+p) (some ri)) (mA outer (uA ρ (base+p) (some ri)) (uA (uA g r none) (base+p) (some ⟨.arr t l, .own⟩))) (u 0) (.ow (base+p)):=by
      rcases A1.ow_inv hρr with ⟨e1,e2,e3,e4⟩ | ⟨ao,e1,e2,e3⟩
      ·rw [e1];exact .ow _ ri (IA _ _ _) e3 e4 e2
      ·rw [e1];exact .owN _ ri ao (IA _ _ _) e3 e2
     exact hk _ _ this
    ·simp only [UA,hb,cond_true,IA]
    ·simp only [UA,hb,cond_true];rw [vA _ _ _ _ (by omega)]
    ·simp only [hl]
     exact ⟨by simpa using hj,by simp⟩
   ·split at ht
    case h_2=>cases ht
    rename_i cs1 h1 o4
    simp only [Option.some.injEq,Prod.mk.injEq] at ht
    obtain ⟨rfl,rfl⟩:=ht
    have I1:u 0= .slice none 0 0:=by generalize u 0=x at A1;cases A1;rfl
    cases hs with
    | cons EY QX=>
    rename_i e es1
    cases EY with
    | refl=>
     have hl:JA ow base p (.nil :: es1)= .nil :: JA ow base (p+1) es1:=by simp [JA]
     have hth:∀ q,UA ow base (fun _=>none) p (.nil :: es1) q=UA ow base (fun _=>none) (p+1) es1 q:=fun q=>by simp [UA]
     refine go ρ g h cs1 es1 .nil o4 QX rfl hh (fun _ _ h=>h) hg (fun r hr=>⟨rfl,fun _=>rfl⟩) (fun _ h=>h) (fun q hq=>⟨rfl,rfl⟩) (fun _ _ _=>rfl) (fun _ _ h=>h) ⟨fun _=> .nil,rfl⟩ (fun ρ' g' hk=>?_) ?_ (fun q hq=>hth _) (fun j hj=>?_)
     ·simp only [hl];exact ⟨by simp,by rw [I1];exact .nil⟩
     ·rw [hth,BC _ _ _ _ _ (by omega),hgp]
     ·simp only [hl];exact ⟨by simpa using hj,by simp⟩
    | nil t=>
     have hl:JA ow base p (.sl t [] :: es1)= .ow (base+p) :: JA ow base (p+1) es1:=by simp [JA,hb]
     obtain ⟨k1,k2⟩:=hh.empty t B6
     refine go _ _ h cs1 es1 (.sl t []) o4 QX rfl k1 k2 (fun q row hq=>?_) (fun q hq=>⟨vA _ _ _ _ ?_,fun hn=>vA _ _ _ _ ?_⟩) (fun _ h=>h) (fun q hq=>⟨vA _ _ _ _ (by omega),vA _ _ _ _ (by omega)⟩) (fun q h1 _=>vA _ _ _ _ (by omega))
      (fun q qi hq=>by rw [vA];exact hq;rintro rfl;rw [B6] at hq;cases hq) ⟨yI _ _,rfl⟩ (fun ρ' g' hk=>?_) ?_ (fun q hq=>?_) (fun j hj=>?_)
     ·rw [vA _ _ _ _ (by rintro rfl;exact VW (W2 _ _ hq))];exact hg _ _ hq
     ·rintro rfl;exact VW hq
     ·rintro rfl;exact VW hq
     ·simp only [hl]
      refine ⟨by simp,hk _ _ ?_⟩
      rw [I1];exact .owN _ ⟨0,0,0,true⟩ none (IA _ _ _) rfl rfl
     ·simp only [UA,hb,cond_true,IA]
     ·simp only [UA,hb,cond_true];rw [vA _ _ _ _ (by omega)]
     ·simp only [hl];exact ⟨by simpa using hj,by simp⟩
   ·rename_i r t0 len
    split at ht
    case h_2=>cases ht
    rename_i t l LV
    split at ht
    case h_2=>cases ht
    rename_i cs1 h1 hd o4
    have hd:=of_decide_eq_true hd
    subst hd
    simp only [Option.some.injEq,Prod.mk.injEq] at ht
    obtain ⟨rfl,rfl⟩:=ht
    cases hs with
    | cons EY QX=>
    rename_i e es1
    cases EY
    have dW:=W2 r _ LV
    have hrg:g r=some ⟨.arr t l, .own⟩:=hg _ _ LV
    obtain ⟨ri,k1,k2,k3⟩:=hh.cut hrg B6 A1
    have hrne:r≠base+p:=by rintro rfl;exact VW dW
    have hl:JA ow base p (.sl t (l.take len) :: es1)= .ow (base+p) :: JA ow base (p+1) es1:=by simp [JA,hb]
    refine go _ _ (uA h r none) cs1 es1 (.sl t (l.take len)) o4 QX rfl k1 k2 (fun q row hq=>?_) (fun q hq=>⟨vA _ _ _ _ ?_,fun hn=>?_⟩) (fun q hn=>?_) (fun q hq=>⟨?_,vA _ _ _ _ (by omega)⟩) (fun q h1 _=>vA _ _ _ _ (by omega))
     (fun q qi hq=>by rw [vA];exact hq;rintro rfl;rw [B6] at hq;cases hq) ⟨yI _ _,rfl⟩ (fun ρ' g' hk=>?_) ?_ (fun q hq=>?_) (fun j hj=>?_)
    ·by_cases qW:q=r
     ·subst qW;rw [IA] at hq;cases hq
     ·rw [vA _ _ _ _ qW] at hq
      have:q≠base+p:=by rintro rfl;exact VW (W2 _ _ hq)
      rw [vA _ _ _ _ this,vA _ _ _ _ qW];exact hg _ _ hq
    ·rintro rfl;exact VW hq
    ·have V9:q≠base+p:=by rintro rfl;exact VW hq
     have qW:q≠r:=by rintro rfl;rw [LV] at hn;cases hn
     rw [vA _ _ _ _ V9,vA _ _ _ _ qW]
    ·by_cases qW:q=r
     ·subst qW;exact IA _ _ _
     ·rw [vA _ _ _ _ qW];exact hn
    ·rw [vA _ _ _ _ (by omega),vA]
     rintro rfl;exact dW ⟨by omega,by omega⟩
    ·simp only [hl]
     refine ⟨by simp,?_⟩
     exact hk _ _ k3
    ·simp only [UA,hb,cond_true,IA]
    ·simp only [UA,hb,cond_true];rw [vA _ _ _ _ (by omega)]
    ·simp only [hl]
     exact ⟨by simpa using hj,by simp⟩
   ·cases ht
theorem AP {bad bad2:Nat→Prop} {ρ2:Nat→Option RI} (ow:List Nat) (B B2:Nat):∀ (es:List V) (p:Nat) (u:Nat→Value),
  (∀ q,p≤q→q<p+es.length→ow.any (Nat.beq q)=true→(∃ t l,es[q - p]?=some (.sl t l))→ρ2 (B2+q)=ρ (B+q))→(∀ j (hj:j<es.length),ZB es[j])→(∀ b,bad2 b→bad b)→
  (∀ j (hj:j<(JA ow B p es).length),VR w ρ bad (u j) (JA ow B p es)[j])→∀ j (hj:j<(JA ow B2 p es).length),VR w ρ2 bad2 (u j) (JA ow B2 p es)[j]
 | [],p,u,hρ,hc,hb,hv,j,hj=>by simp [JA] at hj
 | e :: es,p,u,hρ,hc,hb,hv,j,hj=>by
  have split1:∀ (B:Nat),∃ e',JA ow B p (e :: es)=e' :: JA ow B (p+1) es∧(e'=e∨e'= .ow (B+p))∧((∃ t l,e= .sl t l∧ow.any (Nat.beq p)=true)→e'= .ow (B+p))∧
    ((¬ ∃ t l,e= .sl t l∧ow.any (Nat.beq p)=true)→e'=e):=fun B=>by
   cases e <;> simp only [JA] <;> try exact ⟨_,rfl, .inl rfl,fun ⟨_,_,h,_⟩=>(by cases h),fun _=>rfl⟩
   rename_i t l
   cases hb:ow.any (Nat.beq p)
   ·exact ⟨_,rfl, .inl rfl,fun ⟨_,_,_,h⟩=>(by cases h),fun _=>rfl⟩
   ·exact ⟨_,rfl, .inr rfl,fun _=>rfl,fun h=>absurd ⟨t,l,rfl,rfl⟩ h⟩
  obtain ⟨e1,s1,_,s2,s3⟩:=split1 B
  obtain ⟨e2,t1,_,t2,t3⟩:=split1 B2
  have ih:=AP ow B B2 es (p+1) (fun j=>u (j+1)) (fun q h1 h2 h3 h4=>hρ q (by omega) (by simp;omega) h3 (by
    obtain ⟨t,l,h4⟩:=h4
    exact ⟨t,l,by rw [show q - p=(q - (p+1))+1 by omega,List.getElem?_cons_succ];exact h4⟩)) (fun j hj=>hc (j+1) (by simp;omega)) hb
   (fun j hj=>by
    have:=hv (j+1) (by rw [s1];simp;omega)
    simpa [s1] using this)
  simp only [t1] at hj ⊢
  cases j with
  | succ j=>exact ih j (by simpa using hj)
  | zero=>
   have RX:=hv 0 (by rw [s1];simp)
   simp only [s1,List.getElem_cons_zero] at RX ⊢
   by_cases hs:∃ t l,e= .sl t l∧ow.any (Nat.beq p)=true
   ·rw [s2 hs] at RX;rw [t2 hs]
    have hq:=hρ p (Nat.le_refl _) (by simp) (by obtain ⟨_,_,_,h⟩:=hs;exact h) (by obtain ⟨t,l,h,_⟩:=hs;exact ⟨t,l,by simp [h]⟩)
    generalize u 0=u0 at RX
    cases RX with
    | ow _ ri h1 h2 h3 h4=>exact .ow _ ri (by rw [hq];exact h1) h2 h3 h4
    | owN _ ri ao h1 h2 h3=>exact .owN _ ri ao (by rw [hq];exact h1) h2 h3
   ·rw [s3 hs] at RX;rw [t3 hs]
    exact (RX.noRef (hc 0 (by simp)) ρ2).mono (fun _ _ h=>h) (fun _ _ _=>rfl) fun b h=> .inl (hb b h)
theorem aB.reread (hh:aB w0 outer own ρ h w) {r:Nat} {cs es:List V} {m:HE} (hr:h r=some ⟨.box cs,m⟩) (QV:es.length=cs.length)
  (hv:∀ ri,ρ r=some ri→∀ j (hj:j<es.length),VR w ρ (mA outer ρ h) ((w.cell? (xA ri.b j)).getD undef) es[j]):
  aB w0 outer own ρ (uA h r (some ⟨.box es,m⟩)) w∧∀ u d,VR w ρ (mA outer ρ h) u d→VR w ρ (mA outer ρ (uA h r (some ⟨.box es,m⟩))) u d:=by
 have rW:∀ b,mA outer ρ (uA h r (some ⟨.box es,m⟩)) b→mA outer ρ h b:=fun b hb=>hb.mono fun q row' h1 h2=>by
  by_cases hq:q=r
  ·subst hq;rw [IA] at h1;cases h1;exact ⟨_,hr,h2⟩
  ·rw [vA _ _ _ _ hq] at h1;exact ⟨row',h1,h2⟩
 have hk:∀ u d,VR w ρ (mA outer ρ h) u d→VR w ρ (mA outer ρ (uA h r (some ⟨.box es,m⟩))) u d:=fun u d hu=>hu.mono (fun _ _ h=>h) (fun _ _ _=>rfl) fun b hb=> .inl (rW b hb)
 have old:∀ q row,uA h r (some ⟨.box es,m⟩) q=some row→∃ row',h q=some row'∧(q=r∧row=⟨.box es,m⟩∨row=row'):=fun q row hq=>by
  by_cases qW:q=r
  ·subst qW;rw [IA] at hq;cases hq;exact ⟨_,hr, .inl ⟨rfl,rfl⟩⟩
  ·rw [vA _ _ _ _ qW] at hq;exact ⟨row,hq, .inr rfl⟩
 refine ⟨⟨hh.wx,hh.old,hh.outLt,fun q row hq=>?_,fun q q' row row' qi qi' h1 h2 h3 h4=>?_⟩,hk⟩
 ·obtain ⟨row',h1,h2⟩:=old q row hq
  obtain ⟨ri,h3,h4,h5⟩:=hh.rows q row' h1
  have h5':ri.nl=false→(¬ outer ri.b∧(row.m.isRo=false→w0.heap.size≤ri.b∨own ri.b))∧ri.b<w.heap.size:=by
   rcases h2 with ⟨rfl,rfl⟩ | rfl
   ·rw [hr] at h1;cases h1;exact h5
   ·exact h5
  refine ⟨ri,h3,?_,h5'⟩
  rcases h2 with ⟨rfl,rfl⟩ | rfl
  ·rw [hr] at h1;cases h1
   refine ⟨h4.1,fun j hj=>?_⟩
   obtain ⟨f1,u,f2,_⟩:=h4.2 j (by omega)
   refine ⟨f1,u,f2,?_⟩
   have:=hv ri h3 j hj
   rw [f2] at this;exact hk _ _ this
  ·exact h4.keep (fun _=>rfl) hk
 ·obtain ⟨_,g1,_⟩:=old q row h1
  obtain ⟨_,g2,_⟩:=old q' row' h2
  exact hh.inj q q' _ _ qi qi' g1 g2 h3 h4
end
end Go.D
namespace Go.D
variable [fA]
def yA:List ZA→Nat→List V→Nat→Option nA
 | .plain :: ks,k,_ :: as=>yA ks (k+1) as
 | .ptr ow :: ks,k, .agg cs :: as=>uA (UA ow (128 *k) (yA ks (k+1) as) 0 cs) (128 *k+127) (some ⟨.box (JA ow (128 *k) 0 cs), .own⟩)
 | .mv ow :: ks,k, .agg cs :: as=>UA ow (128 *k) (yA ks (k+1) as) 0 cs
 | _,_,_=>fun _=>none
def rB:List ZA→Nat→List V→List V
 | .plain :: ks,k,v :: as=>v :: rB ks (k+1) as
 | .ptr _ :: ks,k,_ :: as=> .bp (128 *k+127) 0 :: rB ks (k+1) as
 | .mv ow :: ks,k, .agg cs :: as=> .agg (JA ow (128 *k) 0 cs) :: rB ks (k+1) as
 | _,_,_=>[]
def fB:List ZA→Nat→List Nat→Nat→Option Nat
 | .plain :: ks,k,bs,q=>fB ks (k+1) bs q
 | .ptr _ :: ks,k,b :: bs,q=>if q=128 *k+127 then some b else fB ks (k+1) bs q
 | .mv _ :: ks,k,bs,q=>fB ks (k+1) bs q
 | _,_,_,_=>none
omit [fA] in
theorem AD:∀ (ks:List ZA) (k:Nat) (bs:List Nat) (q b:Nat),fB ks k bs q=some b→128 *k+127≤q∧q % 128=127∧b ∈ bs
 | [],k,bs,q,b,h=>by simp [fB] at h
 | .plain :: ks,k,bs,q,b,h=>by
  simp only [fB] at h
  obtain ⟨h1,h2,h3⟩:=AD ks (k+1) bs q b h
  exact ⟨by omega,h2,h3⟩
 | .mv ow :: ks,k,bs,q,b,h=>by
  simp only [fB] at h
  obtain ⟨h1,h2,h3⟩:=AD ks (k+1) bs q b h
  exact ⟨by omega,h2,h3⟩
 | .ptr ow :: ks,k,[],q,b,h=>by simp [fB] at h
 | .ptr ow :: ks,k,c :: bs,q,b,h=>by
  simp only [fB] at h
  split at h
  ·cases h;exact ⟨by omega,by omega,by simp⟩
  ·obtain ⟨h1,h2,h3⟩:=AD ks (k+1) bs q b h
   exact ⟨by omega,h2,by simp [h3]⟩
omit [fA] in
theorem SM:∀ (ks:List ZA) (k:Nat) (bs:List Nat) (q q' b:Nat),bs.Nodup→fB ks k bs q=some b→fB ks k bs q'=some b→q=q'
 | [],k,bs,q,q',b,hn,h,h'=>by simp [fB] at h
 | .plain :: ks,k,bs,q,q',b,hn,h,h'=>SM ks (k+1) bs q q' b hn h h'
 | .mv ow :: ks,k,bs,q,q',b,hn,h,h'=>SM ks (k+1) bs q q' b hn h h'
 | .ptr ow :: ks,k,[],q,q',b,hn,h,h'=>by simp [fB] at h
 | .ptr ow :: ks,k,c :: bs,q,q',b,hn,h,h'=>by
  simp only [fB] at h h'
  simp only [List.nodup_cons] at hn
  split at h <;> split at h'
  ·omega
  ·cases h;exact absurd (AD _ _ _ _ _ h').2.2 hn.1
  ·cases h';exact absurd (AD _ _ _ _ _ h).2.2 hn.1
  ·exact SM ks (k+1) bs q q' b hn.2 h h'
omit [fA] in
theorem SP:∀ (ks:List ZA) (k:Nat) (bs:List Nat) (q b:Nat),fB ks k bs q=some b→q<128 *(k+ks.length)
 | [],k,bs,q,b,h=>by simp [fB] at h
 | .plain :: ks,k,bs,q,b,h=>by
  simp only [fB] at h
  have:=SP ks (k+1) bs q b h
  simp;omega
 | .mv ow :: ks,k,bs,q,b,h=>by
  simp only [fB] at h
  have:=SP ks (k+1) bs q b h
  simp;omega
 | .ptr ow :: ks,k,[],q,b,h=>by simp [fB] at h
 | .ptr ow :: ks,k,c :: bs,q,b,h=>by
  simp only [fB] at h
  split at h
  ·simp;omega
  ·have:=SP ks (k+1) bs q b h
   simp;omega
omit [fA] in
theorem zP (ow:List Nat) (B B2:Nat):∀ (es:List V) (p q:Nat),UA ow B (fun _=>none) p es (B+q)=UA ow B2 (fun _=>none) p es (B2+q)
 | [],p,q=>rfl
 | e :: es,p,q=>by
  have ih:=zP ow B B2 es (p+1) q
  cases e <;> simp only [UA] <;> try exact ih
  cases hb:ow.any (Nat.beq p)
  ·simpa using ih
  ·simp only [cond_true]
   by_cases hq:q=p
   ·subst hq;rw [IA,IA]
   ·rw [vA _ _ _ _ (by omega),vA _ _ _ _ (by omega)];exact ih
omit [fA] in
theorem UC (ow:List Nat) (B:Nat):∀ (es:List V) (p r:Nat) (row:nA),UA ow B (fun _=>none) p es r=some row→∃ t l,row=⟨.arr t l, .own⟩∧B+p≤r∧r<B+p+es.length
 | [],p,r,row,h=>by simp [UA] at h
 | e :: es,p,r,row,h=>by
  have ih:=UC ow B es (p+1) r row
  have nx:UA ow B (fun _=>none) (p+1) es r=some row→∃ t l,row=⟨.arr t l, .own⟩∧B+p≤r∧r<B+p+(e :: es).length:=fun h=>by
   obtain ⟨t,l,h1,h2,h3⟩:=ih h;exact ⟨t,l,h1,by omega,by simp;omega⟩
  cases e <;> simp only [UA] at h <;> try exact nx h
  cases hb:ow.any (Nat.beq p)
  ·simp only [hb,cond_false] at h;exact nx h
  ·simp only [hb,cond_true] at h
   by_cases hr:r=B+p
   ·subst hr;rw [IA] at h;cases h;exact ⟨_,_,rfl,Nat.le_refl _,by simp⟩
   ·rw [vA _ _ _ _ hr] at h;exact nx h
omit [fA] in
theorem zcb (ow:List Nat) (B:Nat):∀ (es:List V) (p q:Nat) (t:TN) (l:List (El t)),p≤q→es[q - p]?=some (.sl t l)→ow.any (Nat.beq q)=true→UA ow B (fun _=>none) p es (B+q)=some ⟨.arr t l, .own⟩
 | [],p,q,t,l,hp,he,ho=>by simp at he
 | e :: es,p,q,t,l,hp,he,ho=>by
  by_cases hq:q=p
  ·subst hq
   simp at he;subst he
   simp only [UA,ho,cond_true,IA]
  ·have ih:=zcb ow B es (p+1) q t l (by omega) (by rw [show q - p=(q - (p+1))+1 by omega,List.getElem?_cons_succ] at he;exact he) ho
   cases e <;> simp only [UA] <;> try exact ih
   cases hb:ow.any (Nat.beq p)
   ·simpa using ih
   ·simp only [cond_true];rw [vA _ _ _ _ (by omega)];exact ih
section
variable {C:Cx} {w0:World} {outer own:Nat→Prop} {ρ:Nat→Option RI} {st st':St} {a:Act} {w:World} {h:Nat→Option nA}
inductive ZD (w:World) (ρ:Nat→Option RI) (bad:Nat→Prop) (g:Nat→Option nA) (N0:Nat):List ZA→Nat→List V→List Nat→(Nat→Value)→Prop
 | nil (k:Nat) (u:Nat→Value):ZD w ρ bad g N0 [] k [] [] u
 | plain {ks:List ZA} {k:Nat} {v:V} {as:List V} {bs:List Nat} {u:Nat→Value} (hv:VR w ρ bad (u 0) v) (hn:ZB v) (hr:ZD w ρ bad g N0 ks (k+1) as bs fun j=>u (j+1)):
   ZD w ρ bad g N0 (.plain :: ks) k (v :: as) bs u
 | ptr {ow:List Nat} {ks:List ZA} {k b:Nat} {cs as:List V} {bs:List Nat} {u:Nat→Value} (ri:RI) (hρ:ρ b=some ri) (mW:ri.nl=false) (hu:u 0= .pointer (some (xA ri.b 0)))
   (hg:g b=some ⟨.box (JA ow (N0+128 *k) 0 cs), .own⟩) (hl:cs.length≤127) (hq:∀ q,q<128→g (N0+128 *k+q)=UA ow (N0+128 *k) (fun _=>none) 0 cs (N0+128 *k+q))
   (hc:∀ j (hj:j<cs.length),ZB cs[j]∧(cs[j]).leaf=true) (hb:b<N0) (hr:ZD w ρ bad g N0 ks (k+1) as bs fun j=>u (j+1)):
   ZD w ρ bad g N0 (.ptr ow :: ks) k (.agg cs :: as) (b :: bs) u
 | mv {ow:List Nat} {ks:List ZA} {k:Nat} {cs as:List V} {bs:List Nat} {u:Nat→Value} (hv:VR w ρ bad (u 0) (.agg (JA ow (N0+128 *k) 0 cs)))
   (hl:cs.length≤127) (hq:∀ q,q<128→g (N0+128 *k+q)=UA ow (N0+128 *k) (fun _=>none) 0 cs (N0+128 *k+q))
   (hc:∀ j (hj:j<cs.length),ZB cs[j]∧(cs[j]).leaf=true) (hr:ZD w ρ bad g N0 ks (k+1) as bs fun j=>u (j+1)):
   ZD w ρ bad g N0 (.mv ow :: ks) k (.agg cs :: as) bs u
omit [fA] in
theorem vB.rfl':∀ (cs:List V),vB cs cs
 | []=> .nil
 | c :: cs=> .cons (.refl c) (vB.rfl' cs)
omit [fA] in
theorem zca {ow:List Nat} {ks:List ZA} {v:V} {vs:List V} {x:List V × (Nat→Option nA) × List Nat} (ht:GB (.ptr ow :: ks) (v :: vs) h=some x):∃ r,v= .bp r 0:=by
 unfold GB at ht
 split at ht
 ·simp_all
 ·simp_all
 ·rename_i e1 e2;simp only [List.cons.injEq] at e2;exact ⟨_,e2.1⟩
 ·simp_all
 ·cases ht
omit [fA] in
theorem zb9 {ow:List Nat} {ks:List ZA} {v:V} {vs:List V} {x:List V × (Nat→Option nA) × List Nat} (ht:GB (.mv ow :: ks) (v :: vs) h=some x):∃ cs,v= .agg cs:=by
 unfold GB at ht
 split at ht
 ·simp_all
 ·simp_all
 ·simp_all
 ·rename_i e1 e2;simp only [List.cons.injEq] at e2;exact ⟨_,e2.1⟩
 ·cases ht
theorem WU (N0:Nat):∀ (ks:List ZA) (as:List V) (h h':Nat→Option nA) (as':List V) (bs:List Nat) (k:Nat) (ρ:Nat→Option RI) (g:Nat→Option nA) (u:Nat→Value),
  GB ks as h=some (as',h',bs)→aB w0 outer own ρ g w→(∀ j (hj:j<as.length),VR w ρ (mA outer ρ g) (u j) as[j])→GE h g→(∀ r,N0+128 *k≤r→ρ r=none)→(∀ r,N0≤r→h r=none)→
  ∃ ρ' g',aB w0 outer own ρ' g' w∧GE h' g'∧(∀ r,h r=none→h' r=none)∧(∀ r,h r=none→r<N0+128 *k→g' r=g r)∧(∀ r ri,ρ r=some ri→ρ' r=some ri)∧
   (∀ v d,VR w ρ (mA outer ρ g) v d→VR w ρ' (mA outer ρ' g') v d)∧ZD w ρ' (mA outer ρ' g') g' N0 ks k as' bs u∧
   (∀ b ∈ bs,h' b=none∧h b≠none)∧bs.Nodup∧as.length=ks.length∧(∀ r,r<N0→ρ' r=ρ r)
 | [],[],h,h',as',bs,k,ρ,g,u,ht,hh,hv,hg,hf,hN=>by
  simp only [GB,Option.some.injEq,Prod.mk.injEq] at ht
  obtain ⟨rfl,rfl,rfl⟩:=ht
  exact ⟨ρ,g,hh,hg,fun _ h=>h,fun _ _ _=>rfl,fun _ _ h=>h,fun _ _ h=>h, .nil _ _,fun b hb=>by simp at hb,by simp,rfl,fun _ _=>rfl⟩
 | [],_ :: _,h,h',as',bs,k,ρ,g,u,ht,hh,hv,hg,hf,hN=>by simp [GB] at ht
 | .plain :: ks,[],h,h',as',bs,k,ρ,g,u,ht,hh,hv,hg,hf,hN=>by simp [GB] at ht
 | .ptr _ :: ks,[],h,h',as',bs,k,ρ,g,u,ht,hh,hv,hg,hf,hN=>by simp [GB] at ht
 | .mv _ :: ks,[],h,h',as',bs,k,ρ,g,u,ht,hh,hv,hg,hf,hN=>by simp [GB] at ht
 | .plain :: ks,v :: vs,h,h',as',bs,k,ρ,g,u,ht,hh,hv,hg,hf,hN=>by
  simp only [GB] at ht
  split at ht
  ·cases ht
  rename_i v' ids I0
  split at ht
  ·cases ht
  rename_i as2 h2 bs2 o7
  simp only [Option.some.injEq,Prod.mk.injEq] at ht
  obtain ⟨rfl,rfl,rfl⟩:=ht
  obtain ⟨k1,k2⟩:=zeX hg I0
  have k2:∀ r ∈ ids,∃ row,h r=some row:=k2
  obtain ⟨m1,m2⟩:=hh.mark ids
  obtain ⟨f1,f2⟩:=za9 hh (hv 0 (by simp)) k1
  have m4:∀ r,h r=none→r ∉ ids:=fun r hn hm=>by obtain ⟨row,h5⟩:=k2 r hm;rw [hn] at h5;cases h5
  have hmn:∀ r,h r=none→IB h ids r=none:=fun r hn=>by rw [ID,if_neg (m4 r hn)];exact hn
  obtain ⟨ρ',g',c1,c2,c3,c4,c5,c6,c7,c8,c9,c10,c11⟩:=WU N0 ks vs (IB h ids) h2 as2 bs2 (k+1) ρ (IB g ids) (fun j=>u (j+1)) o7 m1
   (fun j hj=>m2 _ _ (hv (j+1) (by simp;omega))) (zbk hg ids) (fun r hr=>hf r (by omega)) (fun r hr=>hmn r (hN r hr))
  refine ⟨ρ',g',c1,c2,fun r hr=>c3 r (hmn r hr),fun r hr hk=>?_,c5,fun v d hd=>c6 _ _ (m2 _ _ hd), .plain (c6 _ _ f1) f2 c7,fun b hb=>?_,c9,by simp [c10],c11⟩
  ·rw [c4 r (hmn r hr) (by omega),ID,if_neg (m4 r hr)]
  ·obtain ⟨d1,d2⟩:=c8 b hb
   exact ⟨d1,fun hn=>d2 (hmn b hn)⟩
 | .ptr ow :: ks,v :: vs,h,h',as',bs,k,ρ,g,u,ht,hh,hv,hg,hf,hN=>by
  obtain ⟨r,rfl⟩:=zca ht
  simp only [GB] at ht
  split at ht
  case h_2=>cases ht
  rename_i cs LV
  cases AW:Nat.ble cs.length 127
  case false=>simp [AW] at ht
  simp only [AW,cond_true] at ht
  have AW:=Nat.le_of_ble_eq_true AW
  split at ht
  ·cases ht
  rename_i cs' h1 O3
  split at ht
  ·cases ht
  rename_i as2 h2 bs2 o7
  simp only [Option.some.injEq,Prod.mk.injEq] at ht
  obtain ⟨rfl,rfl,rfl⟩:=ht
  have hrN:r<N0:=by
   rcases Nat.lt_or_ge r N0 with h3 | h3
   ·exact h3
   ·rw [hN r h3] at LV;cases LV
  have hgr:=hg _ _ LV
  have RX:=hv 0 (by simp)
  simp only [List.getElem_cons_zero] at RX
  obtain ⟨ri,hρ,dW,_⟩:=hh.rows r _ hgr
  have I1:u 0= .pointer (some (xA ri.b 0))∧ri.nl=false:=by
   generalize u 0=x at RX
   cases RX with
   | bp _ _ ri' h3 h4=>rw [hρ] at h3;cases h3;exact ⟨rfl,h4⟩
  have kW:∀ q,h q=none→uA h r none q=none:=fun q hq=>by
   by_cases qW:q=r
   ·subst qW;exact IA _ _ _
   ·rw [vA _ _ _ _ qW];exact hq
  obtain ⟨ρ1,g1,T,QV⟩:=yP ow (N0+128 *k) 128 cs 0 (uA h r none) h1 cs' cs' ρ g (fun j=>(w.cell? (xA ri.b j)).getD undef) O3 (vB.rfl' _) (by omega) hh
   (fun j hj=>by obtain ⟨_,x,f1,f2⟩:=dW.2 j hj;rw [f1];exact f2)
   (fun q row hq=>by
    by_cases qW:q=r
    ·subst qW;rw [IA] at hq;cases hq
    ·rw [vA _ _ _ _ qW] at hq;exact hg _ _ hq)
   (fun q hq=>kW _ (hN _ (by omega))) (fun q _ _=>hf _ (by omega))
  have X9:Out (N0+128 *k) 128 r:=fun h3=>by omega
  have hg1r:g1 r=some ⟨.box cs, .own⟩:=by rw [(T.out r X9).2 (IA _ _ _)];exact hgr
  have hρ1:ρ1 r=some ri:=T.ext _ _ hρ
  obtain ⟨n1,n2⟩:=T.heap.reread hg1r (es:=JA ow (N0+128 *k) 0 cs') (by rw [ND];exact QV) (fun ri' h3 j hj=>by rw [hρ1] at h3;cases h3;exact T.vals j hj)
  have J4:h1 r=none:=T.less r (IA _ _ _)
  obtain ⟨ρ',g',c1,c2,c3,c4,c5,c6,c7,c8,c9,c10,c11⟩:=WU N0 ks vs h1 h2 as2 bs2 (k+1) ρ1 _ (fun j=>u (j+1)) o7 n1
   (fun j hj=>n2 _ _ (T.keep _ _ (hv (j+1) (by simp;omega))))
   (fun q row hq=>by
    have qW:q≠r:=by rintro rfl;rw [J4] at hq;cases hq
    rw [vA _ _ _ _ qW];exact T.lies _ _ hq)
   (fun q hq=>by rw [(T.out q (fun h3=>by omega)).1];exact hf q (by omega)) (fun q hq=>T.less q (kW q (hN q hq)))
  have VX:∀ q,h q=none→q<N0+128 *k→Out (N0+128 *k) 128 q:=fun q _ h3 h4=>by omega
  refine ⟨ρ',g',c1,c2,fun q hq=>c3 q (T.less q (kW q hq)),fun q hq hk=>?_,fun q qi hq=>c5 _ _ (T.ext _ _ hq),fun v d hd=>c6 _ _ (n2 _ _ (T.keep _ _ hd)),
   .ptr ri (c5 _ _ hρ1) I1.2 I1.1 ?_ (by omega) (fun q hq=>?_) T.closed hrN c7,fun b hb=>?_,?_,by simp [c10],fun q hq=>?_⟩
  ·have qW:q≠r:=by rintro rfl;rw [LV] at hq;cases hq
   rw [c4 q (T.less q (kW q hq)) (by omega),vA _ _ _ _ qW,(T.out q (VX q hq hk)).2 (kW q hq)]
  ·rw [c4 r J4 (by omega),IA]
  ·rw [c4 _ (T.less _ (kW _ (hN _ (by omega)))) (by omega),vA _ _ _ _ (by omega),T.new q (by omega) hq]
  ·rcases List.mem_cons.1 hb with rfl | hb
   ·exact ⟨c3 _ J4,by rw [LV];simp⟩
   ·obtain ⟨d1,d2⟩:=c8 b hb
    exact ⟨d1,fun hn=>d2 (T.less b (kW b hn))⟩
  ·refine List.nodup_cons.2 ⟨fun hm=>(c8 r hm).2 J4,c9⟩
  ·rw [c11 q hq,(T.out q (fun h3=>by omega)).1]
 | .mv ow :: ks,v :: vs,h,h',as',bs,k,ρ,g,u,ht,hh,hv,hg,hf,hN=>by
  obtain ⟨cs,rfl⟩:=zb9 ht
  simp only [GB] at ht
  cases AW:Nat.ble cs.length 127
  case false=>simp [AW] at ht
  simp only [AW,cond_true] at ht
  have AW:=Nat.le_of_ble_eq_true AW
  split at ht
  ·cases ht
  rename_i cs' h1 O3
  split at ht
  ·cases ht
  rename_i as2 h2 bs2 o7
  simp only [Option.some.injEq,Prod.mk.injEq] at ht
  obtain ⟨rfl,rfl,rfl⟩:=ht
  have RX:=hv 0 (by simp)
  simp only [List.getElem_cons_zero] at RX
  obtain ⟨vsA,I1,eW,hcv⟩:∃ vsA:Array Value,u 0= .agg vsA∧vsA.size=cs.length∧∀ j (hj:j<cs.length),VR w ρ (mA outer ρ g) (vsA.getD j undef) cs[j]:=by
   generalize u 0=x at RX
   cases RX with
   | agg _ vsA h1 h2=>exact ⟨vsA,rfl,h1,h2⟩
  obtain ⟨ρ1,g1,T,QV⟩:=yP ow (N0+128 *k) 128 cs 0 h h1 cs' cs' ρ g (fun j=>vsA.getD j undef) O3 (vB.rfl' _) (by omega) hh hcv hg
   (fun q hq=>hN _ (by omega)) (fun q _ _=>hf _ (by omega))
  obtain ⟨ρ',g',c1,c2,c3,c4,c5,c6,c7,c8,c9,c10,c11⟩:=WU N0 ks vs h1 h2 as2 bs2 (k+1) ρ1 g1 (fun j=>u (j+1)) o7 T.heap
   (fun j hj=>T.keep _ _ (hv (j+1) (by simp;omega))) T.lies
   (fun q hq=>by rw [(T.out q (fun h3=>by omega)).1];exact hf q (by omega)) (fun q hq=>T.less q (hN q hq))
  have VX:∀ q,h q=none→q<N0+128 *k→Out (N0+128 *k) 128 q:=fun q _ h3 h4=>by omega
  refine ⟨ρ',g',c1,c2,fun q hq=>c3 q (T.less q hq),fun q hq hk=>?_,fun q qi hq=>c5 _ _ (T.ext _ _ hq),fun v d hd=>c6 _ _ (T.keep _ _ hd),
   .mv ?_ (by omega) (fun q hq=>?_) T.closed c7,fun b hb=>?_,c9,by simp [c10],fun q hq=>?_⟩
  ·rw [c4 q (T.less q hq) (by omega),(T.out q (VX q hq hk)).2 hq]
  ·rw [I1]
   refine .agg _ _ (by rw [ND,eW,QV]) fun j hj=>?_
   exact c6 _ _ (T.vals j hj)
  ·rw [c4 _ (T.less _ (hN _ (by omega))) (by omega),T.new q (by omega) hq]
  ·obtain ⟨d1,d2⟩:=c8 b hb
   exact ⟨d1,fun hn=>d2 (T.less b hn)⟩
  ·rw [c11 q hq,(T.out q (fun h3=>by omega)).1]
end
end Go.D
namespace Go.D
variable [fA]
def zhe (P:Program) (f:Nat) (args:Array Value) (w:World) (post:Value→World→Prop):Prop:=
 ((callFunc f args).run P w= .ok (.enter f args) w∧Calls P f args w fun e w'=>∃ v,e= .returned v∧post v w')∨
 ∃ v w',(callFunc f args).run P w= .ok (.value v) w'∧post v w'
def jD (ks:List ZA) (as:List V) (bs:List Nat) (ow:List Nat) (base:Nat) (shape:List (Bool × Nat)) (rs:List V):Nat→Option nA:=
 uB ks as bs ((JA ow base 0 rs).drop (PH shape)) (UA ow base (fun _=>none) 0 rs)
def EC (ci:NB) (as:List V) (bs:List Nat) (base:Nat) (rs:List V):Nat→Option nA:=
 bif ci.pb then uA (fun _=>none) base (some ⟨.box rs, .own⟩) else jD ci.ks as bs ci.own base ci.shape rs
def eA (P:Program) (f:Nat) (ci:NB) (g:Gl:=JH):Prop:=
 ∀ (w:World) (args:Array Value) (as:List V) (outer own:Nat→Prop) (ρ:Nat→Option RI) (a:ci.A) (r:ci.R) (base:Nat) (bs:List Nat),
  args.size=ci.ks.length→(rB ci.ks 0 as).length=ci.ks.length→aB w outer own ρ (yA ci.ks 0 as) w→
  (∀ j (hj:j<(rB ci.ks 0 as).length),VR w ρ (mA outer ρ (yA ci.ks 0 as)) (args.getD j undef) (rB ci.ks 0 as)[j])→(∀ q,yA ci.ks 0 as q=none→ρ q=none)→
  bs.Nodup→(∀ b ∈ bs,Out base 128 b)→ci.dA as=some a→ci.F a=some r→(ci.eR r).length≤128→zcm g own w→
  zhe P f args w fun v w'=>∃ ρ',aB w outer own ρ' (EC ci as bs base (ci.eR r)) w'∧
   VR w' ρ' (mA outer ρ' (EC ci as bs base (ci.eR r))) v (pG ci base (ci.eR r))∧
   (∀ q b,fB ci.ks 0 bs q=some b→ρ' b=ρ q)∧(∀ r,ρ' r≠none→(base≤r∧r<base+128)∨r ∈ bs)
omit [fA] in
theorem Calls.mono' {P:Program} {f:Nat} {args:Array Value} {w:World} {R R':Ending→World→Prop} (h:Calls P f args w R) (hr:∀ e w',R e w'→R' e w'):Calls P f args w R':=
 fun cs=>let ⟨e,w',fr,h1,h2⟩:=h cs;⟨e,w',fr,hr _ _ h1,h2⟩
omit [fA] in
theorem BI:∀ (ks:List ZA) (as:List V) (bs:List Nat) (vs:List V) (h:Nat→Option nA) (r:Nat),
  uB ks as bs vs h r=match uB ks as bs vs (fun _=>none) r with | some x=>some x | none=>h r
 | [],as,bs,vs,h,r=>by cases as <;> rfl
 | .plain :: ks,[],bs,vs,h,r=>rfl
 | .plain :: ks,a :: as,bs,vs,h,r=>by simp only [uB];exact BI ks as bs vs h r
 | .mv ow :: ks,[],bs,vs,h,r=>rfl
 | .mv ow :: ks,a :: as,bs,vs,h,r=>by simp only [uB];exact BI ks as bs vs h r
 | .ptr ow :: ks,[],bs,vs,h,r=>rfl
 | .ptr ow :: ks,a :: as,[],vs,h,r=>by cases a <;> rfl
 | .ptr ow :: ks,a :: as,b :: bs,vs,h,r=>by
  cases a <;> try rfl
  simp only [uB]
  by_cases hr:r=b
  ·subst hr;simp [IA]
  ·rw [vA _ _ _ _ hr,vA _ _ _ _ hr];exact BI ks as bs _ h r
omit [fA] in
theorem qS:∀ (ks:List ZA) (as:List V) (bs:List Nat) (vs:List V) (r:Nat) (row:nA),uB ks as bs vs (fun _=>none) r=some row→r ∈ bs
 | [],as,bs,vs,r,row,h=>by cases as <;> simp [uB] at h
 | .plain :: ks,[],bs,vs,r,row,h=>by simp [uB] at h
 | .plain :: ks,a :: as,bs,vs,r,row,h=>by simp only [uB] at h;exact qS ks as bs vs r row h
 | .mv ow :: ks,[],bs,vs,r,row,h=>by simp [uB] at h
 | .mv ow :: ks,a :: as,bs,vs,r,row,h=>by simp only [uB] at h;exact qS ks as bs vs r row h
 | .ptr ow :: ks,[],bs,vs,r,row,h=>by simp [uB] at h
 | .ptr ow :: ks,a :: as,[],vs,r,row,h=>by cases a <;> simp [uB] at h
 | .ptr ow :: ks,a :: as,b :: bs,vs,r,row,h=>by
  cases a <;> try (simp [uB] at h;done)
  simp only [uB] at h
  by_cases hr:r=b
  ·subst hr;simp
  ·rw [vA _ _ _ _ hr] at h;exact List.mem_cons_of_mem _ (qS ks as bs _ r row h)
omit [fA] in
theorem zpQ {ks:List ZA} {as:List V} {bs ow:List Nat} {base:Nat} {shape:List (Bool × Nat)} {rs:List V} {r:Nat} {row:nA} (hl:rs.length≤128)
  (h:jD ks as bs ow base shape rs r=some row):r ∈ bs∨(base≤r∧r<base+128):=by
 unfold jD at h
 rw [BI] at h
 split at h
 ·rename_i x hx;exact .inl (qS _ _ _ _ _ _ hx)
 ·obtain ⟨_,_,_,h1,h2⟩:=UC _ _ _ _ _ _ h
  exact .inr ⟨by omega,by omega⟩
omit [fA] in
theorem rS:∀ (ks:List ZA) (as:List V) (bs:List Nat) (vs:List V) (r:Nat) (row:nA),uB ks as bs vs (fun _=>none) r=some row→row.m= .own
 | [],as,bs,vs,r,row,h=>by cases as <;> simp [uB] at h
 | .plain :: ks,[],bs,vs,r,row,h=>by simp [uB] at h
 | .plain :: ks,a :: as,bs,vs,r,row,h=>by simp only [uB] at h;exact rS ks as bs vs r row h
 | .mv ow :: ks,[],bs,vs,r,row,h=>by simp [uB] at h
 | .mv ow :: ks,a :: as,bs,vs,r,row,h=>by simp only [uB] at h;exact rS ks as bs vs r row h
 | .ptr ow :: ks,[],bs,vs,r,row,h=>by simp [uB] at h
 | .ptr ow :: ks,a :: as,[],vs,r,row,h=>by cases a <;> simp [uB] at h
 | .ptr ow :: ks,a :: as,b :: bs,vs,r,row,h=>by
  cases a <;> try (simp [uB] at h;done)
  simp only [uB] at h
  by_cases hr:r=b
  ·subst hr;rw [IA] at h;cases h;rfl
  ·rw [vA _ _ _ _ hr] at h;exact rS ks as bs _ r row h
omit [fA] in
theorem zpS {ks:List ZA} {as:List V} {bs ow:List Nat} {base:Nat} {shape:List (Bool × Nat)} {rs:List V} {r:Nat} {row:nA} (hl:rs.length≤128)
  (h:jD ks as bs ow base shape rs r=some row):row.m= .own:=by
 unfold jD at h
 rw [BI] at h
 split at h
 ·rename_i x hx;cases h;exact rS _ _ _ _ _ _ hx
 ·obtain ⟨_,_,h0,_,_⟩:=UC _ _ _ _ _ _ h
  rw [h0]
omit [fA] in
theorem zpR (ks:List ZA) (as:List V) (bs ow:List Nat) (base:Nat) (shape:List (Bool × Nat)) (rs:List V) (h:Nat→Option nA) (r:Nat):
  uB ks as bs ((JA ow base 0 rs).drop (PH shape)) (UA ow base h 0 rs) r=match jD ks as bs ow base shape rs r with | some x=>some x | none=>h r:=by
 unfold jD
 rw [BI ks as bs _ (UA ow base h 0 rs),BI ks as bs _ (UA ow base (fun _=>none) 0 rs),FB ow base h]
 cases uB ks as bs ((JA ow base 0 rs).drop (PH shape)) (fun _=>none) r <;> rfl
omit [fA] in
theorem zeL {ci:NB} {as:List V} {bs:List Nat} {base:Nat} {rs:List V} {r:Nat} {row:nA} (hl:rs.length≤128) (h:EC ci as bs base rs r=some row):r ∈ bs∨(base≤r∧r<base+128):=by
 unfold EC at h
 cases hp:ci.pb
 ·rw [hp] at h;exact zpQ hl h
 ·rw [hp] at h
  simp only [cond_true] at h
  by_cases hr:r=base
  ·subst hr;exact .inr ⟨Nat.le_refl _,by omega⟩
  ·rw [vA _ _ _ _ hr] at h;cases h
omit [fA] in
theorem zaY {ci:NB} {as:List V} {bs:List Nat} {base:Nat} {rs:List V} {r:Nat} {row:nA} (hl:rs.length≤128) (h:EC ci as bs base rs r=some row):row.m= .own:=by
 unfold EC at h
 cases hp:ci.pb
 ·rw [hp] at h;exact zpS hl h
 ·rw [hp] at h
  simp only [cond_true] at h
  by_cases hr:r=base
  ·subst hr;rw [IA] at h;cases h;rfl
  ·rw [vA _ _ _ _ hr] at h;cases h
omit [fA] in
theorem oJ (ci:NB) (as:List V) (bs:List Nat) (base:Nat) (rs:List V) (h:Nat→Option nA) (r:Nat):
  QE ci as bs base rs h r=match EC ci as bs base rs r with | some x=>some x | none=>h r:=by
 unfold EC QE
 cases hp:ci.pb
 ·exact zpR _ _ _ _ _ _ _ _ _
 ·simp only [cond_true]
  by_cases hr:r=base
  ·subst hr;rw [IA,IA]
  ·rw [vA _ _ _ _ hr,vA _ _ _ _ hr]
def xD (h' h:Nat→Option nA):Prop:=∀ r row',h' r=some row'→∃ row,h r=some row∧row.c=row'.c∧(row'.m.isRo=false→row.m.isRo=false)
omit [fA] in
theorem xD.refl (h:Nat→Option nA):xD h h:=fun _ row' h=>⟨row',h,rfl,id⟩
omit [fA] in
theorem xD.trans {a b c:Nat→Option nA} (h:xD a b) (k:xD b c):xD a c:=fun r row' hr=>by
 obtain ⟨row,h1,h2,h3⟩:=h r row' hr
 obtain ⟨row2,k1,k2,k3⟩:=k r row h1
 exact ⟨row2,k1,k2.trans h2,fun h=>k3 (h3 h)⟩
omit [fA] in
theorem SN (h:Nat→Option nA) (r:Nat):xD (uA h r none) h:=fun q row' hq=>by
 by_cases qW:q=r
 ·subst qW;rw [IA] at hq;cases hq
 ·rw [vA _ _ _ _ qW] at hq;exact ⟨row',hq,rfl,id⟩
omit [fA] in
theorem OI (ow:List Nat):∀ (cs:List V) (p:Nat) (h:Nat→Option nA) (x:List V × (Nat→Option nA)),AC ow p cs h=some x→xD x.2 h
 | [],p,h,x,ht=>by simp [AC] at ht;subst ht;exact xD.refl h
 | c :: cs,p,h,x,ht=>by
  simp only [AC] at ht
  cases hb:ow.any (Nat.beq p)
  ·simp only [hb,cond_false] at ht
   split at ht
   case h_2=>cases ht
   split at ht
   case h_2=>cases ht
   rename_i hr
   cases ht
   exact (OI ow cs _ _ _ hr).trans (VN h _)
  ·simp only [hb,cond_true] at ht
   split at ht
   ·split at ht
    case h_2=>cases ht
    split at ht
    case h_2=>cases ht
    rename_i hr
    cases ht
    exact (OI ow cs _ _ _ hr).trans (SN h _)
   ·split at ht
    case h_2=>cases ht
    rename_i hr
    cases ht
    have:=OI ow cs _ _ _ hr
    exact this
   ·split at ht
    case h_2=>cases ht
    split at ht
    case h_2=>cases ht
    rename_i hr
    cases ht
    exact (OI ow cs _ _ _ hr).trans (SN h _)
   ·cases ht
omit [fA] in
theorem wP:∀ (ks:List ZA) (as:List V) (h:Nat→Option nA) (x:List V × (Nat→Option nA) × List Nat),GB ks as h=some x→xD x.2.1 h
 | [],[],h,x,ht=>by simp [GB] at ht;subst ht;exact xD.refl h
 | [],_ :: _,h,x,ht=>by simp [GB] at ht
 | .plain :: ks,[],h,x,ht=>by simp [GB] at ht
 | .ptr _ :: ks,[],h,x,ht=>by simp [GB] at ht
 | .mv _ :: ks,[],h,x,ht=>by simp [GB] at ht
 | .mv ow :: ks,v :: vs,h,x,ht=>by
  obtain ⟨cs,rfl⟩:=zb9 ht
  simp only [GB] at ht
  cases hb:Nat.ble cs.length 127
  case false=>simp [hb] at ht
  simp only [hb,cond_true] at ht
  split at ht
  ·cases ht
  rename_i hl
  split at ht
  ·cases ht
  rename_i hr
  cases ht
  exact (wP ks vs _ _ hr).trans (OI _ _ _ _ _ hl)
 | .plain :: ks,v :: vs,h,x,ht=>by
  simp only [GB] at ht
  split at ht
  ·cases ht
  split at ht
  ·cases ht
  rename_i hr
  cases ht
  exact (wP ks vs _ _ hr).trans (VN h _)
 | .ptr ow :: ks,v :: vs,h,x,ht=>by
  obtain ⟨r,rfl⟩:=zca ht
  simp only [GB] at ht
  split at ht
  case h_2=>cases ht
  rename_i cs _
  cases hb:Nat.ble cs.length 127
  case false=>simp [hb] at ht
  simp only [hb,cond_true] at ht
  split at ht
  ·cases ht
  rename_i hl
  split at ht
  ·cases ht
  rename_i hr
  cases ht
  exact (wP ks vs _ _ hr).trans ((OI _ _ _ _ _ hl).trans (SN h r))
section
variable {C:Cx} {w0:World} {outer own:Nat→Prop} {ρ:Nat→Option RI} {st st':St} {a:Act} {w:World} {h:Nat→Option nA}
theorem aB.sub (hh:aB w0 outer own ρ h w) {w1:World} {outer' own':Nat→Prop} {e:Nat→Option nA} {ρe:Nat→Option RI} (φ:Nat→Nat) (O0:Wx w1 w)
  (X0:∀ b,b<w1.heap.size→¬ own' b→w.heap[b]?=w1.heap[b]?) (VX:∀ b,outer' b→b<w1.heap.size∧¬ own' b)
  (LV:∀ q row,e q=some row→∃ row' ri,h (φ q)=some row'∧ρe q=some ri∧ρ (φ q)=some ri∧xC w ρe (mA outer' ρe e) ri row.c∧(ri.nl=false→¬ outer' ri.b∧(row.m.isRo=false→w1.heap.size≤ri.b∨own' ri.b)))
  (hinj:∀ q q' row row',e q=some row→e q'=some row'→φ q=φ q'→q=q'):aB w1 outer' own' ρe e w:=by
 refine ⟨O0,X0,VX,fun q row hq=>?_,fun q q' row row' qi qi' h1 h2 h3 h4 h5 h6 h7=>?_⟩
 ·obtain ⟨row',ri,h1,h2,h3,h4,h5⟩:=LV q row hq
  obtain ⟨ri',k1,_,k2⟩:=hh.rows _ _ h1
  rw [h3] at k1;cases k1
  exact ⟨ri,h2,h4,fun hn=>⟨h5 hn,(k2 hn).2⟩⟩
 ·obtain ⟨r1,ri1,g1,g2,g3,_,_⟩:=LV q row h1
  obtain ⟨r2,ri2,g4,g5,g6,_,_⟩:=LV q' row' h2
  rw [h3] at g2;cases g2;rw [h4] at g5;cases g5
  exact hinj q q' row row' h1 h2 (hh.inj _ _ _ _ _ _ g1 g4 g3 g6 h5 h6 h7)
variable {bad:Nat→Prop} {g:Nat→Option nA} {N0:Nat}
theorem ZD.row {ks:List ZA} {k:Nat} {as:List V} {bs:List Nat} {u:Nat→Value} (he:ZD w ρ bad g N0 ks k as bs u):∀ {q:Nat} {row:nA},yA ks k as q=some row→
  128 *k≤q∧q<128 *(k+ks.length)∧
  ((∃ b ow k' cs ri,fB ks k bs q=some b∧q=128 *k'+127∧k≤k'∧k'<k+ks.length∧row=⟨.box (JA ow (128 *k') 0 cs), .own⟩∧g b=some ⟨.box (JA ow (N0+128 *k') 0 cs), .own⟩∧ρ b=some ri∧ri.nl=false∧
    cs.length≤127∧(∀ j (hj:j<cs.length),ZB cs[j])∧b<N0∧∀ p t l,cs[p]?=some (.sl t l)→ow.any (Nat.beq p)=true→yA ks k as (128 *k'+p)=some ⟨.arr t l, .own⟩)∨
  (∃ t l,row=⟨.arr t l, .own⟩∧g (N0+q)=some row∧q % 128≠127)):=by
 induction he with
 | nil=>intro q row h;simp [yA] at h
 | plain hv hn hr ih=>
  rename_i ks k v as bs u
  intro q row h
  simp only [yA] at h
  obtain ⟨h1,h2,h3⟩:=ih h
  refine ⟨by omega,by simp;omega,?_⟩
  rcases h3 with ⟨b,ow,k',cs,ri,e1,e2,e3,e4,e5,e6,e7,e8,e9,e10,e11,e12⟩ | h3
  ·exact .inl ⟨b,ow,k',cs,ri,e1,e2,by omega,by simp;omega,e5,e6,e7,e8,e9,e10,e11,fun p t l h4 h5=>by simp only [yA];exact e12 p t l h4 h5⟩
  ·exact .inr h3
 | ptr ri hρ mW hu hg hl hq hc hb hr ih=>
  rename_i ow ks k b cs as bs u
  intro q row h
  simp only [yA] at h
  by_cases SZ:q=128 *k+127
  ·subst SZ
   rw [IA] at h;cases h
   exact ⟨by omega,by simp;omega, .inl ⟨b,ow,k,cs,ri,by simp [fB],rfl,Nat.le_refl _,by simp,rfl,hg,hρ,mW,hl,fun j hj=>(hc j hj).1,hb,fun p t l h4 h5=>by
    have hp:p<cs.length:=by
     rcases Nat.lt_or_ge p cs.length with h | h
     ·exact h
     ·rw [List.getElem?_eq_none h] at h4;cases h4
    simp only [yA]
    rw [vA _ _ _ _ (by omega),FB,zcb ow (128 *k) cs 0 p t l (Nat.zero_le _) h4 h5]⟩⟩
  ·rw [vA _ _ _ _ SZ,FB] at h
   split at h
   ·rename_i x hx
    cases h
    obtain ⟨t,l,e1,e2,e3⟩:=UC _ _ _ _ _ _ hx
    refine ⟨by omega,by simp;omega, .inr ⟨t,l,e1,?_,by omega⟩⟩
    have h1:=hq (q - 128 *k) (by omega)
    have h2:=zP ow (128 *k) (N0+128 *k) cs 0 (q - 128 *k)
    rw [show 128 *k+(q - 128 *k)=q by omega,hx] at h2
    rw [show N0+128 *k+(q - 128 *k)=N0+q by omega] at h1 h2
    rw [h1, ← h2]
   ·obtain ⟨h1,h2,h3⟩:=ih h
    refine ⟨by omega,by simp;omega,?_⟩
    rcases h3 with ⟨b',ow',k',cs',ri',e1,e2,e3,e4,e5,e6,e7,e8,e9,e10,e11,e12⟩ | h3
    ·refine .inl ⟨b',ow',k',cs',ri',?_,e2,by omega,by simp;omega,e5,e6,e7,e8,e9,e10,e11,fun p t l h4 h5=>?_⟩
     ·simp only [fB];rw [if_neg SZ];exact e1
     ·have hp:p<cs'.length:=by
       rcases Nat.lt_or_ge p cs'.length with h | h
       ·exact h
       ·rw [List.getElem?_eq_none h] at h4;cases h4
      simp only [yA]
      rw [vA _ _ _ _ (by omega),FB,BC _ _ _ _ _ (by omega)]
      exact e12 p t l h4 h5
    ·exact .inr h3
 | mv hv hl hq hc hr ih=>
  rename_i ow ks k cs as bs u
  intro q row h
  simp only [yA] at h
  rw [FB] at h
  split at h
  ·rename_i x hx
   cases h
   obtain ⟨t,l,e1,e2,e3⟩:=UC _ _ _ _ _ _ hx
   refine ⟨by omega,by simp;omega, .inr ⟨t,l,e1,?_,by omega⟩⟩
   have h1:=hq (q - 128 *k) (by omega)
   have h2:=zP ow (128 *k) (N0+128 *k) cs 0 (q - 128 *k)
   rw [show 128 *k+(q - 128 *k)=q by omega,hx] at h2
   rw [show N0+128 *k+(q - 128 *k)=N0+q by omega] at h1 h2
   rw [h1, ← h2]
  ·obtain ⟨h1,h2,h3⟩:=ih h
   refine ⟨by omega,by simp;omega,?_⟩
   rcases h3 with ⟨b',ow',k',cs',ri',e1,e2,e3,e4,e5,e6,e7,e8,e9,e10,e11,e12⟩ | h3
   ·refine .inl ⟨b',ow',k',cs',ri',e1,e2,by omega,by simp;omega,e5,e6,e7,e8,e9,e10,e11,fun p t l h4 h5=>?_⟩
    have hp:p<cs'.length:=by
     rcases Nat.lt_or_ge p cs'.length with h | h
     ·exact h
     ·rw [List.getElem?_eq_none h] at h4;cases h4
    simp only [yA]
    rw [FB,BC _ _ _ _ _ (by omega)]
    exact e12 p t l h4 h5
   ·exact .inr h3
theorem ZD.vals {ks:List ZA} {k:Nat} {as:List V} {bs:List Nat} {u:Nat→Value} (he:ZD w ρ bad g N0 ks k as bs u) {ρc:Nat→Option RI} {badc:Nat→Prop}
  (hb:∀ b,badc b→bad b) (hρ:∀ q b,fB ks k bs q=some b→ρc q=ρ b) (hρ2:∀ q row,yA ks k as q=some row→q % 128≠127→ρc q=ρ (N0+q)):
  (rB ks k as).length=ks.length∧∀ j (hj:j<(rB ks k as).length),VR w ρc badc (u j) (rB ks k as)[j]:=by
 induction he with
 | nil=>exact ⟨rfl,fun j hj=>by simp [rB] at hj⟩
 | plain hv hn hr ih=>
  rename_i ks k v as bs u
  obtain ⟨h1,h2⟩:=ih (fun q b h=>hρ q b h) fun q row h=>hρ2 q row h
  refine ⟨by simp [rB,h1],fun j hj=>?_⟩
  cases j with
  | zero=>exact (hv.noRef hn ρc).mono (fun _ _ h=>h) (fun _ _ _=>rfl) fun b h=> .inl (hb b h)
  | succ j=>exact h2 j (by simpa [rB] using hj)
 | ptr ri hρb mW hu hg hl hq hc hb0 hr ih=>
  rename_i ow ks k b cs as bs u
  obtain ⟨h1,h2⟩:=ih (fun q b' h=>hρ q b' (by
   obtain ⟨h3,_⟩:=AD _ _ _ _ _ h
   simp only [fB];rw [if_neg (by omega)];exact h)) fun q row h h3=>hρ2 q row (by
   have:=(hr.row h).1
   simp only [yA]
   rw [vA _ _ _ _ (by omega),FB,BC _ _ _ _ _ (by omega)];exact h) h3
  refine ⟨by simp [rB,h1],fun j hj=>?_⟩
  cases j with
  | zero=>
   show VR w ρc badc (u 0) (.bp (128 *k+127) 0)
   rw [hu]
   exact .bp _ _ ri (by rw [hρ (128 *k+127) b (by simp [fB])];exact hρb) mW
  | succ j=>exact h2 j (by simpa [rB] using hj)
 | mv hv hl hq hc hr ih=>
  rename_i ow ks k cs as bs u
  obtain ⟨h1,h2⟩:=ih (fun q b h=>hρ q b h) fun q row h h3=>hρ2 q row (by
   have:=(hr.row h).1
   simp only [yA]
   rw [FB,BC _ _ _ _ _ (by omega)];exact h) h3
  refine ⟨by simp [rB,h1],fun j hj=>?_⟩
  cases j with
  | zero=>
   show VR w ρc badc (u 0) (.agg (JA ow (128 *k) 0 cs))
   generalize u 0=u0 at hv
   cases hv with
   | agg _ vs hs cY=>
   refine .agg _ vs (by rw [ND];rw [ND] at hs;exact hs) ?_
   refine AP ow (N0+128 *k) (128 *k) cs 0 (fun j=>vs.getD j undef) (fun q' h3 h4 h5 h6=>?_) (fun j hj=>(hc j hj).1) hb (fun j hj=>cY j hj)
   obtain ⟨t,l,h6⟩:=h6
   have h0:yA (.mv ow :: ks) k (.agg cs :: as) (128 *k+q')=some ⟨.arr t l, .own⟩:=by
    simp only [yA]
    rw [FB,zcb ow (128 *k) cs 0 q' t l (Nat.zero_le _) h6 h5]
   have:=hρ2 _ _ h0 (by omega)
   rw [this];congr 1;omega
  | succ j=>exact h2 j (by simpa [rB] using hj)
theorem ZD.found {ks:List ZA} {k:Nat} {as:List V} {bs:List Nat} {u:Nat→Value} (he:ZD w ρ bad g N0 ks k as bs u):∀ {q b:Nat},fB ks k bs q=some b→∃ row,yA ks k as q=some row:=by
 induction he with
 | nil=>intro q b h;simp [fB] at h
 | plain hv hn hr ih=>intro q b h;simp only [fB] at h;simp only [yA];exact ih h
 | ptr ri hρ mW hu hg hl hq hc hb hr ih=>
  rename_i ow ks k b0 cs as bs u
  intro q b h
  simp only [fB] at h
  simp only [yA]
  by_cases SZ:q=128 *k+127
  ·subst SZ;exact ⟨_,IA _ _ _⟩
  ·rw [if_neg SZ] at h
   obtain ⟨row,h1⟩:=ih h
   have:=(AD _ _ _ _ _ h).1
   rw [vA _ _ _ _ SZ,FB,BC _ _ _ _ _ (by omega)]
   exact ⟨row,h1⟩
 | mv hv hl hq hc hr ih=>
  rename_i ow ks k cs as bs u
  intro q b h
  simp only [fB] at h
  simp only [yA]
  obtain ⟨row,h1⟩:=ih h
  have:=(AD _ _ _ _ _ h).1
  rw [FB,BC _ _ _ _ _ (by omega)]
  exact ⟨row,h1⟩
theorem ZD.surj {ks:List ZA} {k:Nat} {as:List V} {bs:List Nat} {u:Nat→Value} (he:ZD w ρ bad g N0 ks k as bs u):∀ b ∈ bs,∃ q,fB ks k bs q=some b:=by
 induction he with
 | nil=>intro b hb;simp at hb
 | plain hv hn hr ih=>intro b hb;obtain ⟨q,h⟩:=ih b hb;exact ⟨q,h⟩
 | mv hv hl hq hc hr ih=>intro b hb;obtain ⟨q,h⟩:=ih b hb;exact ⟨q,h⟩
 | ptr ri hρb mW hu hg hl hq hc hb0 hr ih=>
  rename_i ow ks k b cs as bs u
  intro b' bY
  rcases List.mem_cons.1 bY with rfl | bY
  ·exact ⟨128 *k+127,by simp [fB]⟩
  ·obtain ⟨q,h⟩:=ih b' bY
   refine ⟨q,?_⟩
   have:=(AD _ _ _ _ _ h).1
   simp only [fB];rw [if_neg (by omega)];exact h
theorem yS {bad2:Nat→Prop} {ri:RI} {t:TN} {l:List (El t)} (hr:xC w ρ bad ri (.arr t l)) (hb:∀ b,bad2 b→bad b) (ρ2:Nat→Option RI):xC w ρ2 bad2 ri (.arr t l):=by
 refine ⟨hr.1,?_⟩
 rcases hr.2 with h | ⟨h1,he,h2,h3,h4,h5⟩
 ·exact .inl h
 ·refine .inr ⟨h1,he,h2,h3,h4,fun i hi j hj=>?_⟩
  obtain ⟨u,h6,h7⟩:=h5 i hi j hj
  exact ⟨u,h6,(h7.noRef (fun S=>CI S t _ j) ρ2).mono (fun _ _ h=>h) (fun _ _ _=>rfl) fun b h=> .inl (hb b h)⟩
end
end Go.D
namespace Go.D
variable [fA]
inductive Rk (m:Nat):V→Prop where
 | undef:Rk m .undef
 | bool (b:Bool):Rk m (.bool b)
 | int (k:IntKind) (n:Int):Rk m (.int k n)
 | str (s:List UInt8):Rk m (.str s)
 | nil:Rk m .nil
 | sl (t:TN) (l:List (El t)) (h:t.rank<m):Rk m (.sl t l)
 | ow (r:Nat):Rk m (.ow r)
 | bp (r off:Nat):Rk m (.bp r off)
 | agg (cs:List V) (h:∀ c ∈ cs,Rk m c):Rk m (.agg cs)
 | tup (cs:List V) (h:∀ c ∈ cs,Rk m c):Rk m (.tup cs)
 | nili:Rk m .nili
 | ifc (b:Bool):Rk m (.ifc b)
def zbm (m:Nat):V→Bool
 | .sl t _=>Nat.blt t.rank m
 | .bool _ | .int _ _ | .str _ | .nil | .undef | .nili | .ifc _=>true
 | _=>false
omit [fA] in
theorem Rk.of_low {m:Nat} {v:V} (h:zbm m v=true):Rk m v:=by
 cases v <;> simp only [zbm] at h <;> try (cases h;done)
 ·exact .undef
 ·exact .bool _
 ·exact .int _ _
 ·exact .str _
 ·exact .nil
 ·exact .sl _ _ (by simpa [Nat.blt_eq] using h)
 ·exact .nili
 ·exact .ifc _
omit [fA] in
theorem Rk.mono {m m':Nat} (hm:m≤m') {v:V} (h:Rk m v):Rk m' v:=by
 induction h with
 | undef=>exact .undef
 | bool=>exact .bool _
 | int=>exact .int _ _
 | str=>exact .str _
 | nil=>exact .nil
 | sl t l h=>exact .sl _ _ (Nat.lt_of_lt_of_le h hm)
 | ow=>exact .ow _
 | bp=>exact .bp _ _
 | agg cs h ih=>exact .agg _ ih
 | tup cs h ih=>exact .tup _ ih
 | nili=>exact .nili
 | ifc=>exact .ifc _
omit [fA] in
theorem zpD (t:TN) (x:El t):(enc t x).all (zbm t.rank)=true:=by cases t <;> rfl
omit [fA] in
theorem zfM (t:TN) (x:El t) (j:Nat):Rk t.rank ((enc t x).getD j .undef):=by
 rw [List.getD_eq_getElem?_getD]
 by_cases hj:j<(enc t x).length
 ·rw [List.getElem?_eq_getElem hj]
  exact .of_low (List.all_eq_true.1 (zpD t x) _ (List.getElem_mem hj))
 ·rw [List.getElem?_eq_none (by omega)];exact .undef
variable {w:World} {ρ:Nat→Option RI} {bad bad':Nat→Prop} {v:Value} {d:V}
theorem VR.widen (h:VR w ρ bad v d) {m:Nat} (hd:Rk m d) (hb:∀ b,bad' b→bad b∨(fA.base≤b∧∃ t,DD w b t∧m≤t.rank)):VR w ρ bad' v d:=by
 induction h with
 | undef=>exact .undef _
 | bool=>exact .bool _
 | int k n h=>exact .int _ _ h
 | str s h=>exact .str _ h
 | nil=>exact .nil
 | slE t a cap h=>exact .slE _ _ _ h
 | slC t l b off cap u hb0 hl hc he hu hv ih=>
  cases hd with | sl _ _ hr=>
  by_cases K4:l.length=0
  ·obtain rfl:l=[]:=List.eq_nil_of_length_eq_zero K4
   exact .slE _ _ _ hc
  ·refine .slC t l b off cap u (fun h=>?_) hl hc he hu fun i hi j hj=>ih i hi j hj ((zfM t l[i] j).mono (Nat.le_of_lt hr))
   rcases hb b h with h | ⟨h1,t',h2,h3⟩
   ·exact hb0 h
   ·rcases he (by rintro rfl;simp at K4) with h4 | h4
    ·omega
    ·have:=h4.uniq h2;subst this;omega
 | ow r ri h hn hc mW=>exact .ow _ _ h hn hc mW
 | owN r ri ao h hn mW=>exact .owN _ _ _ h hn mW
 | ov=>cases hd
 | bp r off ri h mW=>exact .bp _ _ _ h mW
 | ep=>cases hd
 | fp=>cases hd
 | fn=>cases hd
 | agg cs vs hs hv ih=>cases hd with | agg _ hd=>exact .agg _ _ hs fun j hj=>ih j hj (hd _ (List.getElem_mem hj))
 | tup cs vs hs hv ih=>cases hd with | tup _ hd=>exact .tup _ _ hs fun j hj=>ih j hj (hd _ (List.getElem_mem hj))
 | nili=>exact .nili
 | ifc=>exact .ifc _ _
 | ifn=>exact .ifn
def LP (m:Nat):nD→Prop
 | .box cs=>∀ c ∈ cs,Rk m c
 | .arr t _=>t.rank≤m
theorem xC.keepR {w':World} {ρ':Nat→Option RI} {ri:RI} {c:nD} {m:Nat} (hr:xC w ρ bad ri c) (hc:LP m c)
  (hw:ri.nl=false→w'.heap[ri.b]?=w.heap[ri.b]?)
  (hv:∀ u d,Rk m d→VR w ρ bad u d→VR w' ρ' bad' u d):xC w' ρ' bad' ri c:=by
 cases c with
 | box cs=>
  refine ⟨hr.1,fun j hj=>?_⟩
  obtain ⟨h1,u,h2,h3⟩:=hr.2 j hj
  have hb:=hw hr.1
  exact ⟨by rw [← h1];simp [World.frozen?,xA,hb],u,by rw [← h2];exact LG hb,hv _ _ (hc _ (List.getElem_mem hj)) h3⟩
 | arr t l=>
  refine ⟨hr.1,?_⟩
  rcases hr.2 with h | ⟨h0,he,h1,h2,h3,h4⟩
  ·exact .inl h
  ·have hb:=hw h0
   refine .inr ⟨h0,he.same hb,h1,h2,fun j hj=>?_,fun i hi j hj=>?_⟩
   ·have:=h3 j hj
    exact ⟨by rw [← this.1];simp [World.frozen?,xA,hb],by rw [← this.2];congr 1;exact LG hb⟩
   ·obtain ⟨u,h5,h6⟩:=h4 i hi j hj
    exact ⟨u,by rw [← h5];exact LG hb,hv _ _ ((zfM t _ j).mono hc) h6⟩
omit [fA] in
theorem zsL {m:Nat} {v:V} (h:EI v=true):Rk m v:=by
 cases v <;> simp [EI] at h
 ·exact .bool _
 ·exact .int _ _
 ·exact .str _
omit [fA] in
theorem wS (ow:List Nat) (base:Nat):∀ (vs:List V) (p m m':Nat),aD ow p vs=some m→m≤m'→
  (∀ v ∈ JA ow base p vs,Rk m' v)∧∀ q t l,UA ow base (fun _=>none) p vs q=some ⟨.arr t l, .own⟩→t.rank≤m'
 | [],p,m,m',h,hm=>⟨fun v hv=>by simp [JA] at hv,fun q t l hq=>by simp [UA] at hq⟩
 | v :: vs,p,m,m',h,hm=>by
  cases v
  case sl t l=>
   simp only [aD] at h
   split at h
   case h_2=>cases h
   rename_i m1 h1
   cases h
   have hm1:m1≤m':=Nat.le_trans (Nat.le_max_right _ _) hm
   have P7:=Nat.le_trans (Nat.le_max_left _ _) hm
   obtain ⟨i1,i2⟩:=wS ow base vs (p+1) m1 m' h1 hm1
   cases ho:ow.any (Nat.beq p)
   ·simp only [ho,cond_false] at P7
    simp only [JA,UA,ho,cond_false]
    refine ⟨fun v hv=>?_,i2⟩
    rcases List.mem_cons.1 hv with rfl | hv
    ·exact .sl _ _ (by omega)
    ·exact i1 v hv
   ·simp only [ho,cond_true] at P7
    simp only [JA,UA,ho,cond_true]
    refine ⟨fun v hv=>?_,fun q t' l' hq=>?_⟩
    ·rcases List.mem_cons.1 hv with rfl | hv
     ·exact .ow _
     ·exact i1 v hv
    ·by_cases t5:q=base+p
     ·subst t5;rw [IA] at hq;cases hq;exact P7
     ·rw [vA _ _ _ _ t5] at hq;exact i2 q t' l' hq
  case nil=>
   simp only [aD] at h
   obtain ⟨i1,i2⟩:=wS ow base vs (p+1) m m' h hm
   simp only [JA,UA]
   refine ⟨fun v hv=>?_,i2⟩
   rcases List.mem_cons.1 hv with rfl | hv
   ·exact .nil
   ·exact i1 v hv
  all_goals
   simp only [aD] at h
   first
   | (simp only [EI,cond_false] at h;cases h;done)
   | (simp only [EI,cond_true] at h
      obtain ⟨i1,i2⟩:=wS ow base vs (p+1) m m' h hm
      simp only [JA,UA]
      refine ⟨fun v hv=>?_,i2⟩
      rcases List.mem_cons.1 hv with rfl | hv
      ·exact zsL rfl
      ·exact i1 v hv)
omit [fA] in
theorem zfR {m:Nat}:∀ (sh:List (Bool × Nat)) (vs:List V),(∀ v ∈ vs,Rk m v)→∀ v ∈ ZC sh vs,Rk m v
 | [],vs,h,v,hv=>by simp [ZC] at hv
 | (ag,n) :: sh,vs,h,v,hv=>by
  simp only [ZC] at hv
  rcases List.mem_cons.1 hv with rfl | hv
  ·cases ag
   ·cases vs with
    | nil=>exact .undef
    | cons x vs=>exact h x (by simp)
   ·exact .agg _ fun c hc=>h c (List.mem_of_mem_take hc)
  ·exact zfR sh (vs.drop n) (fun v hv=>h v (List.mem_of_mem_drop hv)) v hv
omit [fA] in
theorem zsD {m:Nat} (sh:List (Bool × Nat)) (vs:List V) (h:∀ v ∈ vs,Rk m v):Rk m (RF sh vs):=by
 have:=zfR sh vs h
 unfold RF
 split
 ·rename_i v hv;exact this v (by rw [hv];simp)
 ·exact .tup _ this
omit [fA] in
theorem vS {m:Nat}:∀ (ks:List ZA) (as:List V) (bs:List Nat) (vs:List V) (r:Nat) (row:nA),(∀ v ∈ vs,Rk m v)→uB ks as bs vs (fun _=>none) r=some row→LP m row.c
 | [],as,bs,vs,r,row,hv,h=>by cases as <;> simp [uB] at h
 | .plain :: ks,[],bs,vs,r,row,hv,h=>by simp [uB] at h
 | .plain :: ks,a :: as,bs,vs,r,row,hv,h=>by simp only [uB] at h;exact vS ks as bs vs r row hv h
 | .mv ow :: ks,[],bs,vs,r,row,hv,h=>by simp [uB] at h
 | .mv ow :: ks,a :: as,bs,vs,r,row,hv,h=>by simp only [uB] at h;exact vS ks as bs vs r row hv h
 | .ptr ow :: ks,[],bs,vs,r,row,hv,h=>by simp [uB] at h
 | .ptr ow :: ks,a :: as,[],vs,r,row,hv,h=>by cases a <;> simp [uB] at h
 | .ptr ow :: ks,a :: as,b :: bs,vs,r,row,hv,h=>by
  cases a <;> try (simp [uB] at h;done)
  simp only [uB] at h
  by_cases hr:r=b
  ·subst hr;rw [IA] at h;cases h
   exact fun c hc=>hv c (List.mem_of_mem_take hc)
  ·rw [vA _ _ _ _ hr] at h;exact vS ks as bs _ r row (fun v D5=>hv v (List.mem_of_mem_drop D5)) h
omit [fA] in
theorem zpT {ci:NB} {as:List V} {bs:List Nat} {base:Nat} {rs:List V} {m:Nat} (hm:aD ci.own 0 rs=some m) (hp:ci.pb=false):
  (∀ r row,EC ci as bs base rs r=some row→LP m row.c)∧Rk m (pG ci base rs):=by
 obtain ⟨h1,h2⟩:=wS ci.own base rs 0 m m hm (Nat.le_refl _)
 refine ⟨fun r row h=>?_,?_⟩
 ·unfold EC jD at h
  rw [hp,cond_false,BI] at h
  split at h
  ·rename_i x hx
   cases h
   exact vS _ _ _ _ _ _ (fun v hv=>h1 v (List.mem_of_mem_drop hv)) hx
  ·obtain ⟨t,l,h0,_,_⟩:=UC _ _ _ _ _ _ h
   subst h0
   exact h2 r t l h
 ·unfold pG
  rw [hp,cond_false]
  exact zsD _ _ h1
end Go.D
namespace Go.D
variable [fA]
structure RD (C:Cx):Prop where
 ok:∀ k ci,C.Φ k=some ci→eA C.P (k % 1048576) ci C.g
section
variable {C:Cx} {w0:World} {outer own:Nat→Prop} {ρ:Nat→Option RI} {st st':St} {a:Act} {w:World} {h:Nat→Option nA}
theorem RA.grow (hr:RA C w0 outer own ρ st a w) {w1:World} (hx:Wx w w1) (ho:∀ b,b<w.heap.size→w1.heap[b]?=w.heap[b]?):RA C w0 outer own ρ st a w1:=by
 have hv:∀ u d,VR w ρ (mA outer ρ st.h) u d→VR w1 ρ (mA outer ρ st.h) u d:=fun u d hu=>hu.mono (fun _ _ h=>h) (fun b _ hb=>ho b hb) fun b hb=> .inl hb
 refine ⟨⟨hr.heap.wx.trans hx,fun b hb hn=>(ho b (Nat.lt_of_lt_of_le hb hr.heap.wx.size)).trans (hr.heap.old b hb hn),hr.heap.outLt,fun r row h=>?_,hr.heap.inj⟩,fun i=>hv _ _ (hr.slots i),hr.size,hr.defers,hr.glob⟩
 obtain ⟨ri,h1,h2,h3⟩:=hr.heap.rows r row h
 exact ⟨ri,h1,h2.keep (fun hn=>ho _ (h3 hn).2) hv,fun hn=>⟨(h3 hn).1,Nat.lt_of_lt_of_le (h3 hn).2 hx.size⟩⟩
inductive Sc:V→Prop where
 | undef:Sc .undef
 | bool (b:Bool):Sc (.bool b)
 | int (k:IntKind) (n:Int):Sc (.int k n)
 | str (s:List UInt8):Sc (.str s)
 | nil:Sc .nil
 | ow (r:Nat):Sc (.ow r)
 | agg (cs:List V) (h:∀ c ∈ cs,Sc c):Sc (.agg cs)
 | tup (cs:List V) (h:∀ c ∈ cs,Sc c):Sc (.tup cs)
theorem VR.sc {ρ':Nat→Option RI} {bad bad':Nat→Prop} {w':World} {v:Value} {d:V} (h:VR w ρ bad v d) (hs:Sc d) (hρ:∀ r ri,ρ r=some ri→ρ' r=some ri):VR w' ρ' bad' v d:=by
 induction h with
 | undef=>exact .undef _
 | bool=>exact .bool _
 | int k n h=>exact .int _ _ h
 | str s h=>exact .str _ h
 | nil=>exact .nil
 | ow r ri h h1 h2 h3=>exact .ow _ _ (hρ _ _ h) h1 h2 h3
 | owN r ri ao h h1 h2=>exact .owN _ _ _ (hρ _ _ h) h1 h2
 | agg cs vs eW hv ih=>
  cases hs with
  | agg _ hs=>exact .agg _ _ eW fun j hj=>ih j hj (hs _ (List.getElem_mem hj))
 | tup cs vs eW hv ih=>
  cases hs with
  | tup _ hs=>exact .tup _ _ eW fun j hj=>ih j hj (hs _ (List.getElem_mem hj))
 | _=>cases hs
omit [fA] in
theorem AS {v:V} (h:EI v=true):Sc v:=by
 cases v <;> simp [EI] at h
 ·exact .bool _
 ·exact .int _ _
 ·exact .str _
omit [fA] in
theorem zsJ {t:TN} (h:t.flat=true) (x:El t) (j:Nat):Sc ((enc t x).getD j .undef):=by
 have hall:∀ c ∈ enc t x,Sc c:=by
  cases t <;> simp [TN.flat] at h <;> intro c hc <;> simp [enc] at hc <;> (try subst hc) <;> (try exact AS rfl) <;> (repeat' (rcases hc with rfl | hc)) <;> (try subst hc) <;> first | exact AS rfl | skip
  all_goals (simp [QQ,RQ,TQ,SQ] at hc;repeat' (rcases hc with rfl | hc)) <;> (try subst hc) <;> exact AS rfl
 rw [List.getD_eq_getElem?_getD]
 by_cases hj:j<(enc t x).length
 ·rw [List.getElem?_eq_getElem hj];exact hall _ (List.getElem_mem hj)
 ·rw [List.getElem?_eq_none (by omega)];exact .undef
omit [fA] in
theorem zf1:∀ (sh:List (Bool × Nat)) (vs:List V),(∀ v ∈ vs,Sc v)→∀ v ∈ ZC sh vs,Sc v
 | [],vs,h,v,hv=>by simp [ZC] at hv
 | (ag,n) :: sh,vs,h,v,hv=>by
  simp only [ZC] at hv
  rcases List.mem_cons.1 hv with rfl | hv
  ·cases ag
   ·cases vs with
    | nil=>exact .undef
    | cons x vs=>exact h x (by simp)
   ·exact .agg _ fun c hc=>h c (List.mem_of_mem_take hc)
  ·exact zf1 sh (vs.drop n) (fun v hv=>h v (List.mem_of_mem_drop hv)) v hv
omit [fA] in
theorem zsK (sh:List (Bool × Nat)) (vs:List V) (h:∀ v ∈ vs,Sc v):Sc (RF sh vs):=by
 have:=zf1 sh vs h
 unfold RF
 split
 ·rename_i v hv;exact this v (by rw [hv];simp)
 ·exact .tup _ this
omit [fA] in
theorem zbI (ow:List Nat) (base:Nat):∀ (vs:List V) (p:Nat),gO ow p vs=true→(∀ v ∈ JA ow base p vs,Sc v)∧∀ q t l,UA ow base (fun _=>none) p vs q=some ⟨.arr t l, .own⟩→t.flat=true
 | [],p,h=>⟨fun v hv=>by simp [JA] at hv,fun q t l hq=>by simp [UA] at hq⟩
 | v :: vs,p,h=>by
  cases v <;> simp only [gO,Bool.and_eq_true] at h
  case sl t l=>
   obtain ⟨⟨h1,h2⟩,h3⟩:=h
   obtain ⟨i1,i2⟩:=zbI ow base vs (p+1) h3
   simp only [JA,UA,h1,cond_true]
   refine ⟨fun v hv=>?_,fun q t' l' hq=>?_⟩
   ·rcases List.mem_cons.1 hv with rfl | hv
    ·exact .ow _
    ·exact i1 v hv
   ·by_cases t5:q=base+p
    ·subst t5;rw [IA] at hq;cases hq;exact h2
    ·rw [vA _ _ _ _ t5] at hq;exact i2 q t' l' hq
  all_goals
   obtain ⟨h1,h3⟩:=h
   obtain ⟨i1,i2⟩:=zbI ow base vs (p+1) h3
   simp only [JA,UA]
   refine ⟨fun v hv=>?_,i2⟩
   rcases List.mem_cons.1 hv with rfl | hv
   ·exact AS h1
   ·exact i1 v hv
omit [fA] in
theorem zfL:∀ (ks:List ZA) (as:List V) (bs:List Nat) (vs:List V) (h:Nat→Option nA),ks.all ZA.isPlain=true→uB ks as bs vs h=h
 | [],as,bs,vs,h,hp=>by cases as <;> rfl
 | .plain :: ks,[],bs,vs,h,hp=>rfl
 | .plain :: ks,a :: as,bs,vs,h,hp=>by
  simp only [List.all_cons,Bool.and_eq_true] at hp
  show uB ks as bs vs h=h
  exact zfL ks as bs vs h hp.2
 | .ptr _ :: ks,as,bs,vs,h,hp=>by simp [ZA.isPlain] at hp
 | .mv _ :: ks,as,bs,vs,h,hp=>by simp [ZA.isPlain] at hp
omit [fA] in
theorem zex:∀ (ks:List ZA) (k:Nat) (as:List V),ks.all ZA.isPlain=true→yA ks k as=fun _=>none
 | [],k,as,h=>by cases as <;> rfl
 | .plain :: ks,k,[],h=>rfl
 | .plain :: ks,k,a :: as,h=>by
  simp only [List.all_cons,Bool.and_eq_true] at h
  show yA ks (k+1) as=_
  exact zex ks (k+1) as h.2
 | .ptr _ :: ks,k,as,h=>by simp [ZA.isPlain] at h
 | .mv _ :: ks,k,as,h=>by simp [ZA.isPlain] at h
omit [fA] in
theorem zeW (h:Nat→Option nA):xD (pJ h) h:=fun r row' hr=>by
 unfold pJ at hr
 split at hr
 ·rename_i c h1;cases hr;exact ⟨_,h1,rfl,fun _=>rfl⟩
 ·exact ⟨row',hr,rfl,id⟩
omit [fA] in
theorem zqa (h:Nat→Option nA):xD h (pJ h):=fun r row hr=>by
 unfold pJ
 obtain ⟨c,m⟩:=row
 cases m
 ·exact ⟨_,by rw [hr],rfl,fun _=>rfl⟩
 ·exact ⟨_,by rw [hr],rfl,fun h=>h⟩
 ·exact ⟨⟨c, .own⟩,by rw [hr],rfl,fun _=>rfl⟩
theorem RA.less (hr:RA C w0 outer own ρ st a w) {h':Nat→Option nA} (hl:xD h' st.h):RA C w0 outer own ρ { st with h:=h' } a w:=
 ⟨(hr.heap.less hl).1,fun i=>(hr.heap.less hl).2 _ _ (hr.slots i),hr.size,hr.defers,hr.glob⟩
variable {o:Oper} {i:Nat} (hr:RA C w0 outer own ρ st a w)
include hr
theorem zfD (HY:∃ N,∀ r,N≤r→ρ r=none) (dX:∀ q,q<128→ρ (i+q)=none) (f:Nat) (args:Array Value) (as:List V) (eW:args.size=as.length)
  (LW:∀ j (hj:j<as.length),VR w ρ (mA outer ρ st.h) (args.getD j undef) as[j]) (jW:(execOp a.eval o).run C.P w=(callFunc f args).run C.P w)
  {ci:NB} (hci:eA C.P f ci C.g) {as':List V} {h':Nat→Option nA} {bs:List Nat} (v1:GB ci.ks as st.h=some (as',h',bs)) {x:ci.A} (G0:ci.dA as'=some x) {r:ci.R} (hF:ci.F x=some r)
  (AW:(ci.eR r).length≤128) (hk:MA C o.dst { st with h:=QE ci as' bs i (ci.eR r) (rH ci (ci.eR r) st.h h') } (pG ci i (ci.eR r)) some=some st'):
  OB C.P o a w (KB C w0 outer own i ρ st'):=by
 obtain ⟨N,hN⟩:=HY
 -- the arguments
 have hhN:∀ q,N≤q→st.h q=none:=fun q hq=>by
  cases hg:st.h q with
  | none=>rfl
  | some row=>obtain ⟨ri,h3,_⟩:=hr.heap.rows _ _ hg;rw [hN q hq] at h3;cases h3
 obtain ⟨ρ',g',c1,c2,c3,c4,c5,c6,c7,c8,c9,c10,c11⟩:=WU N ci.ks as st.h h' as' bs 0 ρ st.h (fun j=>args.getD j undef) v1 hr.heap LW (fun _ _ h=>h) (fun r hr=>hN r (by omega)) hhN
 have kW:=wP _ _ _ _ v1
 simp only at kW
 let φ:Nat→Nat:=fun q=>(fB ci.ks 0 bs q).getD (N+q)
 let E:=yA ci.ks 0 as'
 let ρc:Nat→Option RI:=fun q=>if (E q).isSome=true then ρ' (φ q) else none
 let ownc:Nat→Prop:=fun b=>∃ q row ri,E q=some row∧ρc q=some ri∧ri.nl=false∧ri.b=b
 let outc:Nat→Prop:=mA outer ρ' h'
 have hbN:∀ b ∈ bs,b<N:=fun b hb=>by
  rcases Nat.lt_or_ge b N with h3 | h3
  ·exact h3
  ·exact absurd (hhN b h3) (c8 b hb).2
 have hφbox:∀ q b,fB ci.ks 0 bs q=some b→φ q=b:=fun q b h=>by simp [φ,h]
 have hφarr:∀ q,q % 128≠127→φ q=N+q:=fun q hq=>by
  have:fB ci.ks 0 bs q=none:=by
   cases hb:fB ci.ks 0 bs q with
   | none=>rfl
   | some b=>exact absurd (AD _ _ _ _ _ hb).2.1 hq
  simp [φ,this]
 -- the rows of the entry
 have hE:∀ q row,E q=some row→∃ row' ri,g' (φ q)=some row'∧row'.m= .own∧h' (φ q)=none∧ρc q=some ri∧ρ' (φ q)=some ri:=fun q row hq=>by
  obtain ⟨h1,h2,h3⟩:=c7.row hq
  have RV:(E q).isSome=true:=by show (yA ci.ks 0 as' q).isSome=true;have h0:yA ci.ks 0 as' q=some row:=hq;rw [h0];rfl
  rcases h3 with ⟨b,ow,k',cs,ri,e1,e2,e3,e4,e5,e6,e7,e8⟩ | ⟨t,l,e1,e2,e3⟩
  ·refine ⟨_,ri,by rw [hφbox q b e1];exact e6,rfl,by rw [hφbox q b e1];exact (c8 b (AD _ _ _ _ _ e1).2.2).1,?_,by rw [hφbox q b e1];exact e7⟩
   simp only [ρc,RV,if_true,hφbox q b e1,e7]
  ·obtain ⟨ri,f1,_⟩:=c1.rows _ _ e2
   subst e1
   refine ⟨_,ri,by rw [hφarr q e3];exact e2,rfl,by rw [hφarr q e3];exact c3 _ (hhN _ (by omega)),?_,by rw [hφarr q e3];exact f1⟩
   simp only [ρc,RV,if_true,hφarr q e3,f1]
 have L6:∀ b,ownc b→∃ q row ri,g' q=some row∧row.m= .own∧h' q=none∧ρ' q=some ri∧ri.nl=false∧ri.b=b:=by
  rintro b ⟨q,row,ri,h1,h2,h3,h4⟩
  obtain ⟨row',ri',f1,f2,f3,f4,f5⟩:=hE q row h1
  rw [h2] at f4;cases f4
  exact ⟨_,row',ri,f1,f2,f3,f5,h3,h4⟩
 have cW:∀ q row,h' q=some row→∃ ri,ρ' q=some ri∧(ri.nl=false→¬ ownc ri.b∧ri.b<w.heap.size∧(¬ outer ri.b∧(row.m.isRo=false→w0.heap.size≤ri.b∨own ri.b))):=fun q row hq=>by
  obtain ⟨ri,f1,_,f2⟩:=c1.rows q row (c2 q row hq)
  refine ⟨ri,f1,fun hn=>⟨fun ho=>?_,(f2 hn).2,(f2 hn).1⟩⟩
  obtain ⟨q',row',ri',e1,e2,e3,e4,e5,e6⟩:=L6 _ ho
  have:=c1.inj q q' row row' ri ri' (c2 q row hq) e1 f1 e4 hn e5 e6.symm
  subst this;rw [hq] at e3;cases e3
 have vY:∀ b,ownc b→b<w.heap.size∧(w0.heap.size≤b∨own b):=fun b hb=>by
  obtain ⟨q',row',ri',e1,e2,e3,e4,e5,e6⟩:=L6 _ hb
  obtain ⟨ri2,f1,_,f2⟩:=c1.rows q' row' e1
  rw [e4] at f1;cases f1
  rw [← e6];exact ⟨(f2 e5).2,(f2 e5).1.2 (by rw [e2];rfl)⟩
 have VX:∀ b,outc b→b<w.heap.size∧¬ ownc b:=by
  rintro b (hb | ⟨q,row,ri,f1,f2,f3,f4,f5⟩)
  ·obtain ⟨g1,g2⟩:=c1.outLt b hb
   refine ⟨Nat.lt_of_lt_of_le g1 c1.wx.size,fun ho=>?_⟩
   rcases (vY b ho).2 with h3 | h3
   ·omega
   ·exact g2 h3
  ·obtain ⟨ri',k1,k2⟩:=cW q row f1
   rw [f3] at k1;cases k1
   rw [← f5];exact ⟨(k2 f4).2.1,(k2 f4).1⟩
 have O1:∀ b,mA outc ρc E b→mA outer ρ' g' b:=by
  rintro b (hb | ⟨q,row,ri,f1,f2,f3,f4,f5⟩)
  ·exact hb.mono fun q row h1 h2=>⟨row,c2 q row h1,h2⟩
  ·obtain ⟨row',ri',k1,k2,k3,k4,k5⟩:=hE q row f1
   rw [f3] at k4;cases k4
   exact .inr ⟨_,row',ri,k1,by rw [k2];rfl,k5,f4,f5⟩
 have hρcbox:∀ q b,fB ci.ks 0 bs q=some b→q<128 *ci.ks.length→ρc q=ρ' b:=fun q b h _=>by
  obtain ⟨row,h0⟩:=c7.found h
  have RV:(E q).isSome=true:=by show (yA ci.ks 0 as' q).isSome=true;rw [h0];rfl
  simp only [ρc,RV,if_true,hφbox q b h]
 have P1:∀ q b,fB ci.ks 0 bs q=some b→q<128 *ci.ks.length:=fun q b h=>by have:=SP _ _ _ _ _ h;omega
 have v6:aB w outc ownc ρc E w:=by
  refine c1.sub φ (Wx.refl _) (fun _ _ _=>rfl) VX (fun q row hq=>?_) (fun q q' row row' h1 h2 h3=>?_)
  ·obtain ⟨h1,h2,h3⟩:=c7.row hq
   obtain ⟨row',ri,f1,f2,f3,f4,f5⟩:=hE q row hq
   refine ⟨row',ri,f1,f4,f5,?_,fun hn=>⟨fun ho=>(VX _ ho).2 ⟨q,row,ri,hq,f4,hn,rfl⟩,fun _=> .inr ⟨q,row,ri,hq,f4,hn,rfl⟩⟩⟩
   obtain ⟨ri2,k1,k2,_⟩:=c1.rows _ _ f1
   rw [f5] at k1;cases k1
   rcases h3 with ⟨b,ow,k',cs,ri',e1,e2,e3,e4,e5,e6,e7,e8,e9,e10,e11,e12⟩ | ⟨t,l,e1,e2,e3⟩
   ·rw [hφbox q b e1,e6] at f1;cases f1
    subst e5
    refine ⟨k2.1,fun j hj=>?_⟩
    rw [ND] at hj
    obtain ⟨g1,x,g2,g3⟩:=k2.2 j (by rw [ND];exact hj)
    refine ⟨g1,x,g2,?_⟩
    have:=AP (w:=w) (ρ:=ρ') (ρ2:=ρc) (bad:=mA outer ρ' g') (bad2:=mA outc ρc E) ow (N+128 *k') (128 *k') cs 0 (fun j=>(w.cell? (xA ri.b j)).getD undef) (fun q' _ h4 h5 h6=>by
      obtain ⟨t,l,h6⟩:=h6
      have h0:=e12 q' t l (by simpa using h6) h5
      have RV:(E (128 *k'+q')).isSome=true:=by show (yA ci.ks 0 as' (128 *k'+q')).isSome=true;rw [h0];rfl
      simp only [ρc,RV,if_true]
      rw [hφarr _ (by omega)];congr 1;omega) e10 O1 (fun j hj=>by
      obtain ⟨_,x,g2,g3⟩:=k2.2 j hj
      rw [g2];exact g3) j (by rw [ND];exact hj)
    rw [g2] at this;exact this
   ·subst e1
    rw [hφarr q e3,e2] at f1;cases f1
    exact yS k2 O1 ρc
  ·obtain ⟨_,_,h4⟩:=c7.row h1
   obtain ⟨_,_,h5⟩:=c7.row h2
   rcases h4 with ⟨b,_,_,_,_,e1,_⟩ | ⟨_,_,_,_,e3⟩ <;> rcases h5 with ⟨b',_,_,_,_,e1',_⟩ | ⟨_,_,_,_,e3'⟩
   ·rw [hφbox q b e1,hφbox q' b' e1'] at h3
    subst h3;exact SM _ _ _ _ _ _ c9 e1 e1'
   ·rw [hφbox q b e1,hφarr q' e3'] at h3
    have:=hbN b (AD _ _ _ _ _ e1).2.2;omega
   ·rw [hφbox q' b' e1',hφarr q e3] at h3
    have:=hbN b' (AD _ _ _ _ _ e1').2.2;omega
   ·rw [hφarr q e3,hφarr q' e3'] at h3;omega
 obtain ⟨Q4,hv2⟩:=c7.vals O1 (fun q b h=>hρcbox q b h (P1 q b h)) fun q row h h3=>by
  have RV:(E q).isSome=true:=by show (yA ci.ks 0 as' q).isSome=true;rw [h];rfl
  simp only [ρc,RV,if_true,hφarr q h3]
 have WY:∀ q,ρ q≠none→Out i 128 q:=fun q hq h3=>hq (by
  have:=dX (q - i) (by omega)
  rwa [show i+(q - i)=q by omega] at this)
 have hsthρ:∀ q row,st.h q=some row→ρ q≠none:=fun q row hq=>by
  obtain ⟨ri,h3,_⟩:=hr.heap.rows _ _ hq;rw [h3];simp
 have hbsρ:∀ b ∈ bs,ρ b≠none:=fun b hb=>by
  cases hq:st.h b with
  | none=>exact absurd hq (c8 b hb).2
  | some row=>exact hsthρ b row hq
 have G:=hci w args as' outc ownc ρc x r i bs (by rw [eW,c10]) Q4 v6 hv2 (fun q hq=>by simp only [ρc];rw [if_neg];show ¬ (yA ci.ks 0 as' q).isSome=true;rw [hq];simp) c9 (fun b hb=>WY b (hbsρ b hb)) G0 hF AW
  ⟨C.g.stay w0 w (fun c hc=>hr.heap.old c (Nat.lt_of_lt_of_le hc (C.g.lt _ hr.glob.p)) (hr.glob.own c hc)) hr.glob.p,fun c hc ho=>by
   have:=Nat.lt_of_lt_of_le hc (C.g.lt _ hr.glob.p)
   rcases (vY c ho).2 with h | h
   ·omega
   ·exact hr.glob.own c hc h,Nat.le_trans hr.glob.base hr.heap.wx.size,fun c hc ho=>by
   have:=Nat.lt_of_lt_of_le hc hr.glob.base
   rcases (vY c ho).2 with h | h
   ·omega
   ·exact hr.glob.low c hc h⟩
 -- a call that leaves all as it is
 cases K0:AI ci (ci.eR r)
 case true=>
  simp only [rH,K0,cond_true] at hk
  simp only [AI,Bool.and_eq_true,Bool.not_eq_true'] at K0
  obtain ⟨⟨s5,RZ⟩,hsc⟩:=K0
  have hE0:E=fun _=>none:=zex _ _ _ RZ
  have ZX:∀ b,¬ ownc b:=by
   rintro b ⟨q,row,ri,h1,_⟩
   rw [hE0] at h1;cases h1
  obtain ⟨s1,s2⟩:=zbI ci.own i (ci.eR r) 0 hsc
  have WX:Sc (pG ci i (ci.eR r)):=by
   unfold pG
   rw [s5,cond_false]
   exact zsK _ _ s1
  have hXt:EC ci as' bs i (ci.eR r)=UA ci.own i (fun _=>none) 0 (ci.eR r):=by
   unfold EC jD
   rw [s5,cond_false,zfL _ _ _ _ _ RZ]
  have fin0:∀ v w1,(∃ ρx,aB w outc ownc ρx (EC ci as' bs i (ci.eR r)) w1∧
    VR w1 ρx (mA outc ρx (EC ci as' bs i (ci.eR r))) v (pG ci i (ci.eR r))∧
    (∀ q b,fB ci.ks 0 bs q=some b→ρx b=ρc q)∧(∀ r,ρx r≠none→(i≤r∧r<i+128)∨r ∈ bs))→KB C w0 outer own i ρ st' (a.put o.dst v) w1:=by
   rintro v w1 ⟨ρx,hX,hV,_,O5⟩
   have hg:=hr.grow hX.wx fun b hb=>hX.old b hb (ZX b)
   have Q7:∀ q,QE ci as' bs i (ci.eR r) st.h q=match EC ci as' bs i (ci.eR r) q with | some x=>some x | none=>st.h q:=fun q=>by
    rw [oJ]
    all_goals (cases EC ci as' bs i (ci.eR r) q <;> rfl)
   generalize hXe:EC ci as' bs i (ci.eR r)=X at hX hV Q7 hXt
   generalize QE ci as' bs i (ci.eR r) st.h=NX at hk Q7
   let ρn:Nat→Option RI:=fun q=>if i≤q∧q<i+128 then ρx q else ρ q
   have WY:∀ q,ρ q≠none→¬ (i≤q∧q<i+128):=fun q hq h3=>hq (by
    have:=dX (q - i) (by omega)
    rwa [show i+(q - i)=q by omega] at this)
   have hXin:∀ q row,X q=some row→i≤q∧q<i+128:=fun q row hq=>by
    rw [hXt] at hq
    obtain ⟨_,_,_,e1,e2⟩:=UC _ _ _ _ _ _ hq
    omega
   have hρo:∀ q ri,ρ q=some ri→ρn q=some ri:=fun q ri hq=>by
    simp only [ρn,WY q (by rw [hq];simp),if_false];exact hq
   have hρX:∀ q row ri,X q=some row→ρx q=some ri→ρn q=some ri:=fun q row ri hq h3=>by
    simp only [ρn,hXin q row hq,and_self,if_true];exact h3
   have jX:∀ q row,X q=some row→∃ ri t l,row=⟨.arr t l, .own⟩∧t.flat=true∧ρx q=some ri∧xC w1 ρx (mA outc ρx X) ri (.arr t l)∧(ri.nl=false→w.heap.size≤ri.b∧ri.b<w1.heap.size):=fun q row hq=>by
    obtain ⟨ri,k1,k2,k3⟩:=hX.rows q row hq
    have MY:=hq
    rw [hXt] at MY
    obtain ⟨t,l,e0,_,_⟩:=UC _ _ _ _ _ _ MY
    subst e0
    refine ⟨ri,t,l,rfl,s2 q t l MY,k1,k2,fun hn=>⟨?_,(k3 hn).2⟩⟩
    rcases (k3 hn).1.2 rfl with h | h
    ·exact h
    ·exact absurd h (ZX _)
   have MW:∀ q row,NX q=some row→X q=some row∨(X q=none∧st.h q=some row):=fun q row hq=>by
    rw [Q7] at hq
    cases hx:X q with
    | some y=>rw [hx] at hq;exact .inl hq
    | none=>rw [hx] at hq;exact .inr ⟨rfl,hq⟩
   have B5:∀ q row ri,st.h q=some row→ρ q=some ri→ri.nl=false→ri.b<w.heap.size:=fun q row ri hq h3 hn=>by
    obtain ⟨ri',k1,_,k3⟩:=hr.heap.rows q row hq
    rw [h3] at k1;cases k1;exact (k3 hn).2
   have hstρ:∀ q row,st.h q=some row→∃ ri,ρ q=some ri:=fun q row hq=>by
    obtain ⟨ri,k1,_⟩:=hr.heap.rows q row hq;exact ⟨ri,k1⟩
   have fY:∀ b,mA outer ρn NX b→mA outer ρ st.h b∨w.heap.size≤b:=by
    rintro b (hb | ⟨q,row,ri,f1,f2,f3,f4,f5⟩)
    ·exact .inl (.inl hb)
    ·rcases MW q row f1 with h3 | ⟨_,h3⟩
     ·obtain ⟨ri',t,l,_,_,k1,_,k2⟩:=jX q row h3
      rw [hρX q row ri' h3 k1] at f3;cases f3
      exact .inr (by rw [← f5];exact (k2 f4).1)
     ·obtain ⟨ri',k1⟩:=hstρ q row h3
      rw [hρo q ri' k1] at f3;cases f3
      exact .inl (.inr ⟨q,row,_,h3,f2,k1,f4,f5⟩)
   have keepAll:∀ u d,VR w ρ (mA outer ρ st.h) u d→VR w1 ρn (mA outer ρn NX) u d:=fun u d hu=>
    hu.mono hρo (fun b _ RV=>hX.old b RV (ZX b)) fY
   have F3:aB w0 outer own ρn NX w1:=by
    refine ⟨hg.heap.wx,hg.heap.old,hg.heap.outLt,fun q row hq=>?_,fun q q' row row' qi qi' h1 h2 h3 h4 h5 h6 h7=>?_⟩
    ·rcases MW q row hq with h3 | ⟨_,h3⟩
     ·obtain ⟨ri,t,l,rfl,ht,k1,k2,k3⟩:=jX q row h3
      refine ⟨ri,hρX q _ ri h3 k1,⟨k2.1,?_⟩,fun hn=>⟨⟨fun ho=>?_,fun _=> .inl (Nat.le_trans hr.heap.wx.size (k3 hn).1)⟩,(k3 hn).2⟩⟩
      ·rcases k2.2 with h4 | ⟨e1,ee,e2,e3,e4,e5⟩
       ·exact .inl h4
       ·refine .inr ⟨e1,ee,e2,e3,e4,fun a ha j hj=>?_⟩
        obtain ⟨u,f1,f2⟩:=e5 a ha j hj
        exact ⟨u,f1,f2.noRef (fun S=>CI S t _ j) ρn |>.sc (zsJ ht _ j) fun _ _ h=>h⟩
      ·have:=(hr.heap.outLt _ ho).1
       have:=hr.heap.wx.size
       have:=(k3 hn).1
       omega
     ·obtain ⟨ri,k1,k2,k3⟩:=hr.heap.rows q row h3
      exact ⟨ri,hρo q ri k1,k2.keep (fun hn=>hX.old _ (k3 hn).2 (ZX _)) keepAll,fun hn=>⟨(k3 hn).1,Nat.lt_of_lt_of_le (k3 hn).2 hX.wx.size⟩⟩
    ·rcases MW q row h1 with k1 | ⟨_,k1⟩ <;> rcases MW q' row' h2 with k2 | ⟨_,k2⟩
     ·obtain ⟨r1,_,_,_,_,e1,_⟩:=jX q row k1
      obtain ⟨r2,_,_,_,_,e2,_⟩:=jX q' row' k2
      rw [hρX q row r1 k1 e1] at h3;cases h3;rw [hρX q' row' r2 k2 e2] at h4;cases h4
      exact hX.inj q q' row row' _ _ k1 k2 e1 e2 h5 h6 h7
     ·obtain ⟨r1,_,_,_,_,e1,_,e2⟩:=jX q row k1
      obtain ⟨r2,e3⟩:=hstρ q' row' k2
      rw [hρX q row r1 k1 e1] at h3;cases h3;rw [hρo q' r2 e3] at h4;cases h4
      have h8:=(e2 h5).1
      have h9:=B5 q' row' _ k2 e3 h6
      omega
     ·obtain ⟨r1,_,_,_,_,e1,_,e2⟩:=jX q' row' k2
      obtain ⟨r2,e3⟩:=hstρ q row k1
      rw [hρX q' row' r1 k2 e1] at h4;cases h4;rw [hρo q r2 e3] at h3;cases h3
      have h8:=(e2 h6).1
      have h9:=B5 q row _ k1 e3 h5
      omega
     ·obtain ⟨r1,e1⟩:=hstρ q row k1
      obtain ⟨r2,e2⟩:=hstρ q' row' k2
      rw [hρo q r1 e1] at h3;cases h3;rw [hρo q' r2 e2] at h4;cases h4
      exact hr.heap.inj q q' row row' _ _ k1 k2 e1 e2 h5 h6 h7
   have MV:RA C w0 outer own ρn { st with h:=NX } a w1:=hr.turn F3 keepAll
   refine ⟨ρn,(MV.put (hV.sc WX fun q ri hq=>?_) hk).1,fun q hq=>?_,hρo⟩
   ·have:i≤q∧q<i+128:=by
     rcases O5 q (by rw [hq];simp) with h | h
     ·exact h
     ·exact absurd h (by
       have:bs=[]:=by
        cases bs with
        | nil=>rfl
        | cons b bs'=>
         obtain ⟨q',MY⟩:=c7.surj b (by simp)
         obtain ⟨row,LV⟩:=c7.found MY
         have:yA ci.ks 0 as'=fun _=>none:=hE0
         rw [this] at LV;cases LV
       rw [this];simp)
    simp only [ρn,this,and_self,if_true];exact hq
   ·simp only [ρn,hq,if_false]
  intro next Q hn
  unfold Oper.wp
  rw [jW]
  rcases G with ⟨G1,G2⟩ | ⟨v,w1,G1,G2⟩
  ·rw [G1,Oper.upon_enter]
   refine Calls.mono' G2 ?_
   rintro e w1 ⟨v,rfl,h3⟩
   exact hn _ _ (fin0 v w1 h3)
  ·rw [G1,Oper.upon_value];exact hn _ _ (fin0 v w1 G2)
 simp only [rH,K0,cond_false] at hk
 -- rows that stay the caller's own
 have K7:∀ hb,(bif ci.pb then h' else match aD ci.own 0 (ci.eR r) with | some m=>sH m st.h h' | none=>h')=hb→
   ∀ q row,hb q=some row→h' q=some row∨(∃ t l m c,ci.pb=false∧aD ci.own 0 (ci.eR r)=some m∧m≤t.rank∧row=⟨.arr t l, .own⟩∧st.h q=some row∧h' q=some ⟨c, .ro⟩):=by
  rintro hb rfl q row hq
  cases hp:ci.pb
  ·rw [hp,cond_false] at hq
   cases hm:aD ci.own 0 (ci.eR r) with
   | none=>rw [hm] at hq;exact .inl hq
   | some m=>
    rw [hm] at hq
    have hq:sH m st.h h' q=some row:=hq
    unfold sH at hq
    split at hq
    ·rename_i t l c h3 h4
     cases H6:Nat.ble m t.rank
     ·rw [H6,cond_false] at hq;exact .inl (by rw [h4];exact hq)
     ·rw [H6,cond_true] at hq;cases hq
      exact .inr ⟨t,l,m,c,rfl,rfl,Nat.le_of_ble_eq_true H6,rfl,h3,h4⟩
    ·exact .inl hq
  ·rw [hp,cond_true] at hq;exact .inl hq
 generalize hbe:(bif ci.pb then h' else match aD ci.own 0 (ci.eR r) with | some m=>sH m st.h h' | none=>h')=hb at hk
 replace K7:=K7 hb hbe
 clear hbe
 -- behind the call
 have gB:∀ v w1,(∃ ρx,aB w outc ownc ρx (EC ci as' bs i (ci.eR r)) w1∧
   VR w1 ρx (mA outc ρx (EC ci as' bs i (ci.eR r))) v (pG ci i (ci.eR r))∧
   (∀ q b,fB ci.ks 0 bs q=some b→ρx b=ρc q)∧(∀ r,ρx r≠none→(i≤r∧r<i+128)∨r ∈ bs))→KB C w0 outer own i ρ st' (a.put o.dst v) w1:=by
  rintro v w1 ⟨ρx,hX,hV,HX,O5⟩
  generalize hXe:EC ci as' bs i (ci.eR r)=X at hX hV
  have hrk:∀ m,ci.pb=false→aD ci.own 0 (ci.eR r)=some m→(∀ q row,X q=some row→LP m row.c)∧Rk m (pG ci i (ci.eR r)):=fun m hp hm=>by
   have:=zpT (as:=as') (bs:=bs) (base:=i) hm hp
   rw [hXe] at this;exact this
  have Q7:∀ q,QE ci as' bs i (ci.eR r) hb q=match X q with | some x=>some x | none=>hb q:=fun q=>by
   rw [oJ,hXe]
   all_goals (cases X q <;> rfl)
  generalize RY:QE ci as' bs i (ci.eR r) hb=NX at hk Q7
  let ρn:Nat→Option RI:=fun q=>if i≤q∧q<i+128 then ρx q else ρ q
  have hρbs:∀ b ∈ bs,ρx b=ρ b:=fun b hb=>by
   obtain ⟨q,hq⟩:=c7.surj b hb
   rw [HX q b hq,hρcbox q b hq (P1 q b hq),c11 b (hbN b hb)]
  have hρx:∀ q,ρx q≠none→ρn q=ρx q:=fun q hq=>by
   by_cases VW:i≤q∧q<i+128
   ·simp only [ρn,VW,and_self,if_true]
   ·simp only [ρn,VW,if_false]
    rcases O5 q hq with h3 | h3
    ·exact absurd h3 VW
    ·exact (hρbs q h3).symm
  have hρo:∀ q,ρ q≠none→ρn q=ρ q:=fun q hq=>by
   have:¬ (i≤q∧q<i+128):=WY q hq
   simp only [ρn,this,if_false]
  have hρ':∀ q ri,ρ q≠none→ρ' q=some ri→ρ q=some ri:=fun q ri hq h3=>by
   cases h4:ρ q with
   | none=>exact absurd h4 hq
   | some ri'=>have:=c5 _ _ h4;rw [h3] at this;rw [this]
  have MW:∀ q row,NX q=some row→X q=some row∨(X q=none∧hb q=some row):=fun q row hq=>by
   rw [Q7] at hq
   cases hx:X q with
   | some y=>rw [hx] at hq;exact .inl hq
   | none=>rw [hx] at hq;exact .inr ⟨rfl,hq⟩
  have hh'ρ:∀ q row,h' q=some row→ρ q≠none:=fun q row hq=>by
   obtain ⟨row',h3,_⟩:=kW q row hq;exact hsthρ q row' h3
  have hbρ:∀ q row,hb q=some row→ρ q≠none:=fun q row hq=>by
   rcases K7 q row hq with h3 | ⟨_,_,_,_,_,_,_,_,_,h3⟩
   ·exact hh'ρ q row h3
   ·exact hh'ρ q _ h3
  have hXρ:∀ q row,X q=some row→ρn q=ρx q:=fun q row hq=>by
   obtain ⟨ri,h3,_⟩:=hX.rows q row hq
   exact hρx q (by rw [h3];simp)
  -- the gF of rows that stay the caller's own
  let Rest:Nat→Prop:=fun b=>∃ q t l m c ri,ci.pb=false∧aD ci.own 0 (ci.eR r)=some m∧m≤t.rank∧st.h q=some ⟨.arr t l, .own⟩∧h' q=some ⟨c, .ro⟩∧ρ q=some ri∧ri.nl=false∧ri.b=b
  have fY:∀ b,mA outer ρn NX b→mA outc ρx X b∨Rest b:=by
   rintro b (bY | ⟨q,row,ri,f1,f2,f3,f4,f5⟩)
   ·exact .inl (.inl (.inl bY))
   ·rcases MW q row f1 with h3 | ⟨_,h3⟩
    ·rw [hXρ q row h3] at f3;exact .inl (.inr ⟨q,row,ri,h3,f2,f3,f4,f5⟩)
    ·rw [hρo q (hbρ q row h3)] at f3
     rcases K7 q row h3 with h3 | ⟨t,l,m,c,e1,e2,e3,rfl,e5,e6⟩
     ·exact .inl (.inl (.inr ⟨q,row,ri,h3,f2,c5 _ _ f3,f4,f5⟩))
     ·exact .inr ⟨q,t,l,m,c,ri,e1,e2,e3,e5,e6,f3,f4,f5⟩
  have J0:∀ b,ownc b→mA outer ρ' g' b:=fun b hb=>by
   obtain ⟨q,row,ri,e1,e2,e3,e4,e5,e6⟩:=L6 b hb
   exact .inr ⟨q,row,ri,e1,by rw [e2];rfl,e4,e5,e6⟩
  have D0:∀ b,mA outc ρx X b→mA outer ρ' g' b∨w.heap.size≤b:=by
   rintro b (hb | ⟨q,row,ri,f1,f2,f3,f4,f5⟩)
   ·exact .inl (hb.mono fun q row h1 h2=>⟨row,c2 q row h1,h2⟩)
   ·obtain ⟨ri',k1,_,k2⟩:=hX.rows q row f1
    rw [f3] at k1;cases k1
    rcases (k2 f4).1.2 f2 with h3 | h3
    ·exact .inr (by omega)
    ·exact .inl (by rw [← f5];exact J0 _ h3)
  -- what the arguments' taking keeps clear of was kept clear of before
  have W4:∀ b,bK w b→mA outer ρ' g' b→mA outer ρ st.h b:=by
   rintro b ⟨o,u,hu⟩ bY
   refine Classical.byContradiction fun hn=>?_
   have h1:VR w ρ (mA outer ρ st.h) (.pointer (some (xA b (o+0)))) (.fp [.undef] 0):=
    .fp [.undef] 0 b o (fun _ => u) (by simp) hn (fun j hj => by have : j = 0 := by simpa using hj
                                                                 subst this;exact hu) fun j hj=>by
     have:j=0:=by simpa using hj
     subst this;exact .undef _
   have h2:=c6 _ _ h1
   generalize hp:Value.pointer (some (xA b (o+0)))=pv at h2
   cases h2 with
   | fp _ _ b2 o2 u2 _ B4 hu2 _=>
    have:b=b2:=by injection hp with hp;injection hp with hp;exact congrArg Addr.block hp
    subst this;exact B4 bY
  have V4:∀ b,Rest b→mA outer ρ st.h b∧b<w.heap.size∧¬ ownc b∧fA.base≤b∧∃ t m,DD w b t∧ci.pb=false∧aD ci.own 0 (ci.eR r)=some m∧m≤t.rank:=by
   rintro b ⟨q,t,l,m,c,ri,e1,e2,e3,e4,e5,e6,e7,e8⟩
   obtain ⟨ri2,k1,k2,k3⟩:=hr.heap.rows q _ e4
   rw [e6] at k1;cases k1
   obtain ⟨ri3,n1,n2⟩:=cW q _ e5
   have:=c5 _ _ e6
   rw [n1] at this;cases this
   subst e8
   refine ⟨.inr ⟨q,_,ri,e4,rfl,e6,e7,rfl⟩,(k3 e7).2,(n2 e7).1,?_,t,m,?_,e1,e2,e3⟩
   ·rcases (k3 e7).1.2 rfl with h | h
    ·exact Nat.le_trans hr.glob.base h
    ·exact Nat.le_of_not_lt fun h'=>hr.glob.low _ h' h
   ·rcases k2.2 with h | ⟨_,he,_⟩
    ·rw [e7] at h;cases h.1
    ·exact he
  have keepAll:∀ u d,VR w ρ (mA outer ρ st.h) u d→VR w1 ρn (mA outer ρn NX) u d:=fun u d hu=>
   hu.keep2 hu.refs (fun q ri hq h3=>by rw [hρo q hq];exact h3)
    (fun b hb hc=>by
     obtain ⟨_,_,E0⟩:=hc
     exact hX.old b (YM E0) fun ho=>hb (W4 b ⟨_,_,E0⟩ (J0 b ho)))
    fun b hc bY=>by
     obtain ⟨_,_,E0⟩:=id hc
     have:=YM E0
     rcases fY b bY with h | h
     ·rcases D0 b h with h | h
      ·exact W4 b hc h
      ·omega
     ·exact (V4 b h).1
  have keepX:∀ u d,(∀ m,ci.pb=false→aD ci.own 0 (ci.eR r)=some m→Rk m d)→VR w1 ρx (mA outc ρx X) u d→VR w1 ρn (mA outer ρn NX) u d:=fun u d hk hu=>by
   have h0:VR w1 ρx (mA outer ρn NX) u d:=by
    by_cases hm:∃ m,ci.pb=false∧aD ci.own 0 (ci.eR r)=some m
    ·obtain ⟨m,hp,hm⟩:=hm
     refine hu.widen (hk m hp hm) fun b bY=>?_
     rcases fY b bY with h | h
     ·exact .inl h
     ·obtain ⟨_,h1,h2,h3,t,m',h4,_,h5,h6⟩:=V4 b h
      rw [hm] at h5;cases h5
      exact .inr ⟨h3,t,h4.same (hX.old b h1 h2),h6⟩
    ·refine hu.mono (fun _ _ h=>h) (fun _ _ _=>rfl) fun b bY=>?_
     rcases fY b bY with h | ⟨_,_,_,m,_,_,h1,h2,_⟩
     ·exact .inl h
     ·exact absurd ⟨m,h1,h2⟩ hm
   exact h0.keep h0.refs (fun q ri hq h3=>by rw [hρx q hq];exact h3) (fun _ _ _=>rfl) fun b hb=> .inl hb
  have keepRow:∀ q row ri,X q=some row→xC w1 ρx (mA outc ρx X) ri row.c→xC w1 ρn (mA outer ρn NX) ri row.c:=fun q row ri hq dW=>by
   by_cases hm:∃ m,ci.pb=false∧aD ci.own 0 (ci.eR r)=some m
   ·obtain ⟨m,hp,hm⟩:=hm
    exact dW.keepR ((hrk m hp hm).1 q row hq) (fun _=>rfl) fun u d hd hu=>keepX u d (fun m' _ hm'=>by rw [hm] at hm';cases hm';exact hd) hu
   ·exact dW.keep (fun _=>rfl) fun u d hu=>keepX u d (fun m hp h=>absurd ⟨m,hp,h⟩ hm) hu
  have jX:∀ q row,X q=some row→∃ ri,ρn q=some ri∧ρx q=some ri∧xC w1 ρx (mA outc ρx X) ri row.c∧(ri.nl=false→(w.heap.size≤ri.b∨ownc ri.b)∧ri.b<w1.heap.size):=fun q row hq=>by
   obtain ⟨ri,k1,k2,k3⟩:=hX.rows q row hq
   exact ⟨ri,by rw [hXρ q row hq];exact k1,k1,k2,fun hn=>⟨(k3 hn).1.2 (by rw [zaY AW (by rw [← hXe] at hq;exact hq)];rfl),(k3 hn).2⟩⟩
  have hZ:∀ q row,hb q=some row→∃ ri,ρn q=some ri∧ρ q=some ri∧ρ' q=some ri∧xC w ρ (mA outer ρ st.h) ri row.c∧(ri.nl=false→¬ ownc ri.b∧ri.b<w.heap.size∧(¬ outer ri.b∧(row.m.isRo=false→w0.heap.size≤ri.b∨own ri.b))):=fun q row hq=>by
   rcases K7 q row hq with hq | ⟨t,l,m,c,e1,e2,e3,rfl,e5,e6⟩
   ·obtain ⟨row',h3,h4,_⟩:=kW q row hq
    obtain ⟨ri,k1,k2,_⟩:=hr.heap.rows q row' h3
    obtain ⟨ri',k3,k4⟩:=cW q row hq
    have:=c5 _ _ k1
    rw [k3] at this;cases this
    exact ⟨ri,by rw [hρo q (hh'ρ q row hq)];exact k1,k1,k3,by rw [← h4];exact k2,k4⟩
   ·obtain ⟨ri,k1,k2,k5⟩:=hr.heap.rows q _ e5
    obtain ⟨ri',k3,k4⟩:=cW q _ e6
    have:=c5 _ _ k1
    rw [k3] at this;cases this
    exact ⟨ri,by rw [hρo q (hh'ρ q _ e6)];exact k1,k1,k3,k2,fun hn=>⟨(k4 hn).1,(k4 hn).2.1,(k5 hn).1⟩⟩
  have hbg:∀ q row,hb q=some row→∃ row',g' q=some row':=fun q row hq=>by
   rcases K7 q row hq with hq | ⟨t,l,m,c,e1,e2,e3,rfl,e5,e6⟩
   ·exact ⟨_,c2 q row hq⟩
   ·exact ⟨_,c2 q _ e6⟩
  have F3:aB w0 outer own ρn NX w1:=by
   refine ⟨hr.heap.wx.trans hX.wx,fun b hb ho=>?_,hr.heap.outLt,fun q row hq=>?_,fun q q' row row' qi qi' h1 h2 h3 h4 h5 h6 h7=>?_⟩
   ·rw [← hr.heap.old b hb ho]
    refine hX.old b (Nat.lt_of_lt_of_le hb hr.heap.wx.size) fun hoc=>?_
    rcases (vY b hoc).2 with h3 | h3
    ·omega
    ·exact ho h3
   ·rcases MW q row hq with h3 | ⟨_,h3⟩
    ·obtain ⟨ri,k1,k2,k3,k4⟩:=jX q row h3
     refine ⟨ri,k1,keepRow q row ri h3 k3,fun hn=>⟨?_,(k4 hn).2⟩⟩
     have hx:w0.heap.size≤ri.b∨own ri.b:=by
      rcases (k4 hn).1 with h4 | h4
      ·exact .inl (Nat.le_trans hr.heap.wx.size h4)
      ·exact (vY _ h4).2
     refine ⟨fun ho=>?_,fun _=>hx⟩
     obtain ⟨g1,g2⟩:=hr.heap.outLt _ ho
     rcases hx with hx | hx
     ·omega
     ·exact g2 hx
    ·obtain ⟨ri,k1,k2,k3,k4,k5⟩:=hZ q row h3
     refine ⟨ri,k1,k4.keep (fun hn=>hX.old _ (k5 hn).2.1 (k5 hn).1) keepAll,fun hn=>⟨(k5 hn).2.2,Nat.lt_of_lt_of_le (k5 hn).2.1 hX.wx.size⟩⟩
   ·rcases MW q row h1 with k1 | ⟨_,k1⟩ <;> rcases MW q' row' h2 with k2 | ⟨_,k2⟩
    ·obtain ⟨r1,e1,e2,_⟩:=jX q row k1
     obtain ⟨r2,e3,e4,_⟩:=jX q' row' k2
     rw [h3] at e1;cases e1;rw [h4] at e3;cases e3
     exact hX.inj q q' row row' qi qi' k1 k2 e2 e4 h5 h6 h7
    ·obtain ⟨r1,e1,e2,_,e5⟩:=jX q row k1
     obtain ⟨r2,e3,e4,e6,_,e7⟩:=hZ q' row' k2
     rw [h3] at e1;cases e1;rw [h4] at e3;cases e3
     rcases (e5 h5).1 with h8 | h8
     ·have:=(e7 h6).2.1;omega
     ·rw [h7] at h8;exact absurd h8 (e7 h6).1
    ·obtain ⟨r1,e1,e2,_,e5⟩:=jX q' row' k2
     obtain ⟨r2,e3,e4,e6,_,e7⟩:=hZ q row k1
     rw [h4] at e1;cases e1;rw [h3] at e3;cases e3
     rcases (e5 h6).1 with h8 | h8
     ·have:=(e7 h5).2.1;omega
     ·rw [← h7] at h8;exact absurd h8 (e7 h5).1
    ·obtain ⟨r1,e1,e2,e2',_⟩:=hZ q row k1
     obtain ⟨r2,e3,e4,e4',_⟩:=hZ q' row' k2
     rw [h3] at e1;cases e1;rw [h4] at e3;cases e3
     obtain ⟨y1,y2⟩:=hbg q row k1
     obtain ⟨y3,y4⟩:=hbg q' row' k2
     exact c1.inj q q' y1 y3 qi qi' y2 y4 e2' e4' h5 h6 h7
  have MV:RA C w0 outer own ρn { st with h:=NX } a w1:=hr.turn F3 keepAll
  refine ⟨ρn,(MV.put (keepX _ _ (fun m hp hm=>(hrk m hp hm).2) hV) hk).1,fun q hq=>?_,fun q ri hq=>?_⟩
  ·simp only [ρn,hq,if_false]
  ·rw [hρo q (by rw [hq];simp)];exact hq
 intro next Q hn
 unfold Oper.wp
 rw [jW]
 rcases G with ⟨G1,G2⟩ | ⟨v,w1,G1,G2⟩
 ·rw [G1,Oper.upon_enter]
  refine Calls.mono' G2 ?_
  rintro e w1 ⟨v,rfl,h3⟩
  exact hn _ _ (gB v w1 h3)
 ·rw [G1,Oper.upon_value];exact hn _ _ (gB v w1 G2)
omit hr in
omit [fA] in
theorem zqg {ci:NB} {as:List V} {bs:List Nat} {i:Nat} {rs:List V} {h h':Nat→Option nA} (hl:xD h h'):xD (QE ci as bs i rs h) (QE ci as bs i rs h'):=fun r row hr=>by
 rw [oJ] at hr ⊢
 split at hr
 ·rename_i x hx
  cases hr
  exact ⟨_,rfl,rfl,id⟩
 ·exact hl r row hr
omit hr in
omit [fA] in
theorem zsf {dst:Option Nat} {st st':St} {v:V} {h:Nat→Option nA} (hk:MA C dst st v some=some st'):MA C dst { st with h:=h } v some=some { st' with h:=h }:=by
 cases dst with
 | none=>simp only [MA,Option.some.injEq] at hk ⊢;subst hk;rfl
 | some d=>
  simp only [MA] at hk ⊢
  cases hb:Nat.blt d C.nt
  ·simp [hb] at hk
  ·simp only [hb,XB,Option.some.injEq] at hk ⊢;subst hk;rfl
omit hr in
omit [fA] in
theorem zsg {dst:Option Nat} {st st':St} {v:V} (hk:MA C dst st v some=some st'):st'.h=st.h:=by
 cases dst with
 | none=>simp only [MA,Option.some.injEq] at hk;subst hk;rfl
 | some d=>
  simp only [MA] at hk
  cases hb:Nat.blt d C.nt
  ·simp [hb] at hk
  ·simp only [hb,XB,Option.some.injEq] at hk;subst hk;rfl
theorem zrH (hΦ:RD C) (HY:∃ N,∀ r,N≤r→ρ r=none) (dX:∀ q,q<128→ρ (i+q)=none) (f:Nat) (args:Array Value) (as:List V) (eW:args.size=as.length)
  (LW:∀ j (hj:j<as.length),VR w ρ (mA outer ρ st.h) (args.getD j undef) as[j]) (jW:(execOp a.eval o).run C.P w=(callFunc f args).run C.P w)
  (hk:KG C i o.dst st f as some=some st'):OB C.P o a w (KB C w0 outer own i ρ st'):=by
 unfold KG at hk
 split at hk
 ·cases hk
 rename_i ci M5
 have hci:eA C.P f ci C.g:=by
  cases RV:Nat.blt f 1048576
  ·simp [RV] at M5
  ·simp only [RV,cond_true] at M5
   have:=hΦ.ok _ _ M5
   rwa [zqL f as (by simpa using RV)] at this
 split at hk
 ·split at hk
  ·cases hk
  rename_i as' h' bs v1
  obtain ⟨x,G0,hk⟩:=Option.bind_eq_some_iff.1 ((kK _ _).symm.trans hk)
  obtain ⟨r,hF,hk⟩:=Option.bind_eq_some_iff.1 hk
  cases AW:(Nat.ble (ci.eR r).length 128&&AI ci (ci.eR r))
  case false=>simp [AW] at hk
  simp only [AW,XB] at hk
  simp only [Bool.and_eq_true] at AW
  have VV:RA C w0 outer own ρ { st with h:=pJ st.h } a w:=hr.less (zeW _)
  have D:=zfD (o:=o) VV HY dX f args as eW (fun j hj=>(hr.heap.less (zeW st.h)).2 _ _ (LW j hj)) jW hci v1 G0 hF (Nat.le_of_ble_eq_true AW.1)
   (st':= { st' with h:=QE ci as' bs i (ci.eR r) (pJ st.h) }) (by
    rw [rH,AW.2,cond_true]
    exact zsf (st:= { st with h:=QE ci as' bs i (ci.eR r) st.h }) hk)
  refine fun next Q hn=>D next Q fun a' w' ⟨ρ',h1,h2,h3⟩=>hn a' w' ⟨ρ',?_,h2,h3⟩
  have e:st'.h=QE ci as' bs i (ci.eR r) st.h:=zsg hk
  have:=h1.less (h':=st'.h) (by rw [e];exact zqg (zqa _))
  exact this
 ·rename_i as' h' bs v1
  obtain ⟨x,G0,hk⟩:=Option.bind_eq_some_iff.1 ((kK _ _).symm.trans hk)
  obtain ⟨r,hF,hk⟩:=Option.bind_eq_some_iff.1 hk
  cases AW:Nat.ble (ci.eR r).length 128
  case false=>simp [AW] at hk
  simp only [AW,XB] at hk
  exact zfD hr HY dX f args as eW LW jW hci v1 G0 hF (Nat.le_of_ble_eq_true AW) hk
end
end Go.D
namespace Go.D
variable [fA]
section
variable {C:Cx} {w0:World} {outer own:Nat→Prop} {ρ:Nat→Option RI} {st st':St} {a:Act} {w:World} {h:Nat→Option nA}
variable {o:Oper} {i:Nat} (hr:RA C w0 outer own ρ st a w)
include hr
theorem zrG (hΦ:RD C) (HY:∃ N,∀ r,N≤r→ρ r=none) (dX:∀ q,q<128→ρ (i+q)=none) (x:Operand) (args:Array Operand) (argTypes:Array TypeId)
  (ho:o.op= .call { callee:= .value x,args,argTypes }) (hk:bB C i o st some=some st'):OB C.P o a w (KB C w0 outer own i ρ st'):=by
 simp only [bB,ho] at hk
 split at hk
 case h_2=>cases hk
 rename_i f cs nW
 have hx:=hr.opd x
 rw [nW] at hx
 generalize hv:a.eval x=v at hx
 cases hx with
 | fn _ _ caps hs hvc=>
 refine zrH hr hΦ HY dX f (args.map a.eval++caps) _ (by simp [hs]) (fun j hj=>?_) ?_ hk
 ·by_cases FX:j<args.size
  ·rw [List.getElem_append_left (by simpa using FX),Array.getD_eq_getD_getElem?,Array.getElem?_append_left (by simpa using FX)]
   simp only [Array.getElem?_map,Array.getElem?_eq_getElem FX,Option.map_some,Option.getD_some,List.getElem_map,Array.getElem_toList]
   exact hr.opd _
  ·have eX:j - args.size<cs.length:=by simp at hj;omega
   rw [List.getElem_append_right (by simp;omega),Array.getD_eq_getD_getElem?,Array.getElem?_append_right (by simp;omega)]
   have:=hvc (j - args.size) eX
   rw [Array.getD_eq_getD_getElem?] at this
   simpa using this
 ·simp [execOp,ho,resolve,Deferred.ofValue,hv,invoke]
theorem zrW (c x y:Operand) (ho:o.op= .pick c x y) (t:Bool) (hc:opd st.s c= .bool t) (hk:MA C o.dst st (cond t (opd st.s x) (opd st.s y)) some=some st'):
  OB C.P o a w (KB C w0 outer own i ρ st'):=by
 have h1:=hr.opd c;rw [hc] at h1
 generalize hec:a.eval c=vc at h1
 cases h1
 refine yB (v:=if t then a.eval x else a.eval y) (w':=w) ?_ (hr.after ?_ hk)
 ·cases t <;> simp [execOp,ho,hec,asBool]
 ·cases t
  ·exact hr.opd y
  ·exact hr.opd x
theorem zgR (hC:yD C) (hΦ:RD C) (HY:∃ N,∀ r,N≤r→ρ r=none) (dX:∀ q,q<128→ρ (i+q)=none) (hk:bB C i o st some=some st'):
  OB C.P o a w (KB C w0 outer own i ρ st'):=by
 have hi:ρ i=none:=dX 0 (by omega)
 have none_of:∀ {p:Prop},bB C i o st some=none→p:=fun h=>by rw [h] at hk;cases hk
 cases ho:o.op with
 | move x=>exact zfE hr x (.inl ho) (by simpa only [bB,ho] using hk)
 | assign x=>exact zfE hr x (.inr ho) (by simpa only [bB,ho] using hk)
 | pick c x y=>
  simp only [bB,ho] at hk
  split at hk
  case h_2=>cases hk
  rename_i t hc
  split at hk
  ·rename_i p q hx hy
   exact zrV hr c x y ho t p q hc hx hy hk
  ·exact zrW hr c x y ho t hc hk
 | alloc e=>
  simp only [bB,ho] at hk
  split at hk
  case h_2=>cases hk
  rename_i cs hz
  exact zrA hr e ho hi cs hz hk
 | box e x=>
  simp only [bB,ho] at hk
  cases hb:SE (cellsOf (opd st.s x))
  case false=>simp [hb] at hk
  simp only [hb,XB] at hk
  exact zrD hr e x ho hi hb hk
 | build t parts=>exact zrE hr t parts ho hk
 | buildSlice t len parts=>exact zrF hr hC t len parts ho hi hk
 | load t x=>exact zrP hr t x ho hk
 | store t x y=>exact zrY hr t x y ho hk
 | nilCheck x=>exact zrU hr x ho hk
 | binOp op t x y t'=>exact zrC hr op t t' x y ho hk
 | unOp op t x=>exact zrZ hr op t x ho hk
 | convert s d x=>exact zrI hr hC s d x ho hi hk
 | makeFunc fn first captured=>
  cases fn with
  | func f=>exact zrQ hr f first captured ho hk
  | _=>exact none_of (by simp only [bB,ho])
 | makeSlice t x y=>exact zrR hr hC t x y ho hi hk
 | slice t x lo hi mx=>exact zrX hr hC t x lo hi mx ho hk
 | fieldAddr t x f=>exact zrL hr t x f ho hk
 | field t x f=>exact zrK hr t x f ho hk
 | indexAddr t x y=>exact zrN hr hC t x y ho hk
 | index t x y=>exact zrM hr t x y ho hk
 | extract x ix=>exact zrJ hr x ix ho hk
 | call c=>
  obtain ⟨callee,args,argTypes⟩:=c
  cases callee with
  | value x=>exact zrG hr hΦ HY dX x args argTypes ho hk
  | invoke r m=>exact none_of (by simp only [bB,ho])
  | builtin b=>
   cases b with
   | len=>exact zrO hr args argTypes ho hk
   | append=>exact zrB hr hC args argTypes ho hi hk
   | min=>exact zrT hr args argTypes ho hk
   | max=>exact zrS hr args argTypes ho hk
   | _=>exact none_of (by simp only [bB,ho])
 | _=>exact none_of (by simp only [bB,ho])
end
end Go.D
namespace Go.D
variable [fA]
section
variable {C:Cx} {R:Type} {st:St} {K:St→Option R}
omit [fA] in
theorem lL (dst:Option Nat) (st:St) (v:V) (K:St→Option R):MA C dst st v K=(MA C dst st v some).bind K:=by
 cases dst with
 | none=>rfl
 | some d=>simp only [MA];cases Nat.blt d C.nt <;> rfl
omit [fA] in
theorem zrj (dst:Option Nat) (st:St) (r:Nat) (c:nD) (v:V) (K:St→Option R):rD C dst st r c v K=(rD C dst st r c v some).bind K:=lL _ _ _ _
omit [fA] in
theorem zqW {K1:V→Option St} {K2:V→Option R} (h:∀ v,K2 v=(K1 v).bind K) (ag:Bool) (n:Nat) (cs:List V) (off:Nat):gE ag n cs off K2=(gE ag n cs off K1).bind K:=by
 cases ag <;> simp only [gE,XB,CK]
 ·split
  ·exact h _
  ·rfl
 ·cases Nat.ble (off+n) cs.length
  ·rfl
  ·exact h _
omit [fA] in
theorem zhB {K1:V→Option St} {K2:V→Option R} (h:∀ v,K2 v=(K1 v).bind K) (op:BinOp) (x y:V):bI op x y K2=(bI op x y K1).bind K:=by
 have hb:∀ (b:Bool) (v:V),(bif b then none else K2 v)=(bif b then none else K1 v:Option St).bind K:=fun b v=>by cases b;exact h v;rfl
 have bY:∀ (b:Bool) (v:V),(bif b then K2 v else none)=(bif b then K1 v else none:Option St).bind K:=fun b v=>by cases b;rfl;exact h v
 unfold bI
 split
 ·rename_i k a k' b
  cases decide (k=k')
  ·rfl
  ·exact hb _ _
 ·rename_i k a k' b
  cases decide (k=k')
  ·rfl
  ·exact hb _ _
 ·exact hb _ _
 ·exact hb _ _
 ·exact bY _ _
 ·split
  ·exact h _
  ·rfl
omit [fA] in
theorem zdO {f1:Nat→Option St} {f2:Nat→Option R} (h:∀ k,f2 k=(f1 k).bind K) (i:Int):∀ (n k:Nat),aG f2 i k n=(aG f1 i k n).bind K
 | 0,k=>rfl
 | n+1,k=>by
  simp only [aG]
  cases i==(k:Int)
  ·exact zdO h i n (k+1)
  ·exact h k
omit [fA] in
theorem zo5 {K1:V→Option St} {K2:V→Option R} (h:∀ v,K2 v=(K1 v).bind K) (d:TypeDesc) (tk:TypeId→TN→Bool) (hp:Nat→Option nA) (x:V) (lo hi:Option V):
  kJ d tk hp x lo hi K2=(kJ d tk hp x lo hi K1).bind K:=by
 have bY:∀ (b:Bool) (v:V),(bif b then K2 v else none)=(bif b then K1 v else none:Option St).bind K:=fun b v=>by cases b;rfl;exact h v
 unfold kJ
 split
 ·rfl
 split
 case h_2=>rfl
 rename_i len _ _ _ a b _ _
 cases decide (0≤a)&&decide (a≤b)&&decide (b≤(len:Int))
 ·rfl
 simp only [cond_true]
 split
 ·exact bY _ _
 ·exact h _
 ·split
  ·exact bY _ _
  ·rfl
 ·exact bY _ _
 ·rfl
omit [fA] in
theorem xV {α:Type} (x:Option α) {f1:α→Option St} {f2:α→Option R} (h:∀ v,f2 v=(f1 v).bind K):Option.bind x f2=(Option.bind x f1).bind K:=by
 cases x with
 | none=>rfl
 | some v=>exact h v
omit [fA] in
theorem zo3 (b:Bool) {x1:Option St} {x2:Option R} (h:x2=x1.bind K):(bif b then x2 else none)=(bif b then x1 else none:Option St).bind K:=by
 cases b
 ·rfl
 ·exact h
omit [fA] in
theorem zre (b:Bool) {x1:Option St} {x2:Option R} (h:x2=x1.bind K):(bif b then none else x2)=(bif b then none else x1:Option St).bind K:=by
 cases b
 ·exact h
 ·rfl
omit [fA] in
theorem zba (b:Bool) {x1:Option St} {x2:Option R} (h:x2=x1.bind K):gd b x2 none=(gd b x1 none:Option St).bind K:=by
 cases b
 ·rfl
 ·exact h
omit [fA] in
theorem zrq (b:Bool) {x1:Option St} {x2:Option R} (h:x2=x1.bind K):gd b none x2=(gd b none x1:Option St).bind K:=by
 cases b
 ·exact h
 ·rfl
omit [fA] in
theorem yV {α:Type} (x:Option α) {f1:α→Option St} {f2:α→Option R} (h:∀ v,f2 v=(f1 v).bind K):IG x f2=(IG x f1).bind K:=by
 cases x with
 | none=>rfl
 | some v=>exact h v
omit [fA] in
theorem zj2 (i:Nat) (dst:Option Nat) (f:Nat) (as:List V):KG C i dst st f as K=(KG C i dst st f as some).bind K:=by
 unfold KG
 split
 ·rfl
 split
 ·split
  ·rfl
  exact yV _ fun _=>xV _ fun _=>zba _ (lL _ _ _ _)
 exact yV _ fun _=>xV _ fun _=>zba _ (lL _ _ _ _)
omit [fA] in
theorem CM (i:Nat) (o:Oper):bB C i o st K=(bB C i o st some).bind K:=by
 unfold bB
 repeat' first
  | rfl
  | exact lL _ _ _ _
  | exact zrj _ _ _ _ _ _
  | exact zj2 _ _ _ _
  | refine zqW (fun _=>?_) _ _ _ _
  | refine zhB (fun _=>?_) _ _ _
  | refine zdO (fun _=>?_) _ _ _
  | refine zo5 (fun _=>?_) _ _ _ _ _ _
  | refine zo3 _ ?_
  | refine zre _ ?_
  | refine zba _ ?_
  | refine zrq _ ?_
  | refine yV _ (fun _=>?_)
  | refine xV _ (fun _=>?_)
  | split
end
end Go.D
namespace Go.D
variable [fA]
def sC (π:Nat→Prop) (h h':Nat→Option nA):Prop:=∀ r row,π r→h r=some row→row.m.isOwn=false→h' r=some row
omit [fA] in
theorem sC.refl (π:Nat→Prop) (h:Nat→Option nA):sC π h h:=fun _ _ _ h _=>h
omit [fA] in
theorem sC.trans {π:Nat→Prop} {a b c:Nat→Option nA} (h:sC π a b) (k:sC π b c):sC π a c:=fun r row hn hr hm=>k r row hn (h r row hn hr hm) hm
omit [fA] in
theorem FH {π:Nat→Prop} {h h':Nat→Option nA} (k:sC π h h') (r:Nat) (x:Option nA) (hr:¬ π r∨∃ row,h r=some row∧row.m.isOwn=true):sC π h (uA h' r x):=fun q row hn hq hm=>by
 rw [vA]
 ·exact k q row hn hq hm
 ·rintro rfl
  rcases hr with hr | ⟨row',h1,h2⟩
  ·exact hr hn
  ·rw [hq] at h1;cases h1;rw [hm] at h2;cases h2
omit [fA] in
theorem vJ {π:Nat→Prop} {h:Nat→Option nA} (ids:List Nat) (hl:∀ r ∈ ids,∀ row,h r=some row→row.m.isLock=false):sC π h (IB h ids):=fun q row hn hq hm=>by
 rw [ID]
 by_cases hi:q ∈ ids
 ·have:=hl q hi row hq
  obtain ⟨c,m⟩:=row
  cases m
  ·cases hm
  ·simp [hi,hq]
  ·cases this
 ·simp [hi,hq]
def WF (h:Nat→Option nA) (ids:List Nat):Prop:=∀ r ∈ ids,∀ row,h r=some row→row.m.isLock=false
omit [fA] in
theorem YN (h:Nat→Option nA):WF h []:=fun r hr=>by simp at hr
omit [fA] in
theorem zfz {h:Nat→Option nA} {i j:List Nat} (a:WF h i) (b:WF h j):WF h (i++j):=fun r hr=>by
 rcases List.mem_append.1 hr with hr | hr
 ·exact a r hr
 ·exact b r hr
omit [fA] in
theorem zbv {h:Nat→Option nA} {r:Nat} {j:List Nat} (a:∀ row,h r=some row→row.m.isLock=false) (b:WF h j):WF h (r :: j):=fun q hq=>by
 rcases List.mem_cons.1 hq with rfl | hq
 ·exact a
 ·exact b q hq
omit [fA] in
theorem za6 {h:Nat→Option nA} {v:V} {x:V × List Nat} (hf:tE h v=some x):WF h x.2:=by
 unfold tE at hf
 split at hf
 ·split at hf
  ·rename_i t l m hr
   cases hm:m.isLock <;> simp [hm] at hf
   subst hf
   exact zbv (fun row h1=>by rw [hr] at h1;cases h1;exact hm) (YN _)
  ·cases hf
 ·split at hf
  ·rename_i t' l m hr
   cases hm:m.isLock
   ·simp only [hm,cond_false] at hf
    split at hf
    ·simp at hf;subst hf
     exact zbv (fun row h1=>by rw [hr] at h1;cases h1;exact hm) (YN _)
    ·cases hf
   ·simp [hm] at hf
  ·cases hf
 ·cases hb:iE 8 v <;> simp [hb] at hf
  subst hf;exact YN _
omit [fA] in
theorem mN {h:Nat→Option nA}:∀ {vs:List V} {x:List V × List Nat},TD h vs=some x→WF h x.2
 | [],x,hf=>by simp [TD] at hf;subst hf;exact YN _
 | v :: vs,x,hf=>by
  simp only [TD] at hf
  split at hf
  ·cases hf
  rename_i h1
  split at hf
  ·cases hf
  rename_i h2
  cases hf
  exact zfz (za6 h1) (mN h2)
omit [fA] in
theorem lR {h:Nat→Option nA} {v:V} {x:V × List Nat} (hf:OE h v=some x):WF h x.2:=by
 unfold OE at hf
 split at hf
 ·split at hf
  ·rename_i h1
   cases hf;exact (mN h1:_)
  ·cases hf
 ·split at hf
  ·rename_i cs m hr
   cases hb:(m.isLock||cs.isEmpty)
   case true=>simp [hb] at hf
   simp only [hb,cond_false] at hf
   split at hf
   ·rename_i h1
    cases hf
    refine zbv (fun row h2=>?_) (mN h1)
    rw [hr] at h2;cases h2
    simp only [Bool.or_eq_false_iff] at hb;exact hb.1
   ·cases hf
  ·cases hf
 ·exact za6 hf
omit [fA] in
theorem za3 {h:Nat→Option nA}:∀ {vs:List V} {x:List V × List Nat},AH h vs=some x→WF h x.2
 | [],x,hf=>by simp [AH] at hf;subst hf;exact YN _
 | v :: vs,x,hf=>by
  simp only [AH] at hf
  split at hf
  ·cases hf
  rename_i h1
  split at hf
  ·cases hf
  rename_i h2
  cases hf
  exact zfz (lR h1) (za3 h2)
omit [fA] in
theorem zfc {π:Nat→Prop} {h:Nat→Option nA} {t:TN} {v:V} {l:List (El t)} {r:Option Nat} (ht:FM h t v=some (l,r)):sC π h (wJ h r):=by
 cases r with
 | none=>exact sC.refl _ _
 | some r=>
  refine FH (sC.refl _ _) r none (.inr ?_)
  unfold FM at ht
  split at ht
  ·cases ht
  ·split at ht
   ·rename_i hr
    split at ht
    ·cases ht;exact ⟨_,hr,rfl⟩
    ·cases ht
   ·cases ht
  ·split at ht
   ·rename_i hr
    split at ht
    ·cases ht;exact ⟨_,hr,rfl⟩
    ·cases ht
   ·cases ht
  ·cases ht
omit [fA] in
theorem UH (π:Nat→Prop) (ow:List Nat):∀ (cs:List V) (p:Nat) (h:Nat→Option nA) (x:List V × (Nat→Option nA)),AC ow p cs h=some x→sC π h x.2
 | [],p,h,x,ht=>by simp [AC] at ht;subst ht;exact sC.refl π h
 | c :: cs,p,h,x,ht=>by
  simp only [AC] at ht
  cases hb:ow.any (Nat.beq p)
  ·simp only [hb,cond_false] at ht
   split at ht
   case h_2=>cases ht
   rename_i hf
   split at ht
   case h_2=>cases ht
   rename_i hr
   cases ht
   have k:=UH π ow cs (p+1) _ _ hr
   exact (vJ _ (za6 hf)).trans k
  ·simp only [hb,cond_true] at ht
   split at ht
   ·split at ht
    case h_2=>cases ht
    rename_i LV
    split at ht
    case h_2=>cases ht
    rename_i hr
    cases ht
    have k:=UH π ow cs (p+1) _ _ hr
    exact (FH (sC.refl π h) _ none (.inr ⟨_,LV,rfl⟩)).trans k
   ·split at ht
    case h_2=>cases ht
    rename_i hr
    cases ht
    have:=UH π ow cs _ _ _ hr
    exact this
   ·split at ht
    case h_2=>cases ht
    rename_i LV
    split at ht
    case h_2=>cases ht
    rename_i hr
    cases ht
    have k:=UH π ow cs (p+1) _ _ hr
    exact (FH (sC.refl π h) _ none (.inr ⟨_,LV,rfl⟩)).trans k
   ·cases ht
omit [fA] in
theorem VU (π:Nat→Prop):∀ (ks:List ZA) (as:List V) (h:Nat→Option nA) (x:List V × (Nat→Option nA) × List Nat),GB ks as h=some x→
  sC π h x.2.1∧∀ b ∈ x.2.2,∃ row,h b=some row∧row.m.isOwn=true
 | [],[],h,x,ht=>by simp [GB] at ht;subst ht;exact ⟨sC.refl π h,fun b hb=>by simp at hb⟩
 | [],_ :: _,h,x,ht=>by simp [GB] at ht
 | .plain :: ks,[],h,x,ht=>by simp [GB] at ht
 | .ptr _ :: ks,[],h,x,ht=>by simp [GB] at ht
 | .mv _ :: ks,[],h,x,ht=>by simp [GB] at ht
 | .mv ow :: ks,v :: vs,h,x,ht=>by
  obtain ⟨cs,rfl⟩:=zb9 ht
  simp only [GB] at ht
  cases hb:Nat.ble cs.length 127
  case false=>simp [hb] at ht
  simp only [hb,cond_true] at ht
  split at ht
  ·cases ht
  rename_i hl
  split at ht
  ·cases ht
  rename_i hr
  cases ht
  obtain ⟨k1,k2⟩:=VU π ks vs _ _ hr
  refine ⟨(UH π _ _ _ _ _ hl).trans k1,fun b hb=>?_⟩
  obtain ⟨row,h1,h2⟩:=k2 b hb
  obtain ⟨row2,h3,h4,h5⟩:=OI _ _ _ _ _ hl b row h1
  refine ⟨row2,h3,?_⟩
  cases ho:row2.m.isOwn with
  | true=>rfl
  | false=>
   have:=UH (fun _=>True) _ _ _ _ _ hl b row2 trivial h3 ho
   have this:=this.symm.trans h1;cases this;rw [h2] at ho;cases ho
 | .plain :: ks,v :: vs,h,x,ht=>by
  simp only [GB] at ht
  split at ht
  ·cases ht
  rename_i v' ids hf
  split at ht
  ·cases ht
  rename_i hr
  cases ht
  obtain ⟨k1,k2⟩:=VU π ks vs _ _ hr
  refine ⟨(vJ _ (lR hf)).trans k1,fun b hb=>?_⟩
  obtain ⟨row,h1,h2⟩:=k2 b hb
  obtain ⟨row',h3,h4,h5⟩:=VN h ids b row h1
  rw [ID] at h1
  by_cases hm:b ∈ ids
  ·simp [hm,h3] at h1;subst h1;cases h2
  ·simp [hm] at h1;exact ⟨row,h1,h2⟩
 | .ptr ow :: ks,v :: vs,h,x,ht=>by
  obtain ⟨r,rfl⟩:=zca ht
  simp only [GB] at ht
  split at ht
  case h_2=>cases ht
  rename_i cs LV
  cases hb:Nat.ble cs.length 127
  case false=>simp [hb] at ht
  simp only [hb,cond_true] at ht
  split at ht
  ·cases ht
  rename_i hl
  split at ht
  ·cases ht
  rename_i hr
  cases ht
  obtain ⟨k1,k2⟩:=VU π ks vs _ _ hr
  refine ⟨(FH (sC.refl π h) _ none (.inr ⟨_,LV,rfl⟩)).trans ((UH π _ _ _ _ _ hl).trans k1),fun b hb=>?_⟩
  rcases List.mem_cons.1 hb with rfl | hb
  ·exact ⟨_,LV,rfl⟩
  ·obtain ⟨row,h1,h2⟩:=k2 b hb
   obtain ⟨row2,h3,h4,h5⟩:=OI _ _ _ _ _ hl b row h1
   have D4:b≠r:=by rintro rfl;rw [IA] at h3;cases h3
   rw [vA _ _ _ _ D4] at h3
   refine ⟨row2,h3,?_⟩
   cases ho:row2.m.isOwn with
   | true=>rfl
   | false=>
    have:=UH (fun _=>True) _ _ _ _ _ hl b row2 trivial (by rw [vA _ _ _ _ D4];exact h3) ho
    have this:=this.symm.trans h1;cases this;rw [h2] at ho;cases ho
def WB {α:Type} (p:α→Prop) (x:Option α):Prop:=∀ y,x=some y→p y
structure WI (π:Nat→Prop) (dst:Option Nat) (st st':St):Prop where
 slots:∀ s,dst≠some s→st'.s s=st.s s
 rows:sC π st.h st'.h
 nx:st'.nx=st.nx
section
variable {C:Cx} {st:St} {π:Nat→Prop} {dst:Option Nat}
omit [fA] in
theorem oD {α:Type} {p:α→Prop}:WB p none:=fun _ h=>by cases h
omit [fA] in
theorem YH {h':Nat→Option nA} (hk:sC π st.h h') (v:V):WB (WI π dst st) (MA C dst { st with h:=h' } v some):=by
 intro st' h
 cases dst with
 | none=>simp [MA] at h;subst h;exact ⟨fun _ _=>rfl,hk,rfl⟩
 | some d=>
  simp only [MA] at h
  cases hb:Nat.blt d C.nt <;> simp [hb] at h
  subst h
  exact ⟨fun s hs=>vA _ _ _ _ (fun e=>hs (by rw [e])),hk,rfl⟩
omit [fA] in
theorem MP (v:V):WB (WI π dst st) (MA C dst st v some):=YH (sC.refl π st.h) v
omit [fA] in
theorem zcv {h':Nat→Option nA} (hk:sC π st.h h') {i:Nat} (hi:∀ q,q<128→¬ π (i+q)) (c:nD) (v:V):WB (WI π dst st) (rD C dst { st with h:=h' } i c v some):=YH (FH hk i _ (.inl (hi 0 (by omega)))) v
omit [fA] in
theorem zhi {i:Nat} (hi:∀ q,q<128→¬ π (i+q)) (c:nD) (v:V):WB (WI π dst st) (rD C dst st i c v some):=YH (FH (sC.refl π st.h) i _ (.inl (hi 0 (by omega)))) v
omit [fA] in
theorem fK {α:Type} {p:α→Prop} (b:Bool) {x:Option α} (h:b=true→WB p x):WB p (bif b then x else none):=by
 cases b
 ·exact oD
 ·exact h rfl
omit [fA] in
theorem gK {α:Type} {p:α→Prop} (b:Bool) {x:Option α} (h:b=false→WB p x):WB p (bif b then none else x):=by
 cases b
 ·exact h rfl
 ·exact oD
omit [fA] in
theorem dK {α β:Type} {p:β→Prop} (x:Option α) {f:α→Option β} (h:∀ v,x=some v→WB p (f v)):WB p (Option.bind x f):=by
 cases x with
 | none=>exact oD
 | some v=>exact h v rfl
omit [fA] in
theorem DG {α:Type} {p:α→Prop} (b:Bool) {x:Option α} (h:b=true→WB p x):WB p (gd b x none):=by
 cases b
 ·exact oD
 ·exact h rfl
omit [fA] in
theorem zcw {α:Type} {p:α→Prop} (b:Bool) {x:Option α} (h:b=false→WB p x):WB p (gd b none x):=by
 cases b
 ·exact h rfl
 ·exact oD
omit [fA] in
theorem eK {α β:Type} {p:β→Prop} (x:Option α) {f:α→Option β} (h:∀ v,x=some v→WB p (f v)):WB p (IG x f):=by
 cases x with
 | none=>exact oD
 | some v=>exact h v rfl
omit [fA] in
theorem zcu {p:St→Prop} {K:V→Option St} (h:∀ v,WB p (K v)) (ag:Bool) (m:Nat) (cs:List V) (off:Nat):WB p (gE ag m cs off K):=by
 cases ag <;> simp only [gE,XB,CK]
 ·split
  ·exact h _
  ·exact oD
 ·exact DG _ fun _=>h _
omit [fA] in
theorem zcs {p:St→Prop} {K:V→Option St} (h:∀ v,WB p (K v)) (op:BinOp) (x y:V):WB p (bI op x y K):=by
 unfold bI
 split
 ·exact fK _ fun _=>gK _ fun _=>h _
 ·exact fK _ fun _=>gK _ fun _=>h _
 ·exact gK _ fun _=>h _
 ·exact gK _ fun _=>h _
 ·exact fK _ fun _=>h _
 ·split
  ·exact h _
  ·exact oD
omit [fA] in
theorem pV {p:St→Prop} {f:Nat→Option St} (h:∀ k,WB p (f k)) (i:Int):∀ (m k:Nat),WB p (aG f i k m)
 | 0,k=>oD
 | m+1,k=>by
  simp only [aG]
  cases i==(k:Int)
  ·exact pV h i m (k+1)
  ·exact h k
omit [fA] in
theorem zct {p:St→Prop} {K:V→Option St} (h:∀ v,WB p (K v)) (d:TypeDesc) (tk:TypeId→TN→Bool) (hp:Nat→Option nA) (x:V) (lo hi:Option V):WB p (kJ d tk hp x lo hi K):=by
 unfold kJ
 split
 ·exact oD
 split
 case h_2=>exact oD
 refine fK _ fun _=>?_
 split
 ·exact DG _ fun _=>h _
 ·exact h _
 ·split
  ·exact DG _ fun _=>h _
  ·exact oD
 ·exact DG _ fun _=>h _
 ·exact oD
omit [fA] in
theorem zgW:∀ (ks:List ZA) (as:List V) (h:Nat→Option nA) (x:List V × (Nat→Option nA) × List Nat),ks.all ZA.isPlain=true→GB ks as h=some x→x.2.2=[]
 | [],[],h,x,_,ht=>by simp [GB] at ht;subst ht;rfl
 | [],_ :: _,h,x,_,ht=>by simp [GB] at ht
 | .plain :: ks,[],h,x,_,ht=>by simp [GB] at ht
 | .plain :: ks,v :: vs,h,x,hp,ht=>by
  simp only [List.all_cons,Bool.and_eq_true] at hp
  simp only [GB] at ht
  split at ht
  ·cases ht
  split at ht
  ·cases ht
  rename_i hr
  cases ht
  have:=zgW ks vs _ _ hp.2 hr
  exact this
 | .ptr _ :: ks,as,h,x,hp,ht=>by simp [ZA.isPlain] at hp
 | .mv _ :: ks,as,h,x,hp,ht=>by simp [ZA.isPlain] at hp
omit [fA] in
theorem zhf {ci:NB} {rs:List V} {h h':Nat→Option nA} {q:Nat} {row:nA} (hq:rH ci rs h h' q=some row):h q=some row∨h' q=some row:=by
 unfold rH at hq
 cases hp:AI ci rs
 ·rw [hp,cond_false] at hq
  cases hb:ci.pb
  ·rw [hb,cond_false] at hq
   cases hm:aD ci.own 0 rs with
   | none=>rw [hm] at hq;exact .inr hq
   | some m=>
    rw [hm] at hq
    have hq:sH m h h' q=some row:=hq
    unfold sH at hq
    split at hq
    ·rename_i t l c h3 h4
     cases AW:Nat.ble m t.rank
     ·rw [AW,cond_false] at hq;exact .inr (by rw [h4];exact hq)
     ·rw [AW,cond_true] at hq;exact .inl (by rw [h3];exact hq)
    ·exact .inr hq
  ·rw [hb,cond_true] at hq;exact .inr hq
 ·rw [hp,cond_true] at hq;exact .inl hq
omit [fA] in
theorem zhg {ci:NB} {rs:List V} {h h':Nat→Option nA} {q:Nat} {row:nA} (h1:h q=some row) (h2:h' q=some row) (hm:row.m.isOwn=false):rH ci rs h h' q=some row:=by
 unfold rH
 cases AI ci rs
 ·cases ci.pb
  ·simp only [cond_false]
   cases aD ci.own 0 rs with
   | none=>exact h2
   | some m=>
    show sH m h h' q=some row
    unfold sH
    split
    ·rename_i h3 _
     rw [h1] at h3;cases h3;cases hm
    ·exact h2
  ·exact h2
 ·exact h1
omit [fA] in
theorem zhh {i:Nat} (hi:∀ q,q<128→¬ π (i+q)) (f:Nat) (as:List V):WB (WI π dst st) (KG C i dst st f as some):=by
 unfold KG
 split
 ·exact oD
 rename_i ci _
 split
 ·split
  ·exact oD
  rename_i as' h' bs v1
  refine eK _ fun x _=>dK _ fun r _=>DG _ fun QV=>YH ?_ _
  simp only [Bool.and_eq_true] at QV
  intro q row hq LV hm
  rw [oJ]
  have ZX:EC ci as' bs i (ci.eR r) q=none:=by
   cases hx:EC ci as' bs i (ci.eR r) q with
   | none=>rfl
   | some y=>
    rcases zeL (Nat.le_of_ble_eq_true QV.1) hx with h1 | h1
    ·have hp:=QV.2
     simp only [AI,Bool.and_eq_true] at hp
     have hb:bs=[]:=zgW ci.ks as _ _ hp.1.2 v1
     rw [hb] at h1;cases h1
    ·exact absurd hq (by have:=hi (q - i) (by omega);rwa [show i+(q - i)=q by omega] at this)
  rw [ZX]
  exact LV
 rename_i as' h' bs v1
 refine eK _ fun x _=>dK _ fun r _=>DG _ fun QV=>YH ?_ _
 obtain ⟨k1,k2⟩:=VU π _ _ _ _ v1
 intro q row hq LV hm
 have QV:=Nat.le_of_ble_eq_true QV
 rw [oJ]
 have ZX:EC ci as' bs i (ci.eR r) q=none:=by
  cases hx:EC ci as' bs i (ci.eR r) q with
  | none=>rfl
  | some y=>
   rcases zeL QV hx with h1 | h1
   ·obtain ⟨row',h2,h3⟩:=k2 q h1
    rw [LV] at h2;cases h2;rw [h3] at hm;cases hm
   ·exact absurd hq (by have:=hi (q - i) (by omega);rwa [show i+(q - i)=q by omega] at this)
 rw [ZX]
 exact zhg LV (k1 q row hq LV hm) hm
omit [fA] in
theorem zgQ {i:Nat} (hi:∀ q,q<128→¬ π (i+q)) (o:Oper):WB (WI π o.dst st) (bB C i o st some):=by
 unfold bB
 repeat' first
  | exact oD
  | exact MP _
  | exact zhi hi _ _
  | exact zhh hi _ _
  | exact YH (vJ _ (za3 ‹_›)) _
  | exact zcv (vJ _ (za3 ‹_›)) hi _ _
  | exact zcv (zfc ‹_›) hi _ _
  | exact YH (FH (sC.refl π st.h) _ _ (.inr ⟨_, ‹_›,rfl⟩)) _
  | exact YH (FH (vJ _ (mN ‹_›)) _ _ (.inr ⟨_, ‹_›,rfl⟩)) _
  | refine zcu (fun _=>?_) _ _ _ _
  | refine zcs (fun _=>?_) _ _ _
  | refine pV (fun _=>?_) _ _ _
  | refine zct (fun _=>?_) _ _ _ _ _ _
  | refine fK _ (fun _=>?_)
  | refine gK _ (fun _=>?_)
  | refine DG _ (fun _=>?_)
  | refine zcw _ (fun _=>?_)
  | refine eK _ (fun _ _=>?_)
  | refine dK _ (fun _ _=>?_)
  | split
end
abbrev YB (n:Nat) (h h':Nat→Option nA):Prop:=sC (fun r=>r<n) h h'
omit [fA] in
theorem YB.refl (n:Nat) (h:Nat→Option nA):YB n h h:=sC.refl _ h
omit [fA] in
theorem YB.trans {n:Nat} {a b c:Nat→Option nA} (h:YB n a b) (k:YB n b c):YB n a c:=sC.trans h k
omit [fA] in
theorem YB.le {n m:Nat} {a b:Nat→Option nA} (h:YB n a b) (hm:m≤n):YB m a b:=fun r row hr=>h r row (by have:r<m:=hr;show r<n;omega)
omit [fA] in
theorem zgP {C:Cx} {st:St} {n:Nat} {i:Nat} (hi:n≤i) (o:Oper):WB (WI (fun r=>r<n) o.dst st) (bB C i o st some):=zgQ (fun q _ h=>by omega) o
end Go.D

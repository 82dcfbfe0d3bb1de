/-
  One operation, continued: conversions, closures, what is made.
-/
import Derived.Test.YtinolgjddfjojaaGreatL3
import Derived.Laws.IdiomStrings
import Derived.Laws.BytesArg
import Derived.Laws.MakeOwn
namespace Go.D
theorem sz_le (t:TN):sz t≤128:=by cases t <;> simp [sz]
section
variable {C:Cx} {w0:World} {outer own:Nat→Prop} {ρ:Nat→Option RI} {st st':St} {a:Act} {w:World} {h:Nat→Option Row}
theorem partsFrom_ok:∀ (parts:List (Nat × Operand)) (k:Nat) (vs:List V),partsFrom st.s k parts=some vs→vs.length=parts.length∧
    ∀ j (hj:j<parts.length),(parts[j]).1=k+j∧∃ (h:j<vs.length),vs[j]=opd st.s (parts[j]).2
  | [],k,vs,h=>by simp [partsFrom] at h;subst h;exact ⟨rfl,fun j hj=>by simp at hj⟩
  | (j,x) :: r,k,vs,h=>by
    simp only [partsFrom] at h
    cases hb:Nat.beq k j
    case false=>simp [hb] at h
    have hkj:=Nat.eq_of_beq_eq_true hb
    simp only [hb,cond_true] at h
    split at h
    · cases h
    rename_i vs' hv
    cases h
    obtain ⟨h1,h2⟩:=partsFrom_ok r (k+1) vs' hv
    refine ⟨by simp [h1],fun q hq=>?_⟩
    cases q with
    | zero=>exact ⟨by simp [hkj],by simp,rfl⟩
    | succ q=>
      obtain ⟨h3,h4,h5⟩:=h2 q (by simpa using hq)
      refine ⟨by simp [h3];omega,by simp;omega,?_⟩
      simpa using h5
theorem fold_set (off:Nat):∀ (l:List (Value × Nat)) (k:Nat) (cs:Array Value),(∀ j (hj:j<l.length),(l[j]).2=k+j)→
    (l.foldl (fun cs (c,j)=>cs.setIfInBounds (off+j) c) cs).size=cs.size∧
    ∀ p,p<cs.size→(l.foldl (fun cs (c,j)=>cs.setIfInBounds (off+j) c) cs).getD p undef=if h:off+k≤p∧p<off+k+l.length then (l[p - (off+k)]'(by omega)).1 else cs.getD p undef
  | [],k,cs,_=>⟨rfl,fun p hp=>by simp;omega⟩
  | (c,j) :: l,k,cs,hl=>by
    have hj:j=k:=hl 0 (by simp)
    subst hj
    obtain ⟨h1,h2⟩:=fold_set off l (j+1) (cs.setIfInBounds (off+j) c) (fun q hq=>by have:=hl (q+1) (by simp;omega);simp at this;omega)
    refine ⟨by simp only [List.foldl_cons];rw [h1];simp,fun p hp=>?_⟩
    simp only [List.foldl_cons]
    rw [h2 p (by simpa using hp)]
    by_cases hin:off+(j+1)≤p∧p<off+(j+1)+l.length
    · rw [dif_pos hin,dif_pos ⟨by omega,by simp;omega⟩]
      have:p - (off+j)=p - (off+(j+1))+1:=by omega
      simp [this]
    · rw [dif_neg hin]
      by_cases he:p=off+j
      · subst he
        rw [dif_pos ⟨Nat.le_refl _,by simp⟩]
        rw [Array.getD_eq_getD_getElem?,Array.getElem?_setIfInBounds]
        simp [hp]
      · rw [dif_neg (by simp;omega)]
        rw [Array.getD_eq_getD_getElem?,Array.getElem?_setIfInBounds,if_neg (by omega),Array.getD_eq_getD_getElem?]
theorem fill_cells (v:Value) (off:Nat) (cs:Array Value):(v.cells.zipIdx.foldl (fun cs (c,j)=>cs.setIfInBounds (off+j) c) cs).size=cs.size∧
    ∀ p,p<cs.size→(v.cells.zipIdx.foldl (fun cs (c,j)=>cs.setIfInBounds (off+j) c) cs).getD p undef=if off≤p∧p<off+v.cells.size then v.cells.getD (p - off) undef else cs.getD p undef:=by
  rw [← Array.foldl_toList]
  obtain ⟨h1,h2⟩:=fold_set off v.cells.zipIdx.toList 0 cs (fun j hj=>by simp)
  refine ⟨h1,fun p hp=>?_⟩
  rw [h2 p hp]
  by_cases hin:off≤p∧p<off+v.cells.size
  · rw [if_pos hin,dif_pos (by simpa using hin)]
    rw [Array.getD_eq_getD_getElem?,Array.getElem?_eq_getElem (by omega)]
    simp
  · rw [if_neg hin,dif_neg (by simpa using hin)]
theorem fill_seq (size:Nat):∀ (parts:List (Nat × Value)) (k:Nat) (cs:Array Value),(∀ j (hj:j<parts.length),(parts[j]).1=k+j∧(parts[j]).2.cells.size=size)→
    (k+parts.length) *size≤cs.size→∃ cs',Instr.fill (fun i=>some (i *size,size)) cs parts=some cs'∧cs'.size=cs.size∧
      (∀ j (hj:j<parts.length) q,q<size→cs'.getD ((k+j) *size+q) undef=(parts[j]).2.cells.getD q undef)∧∀ p,p<k *size→cs'.getD p undef=cs.getD p undef
  | [],k,cs,_,_=>⟨cs,rfl,rfl,fun j hj=>by simp at hj,fun _ _=>rfl⟩
  | (i,v) :: r,k,cs,hp,hs=>by
    obtain ⟨h1,h2⟩:=hp 0 (by simp)
    simp only [List.getElem_cons_zero,Nat.add_zero] at h1 h2
    subst h1
    simp only [List.length_cons] at hs
    have hs2:(i+1+r.length) *size=i *size+size+r.length *size:=by rw [Nat.add_mul,Nat.add_mul,Nat.one_mul]
    have hs3:(i+(r.length+1)) *size=i *size+size+r.length *size:=by rw [Nat.add_mul,Nat.add_mul,Nat.one_mul];omega
    obtain ⟨h3,h4⟩:=fill_cells v (i *size) cs
    obtain ⟨cs',h5,h6,h7,h8⟩:=fill_seq size r (i+1) _ (fun j hj=>by have:=hp (j+1) (by simp;omega);simpa [Nat.add_assoc,Nat.add_comm 1 j] using this) (by rw [h3];omega)
    have hsz:∀ j,j<r.length→(i+1+j) *size≥i *size+size:=fun j _=>by rw [Nat.add_mul,Nat.add_mul,Nat.one_mul];omega
    refine ⟨cs',?_,by rw [h6,h3],fun j hj q hq=>?_,fun p hp'=>?_⟩
    · simp only [Instr.fill]
      rw [if_neg]
      · exact h5
      · simp [h2];omega
    · cases j with
      | zero=>
        rw [Nat.add_zero,h8 _ (by rw [Nat.add_mul,Nat.one_mul];omega),h4 _ (by omega),if_pos ⟨by omega,by omega⟩]
        simp
      | succ j=>
        have:=h7 j (by simpa using hj) q hq
        rw [show i+(j+1)=i+1+j by omega,this];simp
    · rw [h8 p (by rw [Nat.add_mul,Nat.one_mul];omega),h4 p (by omega),if_neg (by omega)]
theorem decAll_ok (t:TN):∀ (css:List (List V)) (l:List (El t)),decAll t css=some l→l.length=css.length∧∀ j (hj:j<css.length) (hj':j<l.length),Subs css[j] (enc t l[j])
  | [],l,h=>by simp [decAll] at h;subst h;exact ⟨rfl,fun j hj=>by simp at hj⟩
  | cs :: css,l,h=>by
    simp only [decAll] at h
    split at h
    · cases h
    rename_i x hx
    split at h
    · cases h
    rename_i l' hl
    cases h
    obtain ⟨h1,h2⟩:=decAll_ok t css l' hl
    refine ⟨by simp [h1],fun j hj hj'=>?_⟩
    cases j with
    | zero=>exact dec_sub t hx
    | succ j=>simpa using h2 j (by simpa using hj) (by simpa using hj')
variable {o:Oper} {i:Nat} (hr:Rel C w0 outer own ρ st a w)
include hr
theorem captured_ok (xs:List Operand):∀ j (hj:j<(xs.map (opd st.s)).length),VR w ρ (Bad outer ρ st.h) ((xs.map a.eval).getD j undef) (xs.map (opd st.s))[j]:=fun j hj=>by
  have hj':j<xs.length:=by simpa using hj
  rw [List.getD_eq_getElem?_getD,List.getElem?_map,List.getElem?_eq_getElem hj',List.getElem_map]
  exact hr.opd xs[j]
theorem ok_makeFunc (f:Nat) (first captured:Array Operand) (ho:o.op= .makeFunc (.func f) first captured) (hk:stepK C i o st some=some st'):Does C.P o a w (After C w0 outer own i ρ st'):=by
  simp only [stepK,ho] at hk
  cases he:first.isEmpty
  case false=>simp [he] at hk
  simp only [he,gd_true] at hk
  split at hk
  case h_2=>cases hk
  rename_i cs ids hfz
  have he:first= #[]:=by simpa using he
  subst he
  obtain ⟨h1,h2⟩:=hr.heap.mark ids
  obtain ⟨h3,h4⟩:=frzArgs_ok hr.heap (captured_ok hr captured.toList) hfz
  have hr1:Rel C w0 outer own ρ { st with h:=markRo st.h ids } a w:=hr.turn h1 h2
  refine does_value (v:= .func (.func f) #[] (captured.map a.eval)) (w':=w) (by simp [execOp,ho,Instr.makeFunc]) (hr1.after (.fn f cs _ (by simp [h3]) fun j hj=>?_) hk)
  have:=(h4 j hj).1
  rw [Array.getD_eq_getD_getElem?]
  rw [List.getD_eq_getElem?_getD] at this
  simpa using this
theorem ok_buildSlice (hC:TnOk C) (t:TypeId) (len:Nat) (parts:Array (Nat × Operand)) (ho:o.op= .buildSlice t len parts) (hi:ρ i=none) (hk:stepK C i o st some=some st'):
    Does C.P o a w (After C w0 outer own i ρ st'):=by
  simp only [stepK,ho] at hk
  split at hk
  · cases hk
  rename_i tn htn
  obtain ⟨e,he,hte⟩:=Option.bind_eq_some_iff.1 htn
  have hu:C.P.underlying t=some (.slice e):=by
    unfold elemT at he
    split at he
    · rename_i h1;cases he;exact h1
    · cases he
  obtain ⟨info,z,hi1,hi2,hi3,hi4,hi5⟩:=hC.ok e tn hte
  split at hk
  · cases hk
  rename_i vs hparts
  cases hb:(Nat.beq vs.length len&&Nat.ble len 1000)
  case false=>simp [hb] at hk
  simp only [hb,gd_true] at hk
  simp only [Bool.and_eq_true] at hb
  have hlen:=Nat.eq_of_beq_eq_true hb.1
  have hle:=Nat.le_of_ble_eq_true hb.2
  split at hk
  · cases hk
  rename_i vs' ids hfz
  obtain ⟨l,hl,hk⟩:=Option.bind_eq_some_iff.1 ((bnd_eq _ _).symm.trans hk)
  obtain ⟨hp1,hp2⟩:=partsFrom_ok parts.toList 0 vs hparts
  have hpl:parts.toList.length=len:=by omega
  have hps:parts.size=len:=by rw [← Array.length_toList];exact hpl
  have hvs:∀ j (hj:j<vs.length),VR w ρ (Bad outer ρ st.h) (a.eval ((parts.toList.map (·.2)).getD j (.const undef))) vs[j]:=fun j hj=>by
    obtain ⟨_,h4,h5⟩:=hp2 j (by omega)
    rw [h5,List.getD_eq_getElem?_getD,List.getElem?_map,List.getElem?_eq_getElem (by omega)]
    exact hr.opd _
  obtain ⟨h1,h2⟩:=hr.heap.mark ids
  obtain ⟨h3,h4⟩:=frzArgs_ok hr.heap hvs hfz
  obtain ⟨h5,h6⟩:=decAll_ok tn _ l hl
  have hr1:Rel C w0 outer own ρ { st with h:=markRo st.h ids } a w:=hr.turn h1 h2
  -- the cells
  let pv:List (Nat × Value):=parts.toList.map fun p=>(p.1,a.eval p.2)
  have hpvl:pv.length=len:=by simp [pv];omega
  have hll:l.length=len:=by rw [h5,List.length_map];omega
  have hpv:∀ j (hj:j<pv.length),(pv[j]).1=0+j∧(pv[j]).2.cells.size=sz tn∧∀ q,q<sz tn→∃ (hj':j<l.length),VR w ρ (Bad outer ρ (markRo st.h ids)) ((pv[j]).2.cells.getD q undef) ((enc tn l[j]).getD q .undef):=fun j hj=>by
    have hjv:j<vs'.length:=by omega
    have hjl:j<l.length:=by omega
    obtain ⟨e1,e2,e3⟩:=hp2 j (by omega)
    obtain ⟨g1,g2⟩:=h4 j hjv
    have hval:(parts.toList.map (·.2)).getD j (.const undef)=(parts.toList[j]'(by omega)).2:=by
      rw [List.getD_eq_getElem?_getD,List.getElem?_map,List.getElem?_eq_getElem (by omega)];rfl
    rw [hval] at g1
    have hsub:=h6 j (by simpa using hjv) hjl
    rw [List.getElem_map] at hsub
    have hcl:(cellsOf vs'[j]).length=sz tn:=by rw [hsub.len,enc_length]
    have hpj:pv[j]=((parts.toList[j]'(by omega)).1,a.eval (parts.toList[j]'(by omega)).2):=by simp [pv]
    rw [hpj]
    have hleaf:leafs (cellsOf vs'[j])=true:=by
      rw [leafs,List.all_eq_true]
      intro c hc
      obtain ⟨q,hq,rfl⟩:=List.mem_iff_getElem.1 hc
      have hs:=hsub.get q hq (by rw [← hsub.len];exact hq)
      have hel:=enc_getD_leaf tn l[j] q (by omega)
      rw [getD_lt _ _ _ (by rw [enc_length];omega)] at hel
      generalize (cellsOf vs'[j])[q]=c at hs
      generalize (enc tn l[j])[q]'_=d at hs hel
      cases hs <;> first | exact hel | rfl
    obtain ⟨f1,f2,f3⟩:=vr_cells g1 hleaf
    refine ⟨e1,by rw [f1,hcl],fun q hq=>⟨hjl,?_⟩⟩
    have:=VR.sub (hsub.get q (by omega) (by rw [enc_length];exact hq)) (f2 q (by omega))
    rwa [getD_lt _ _ _ (by rw [enc_length];exact hq)]
  obtain ⟨cs',c1,c2,c3,_⟩:=fill_seq (sz tn) pv 0 ((Array.range (len *sz tn)).map (fun k=>(if len *sz tn=0 then (#[]:Array Value) else z.cells)[k % (if len *sz tn=0 then (#[]:Array Value) else z.cells).size]!))
    (fun j hj=>⟨(hpv j hj).1,(hpv j hj).2.1⟩) (by simp [hpvl])
  have hcsz:cs'.size=len *sz tn:=by rw [c2];simp
  have hbig:¬ (2^24<len *sz tn):=by
    have h1:=sz_le tn
    have:len *sz tn≤1000 *128:=Nat.mul_le_mul hle h1
    omega
  have hrun:(execOp a.eval o).run C.P w= .ok (.value (.slice (some ⟨w.heap.size,0,none⟩) len len)) (w.alloc (.cells cs' e)):=by
    have hpm:(parts.map fun x=>(x.1,a.eval x.2)).toList=pv:=by simp [pv]
    simp only [execOp,ho,Instr.buildSlice,Sem.run_bind,run_underlyingC hu,Result.andThen_ok,sizeOf,typeInfo,run_program,hi1,Sem.run_pure,hi2,gt_iff_lt,hbig,if_false]
    by_cases h0:len *sz tn=0
    · simp only [h0,if_true] at c1 ⊢
      simp only [Sem.run_bind,Sem.run_pure,Result.andThen_ok,hpm,c1]
      rfl
    · simp only [h0,if_false] at c1 ⊢
      simp only [Sem.run_bind,Sem.run_pure,Result.andThen_ok,zeroValue,typeInfo,run_program,hi1,hi4,hpm,c1]
      rfl
  refine does_value hrun (hr1.newRow hi ⟨w.heap.size,len,len,false⟩ (fun _=>rfl) _ (wx_alloc _ _) (fun b hb=>heap_alloc_lt _ _ _ hb) (fun _=>by simp) (c:= .arr tn l) (fun bad hk2=>?_) (fun bad=>?_) hk)
  · refine ⟨hll.symm, .inr ⟨rfl,Nat.le_refl _,by unfold maxLen;simp;omega,fun j hj=>⟨World.frozen?_alloc_new _ _ _ _,?_⟩,fun i' hi' j hj=>?_⟩⟩
    · have hj':j<len *sz tn:=hj
      rw [cell?_new w cs' e j (by omega)];rfl
    · have hip:i'<pv.length:=by omega
      have hlt:i' *sz tn+j<cs'.size:=by
        rw [hcsz]
        have:(i'+1) *sz tn≤len *sz tn:=Nat.mul_le_mul_right _ (by omega)
        rw [Nat.add_mul,Nat.one_mul] at this;omega
      obtain ⟨_,_,g3⟩:=hpv i' hip
      obtain ⟨_,g4⟩:=g3 j hj
      refine ⟨_,cell?_new w cs' e _ hlt,?_⟩
      have:=c3 i' hip j hj
      rw [Nat.zero_add] at this
      rw [this]
      exact hk2 _ _ g4
  · exact .ow i ⟨w.heap.size,len,len,false⟩ (upd_same _ _ _) (Nat.le_refl _) (by unfold maxLen;simp;omega) rfl
end
end Go.D
namespace Go.D
section
variable {C:Cx} {w0:World} {outer own:Nat→Prop} {ρ:Nat→Option RI} {st st':St} {a:Act} {w:World}
theorem fillAll_ok (hr:Rel C w0 outer own ρ st a w) (pl:List (Nat × Nat)):∀ (parts:List (Nat × Operand)) (cs cs':List V) (vs:Array Value),
    fillAll pl st.s cs parts=some cs'→vs.size=cs.length→(∀ j (hj:j<cs.length),VR w ρ (Bad outer ρ st.h) (vs.getD j undef) cs[j])→
    ∃ vs',Instr.fill (fun i=>pl[i]?) vs (parts.map fun p=>(p.1,a.eval p.2))=some vs'∧vs'.size=cs'.length∧∀ j (hj:j<cs'.length),VR w ρ (Bad outer ρ st.h) (vs'.getD j undef) cs'[j]
  | [],cs,cs',vs,hf,hs,hv=>by simp [fillAll] at hf;subst hf;exact ⟨vs,rfl,hs,hv⟩
  | (f,x) :: r,cs,cs',vs,hf,hs,hv=>by
    simp only [fillAll] at hf
    split at hf
    · cases hf
    rename_i off n hp
    cases hb:(Nat.beq n (cellsOf (opd st.s x)).length&&leafs (cellsOf (opd st.s x))&&Nat.ble (off+n) cs.length)
    case false=>simp [hb] at hf
    simp only [hb,cond_true] at hf
    simp only [Bool.and_eq_true] at hb
    obtain ⟨⟨hb1,hb2⟩,hb3⟩:=hb
    have hn:=Nat.eq_of_beq_eq_true hb1
    have hle:=Nat.le_of_ble_eq_true hb3
    obtain ⟨g1,g2,_⟩:=vr_cells (hr.opd x) hb2
    obtain ⟨k1,k2⟩:=fill_cells (a.eval x) off vs
    obtain ⟨s1,s2⟩:=splice_get cs off (cellsOf (opd st.s x)) (by omega)
    obtain ⟨vs',h1,h2,h3⟩:=fillAll_ok hr pl r _ cs' _ hf (by rw [k1,s1,hs]) (fun j hj=>by
      rw [s2 j (by omega) hj,k2 j (by omega)]
      by_cases hin:off≤j∧j<off+(cellsOf (opd st.s x)).length
      · rw [dif_pos hin,if_pos (by omega)];exact g2 _ (by omega)
      · rw [dif_neg hin,if_neg (by omega)];exact hv j (by omega))
    refine ⟨vs',?_,h2,h3⟩
    simp only [List.map_cons,Instr.fill,hp]
    rw [if_neg]
    · exact h1
    · simp;omega
theorem fill_mono {f g:Nat→Option (Nat × Nat)} (hfg:∀ k p,f k=some p→g k=some p):∀ (cs:Array Value) (l:List (Nat × Value)) (r:Array Value),Instr.fill f cs l=some r→Instr.fill g cs l=some r
  | cs,[],r,h=>h
  | cs,(i,v) :: l,r,h=>by
    simp only [Instr.fill] at h ⊢
    cases hf:f i with
    | none=>rw [hf] at h;cases h
    | some p=>
      obtain ⟨off,n⟩:=p
      rw [hf] at h
      rw [hfg i _ hf]
      simp only at h ⊢
      split at h
      · cases h
      · rename_i hc
        rw [if_neg hc]
        exact fill_mono hfg _ l r h
variable {o:Oper} {i:Nat} (hr:Rel C w0 outer own ρ st a w)
include hr
theorem ok_build (t:TypeId) (parts:Array (Nat × Operand)) (ho:o.op= .build t parts) (hk:stepK C i o st some=some st'):Does C.P o a w (After C w0 outer own i ρ st'):=by
  simp only [stepK,ho] at hk
  split at hk
  case h_2=>cases hk
  rename_i cs pl hz hpl
  obtain ⟨cs',hf,hk2⟩:=Option.bind_eq_some_iff.1 ((bnd_eq _ _).symm.trans hk)
  unfold zeroCells at hz
  split at hz
  case h_2=>cases hz
  rename_i z hz'
  cases hb:leafs (z.cells.toList.map litV) <;> simp [hb] at hz
  subst hz
  obtain ⟨info,hi1,hi2⟩:=Option.bind_eq_some_iff.1 hz'
  obtain ⟨vs',h1,h2,h3⟩:=fillAll_ok hr pl parts.toList _ cs' z.cells hf (by simp) (fun j hj=>by
    rw [List.getElem_map]
    have hj':j<z.cells.size:=by simpa using hj
    rw [Array.getD_eq_getD_getElem?,Array.getElem?_eq_getElem hj']
    exact litV_ok _)
  have hbuilt:C.P.built t (parts.map fun (i,x)=>(i,a.eval x)).toList=some vs':=by
    unfold placesT at hpl
    split at hpl
    · rename_i fs hu
      simp only [Program.built,hi1,hu,hi2,hpl,Array.toList_map]
      simpa using h1
    · rename_i n e hu
      split at hpl
      case h_2=>cases hpl
      rename_i ie hie
      cases hb:Nat.ble n 128 <;> simp [hb] at hpl
      subst hpl
      simp only [Program.built,hi1,hu,hi2,hie,Array.toList_map]
      refine fill_mono (fun k p hp=>?_) _ _ _ h1
      simp only [List.getElem?_map] at hp
      cases hk:(List.range n)[k]? with
      | none=>simp [hk] at hp
      | some y=>
        simp [hk] at hp
        have:y=k:=by
          obtain ⟨hlt,hy⟩:=List.getElem?_eq_some_iff.1 hk
          simpa using hy.symm
        subst this;rw [← hp]
    · cases hpl
  refine does_value (v:= .agg vs') (w':=w) ?_ (hr.after (.agg cs' vs' h2 h3) hk2)
  simp only [execOp,ho,Sem.run_bind,run_build w t _ vs' hbuilt,Result.andThen_ok]
  rfl
theorem ok_makeSlice (hC:TnOk C) (t:TypeId) (x y:Operand) (ho:o.op= .makeSlice t x y) (hi:ρ i=none) (hk:stepK C i o st some=some st'):Does C.P o a w (After C w0 outer own i ρ st'):=by
  simp only [stepK,ho] at hk
  split at hk
  case h_2=>cases hk
  rename_i tn z htn hz
  obtain ⟨e,he,hte⟩:=Option.bind_eq_some_iff.1 htn
  have hu:C.P.underlying t=some (.slice e):=by
    unfold elemT at he
    split at he
    · rename_i h1;cases he;exact h1
    · cases he
  obtain ⟨info,z',hi1,hi2,hi3,hi4,hi5⟩:=hC.ok e tn hte
  rw [he,Option.bind_some] at hz
  unfold zeroCells at hz
  rw [hi1,Option.bind_some,hi4] at hz
  simp only at hz
  cases hb:leafs (z'.cells.toList.map litV) <;> simp [hb] at hz
  subst hz
  split at hk
  case h_2=>cases hk
  rename_i n c hn hc
  cases hcond:(decide (0≤n)&&decide (n≤(LIM:Int))&&(n==c))
  case false=>simp [hcond] at hk
  simp only [hcond,cond_true] at hk
  simp only [Bool.and_eq_true,decide_eq_true_eq,beq_iff_eq] at hcond
  obtain ⟨⟨h0,hlim⟩,rfl⟩:=hcond
  obtain ⟨x0,hx0,hk⟩:=Option.bind_eq_some_iff.1 ((bnd_eq _ _).symm.trans hk)
  have hx:=hr.opd x;rw [hn] at hx
  have hy:=hr.opd y;rw [hc] at hy
  generalize hvx:a.eval x=vx at hx
  generalize hvy:a.eval y=vy at hy
  cases hx;cases hy
  have hrun:=run_make (P:=C.P) w t e info z' hu hi1 hi4 .i64 .i64 n n h0 (Int.le_refl _) (by
    have h1:info.bytes *n≤1024 *n:=Int.mul_le_mul_of_nonneg_right (by omega) h0
    unfold LIM at hlim;omega) (by unfold LIM at hlim;omega)
  have hrun2:(execOp a.eval o).run C.P w= .ok (.value (.slice (some ⟨w.heap.size,0,none⟩) n.toNat n.toNat)) (w.alloc (.cells (madeCells z'.cells (n.toNat *info.size)) e)):=by
    simp only [execOp,ho,hvx,hvy,Sem.run_bind,hrun,Result.andThen_ok];rfl
  have hnm:n.toNat≤maxLen:=by unfold maxLen;unfold LIM at hlim;omega
  have hsz:(madeCells z'.cells (n.toNat *info.size)).size=n.toNat *sz tn:=by rw [size_madeCells,hi2]
  refine does_value hrun2 (hr.newRow hi ⟨w.heap.size,n.toNat,n.toNat,false⟩ (fun _=>rfl) _ (wx_alloc _ _) (fun b hb=>heap_alloc_lt _ _ _ hb) (fun _=>by simp) (c:= .arr tn (List.replicate n.toNat x0)) (fun bad hk2=>?_) (fun bad=>?_) hk)
  · refine ⟨by simp, .inr ⟨rfl,Nat.le_refl _,hnm,fun j hj=>⟨World.frozen?_alloc_new _ _ _ _,?_⟩,fun i' hi' j hj=>?_⟩⟩
    · have hj':j<n.toNat *sz tn:=hj
      rw [cell?_new w _ e j (by omega)];rfl
    · have hin:i'<n.toNat:=by simpa using hi'
      have hlt:i' *sz tn+j<(madeCells z'.cells (n.toNat *info.size)).size:=by
        rw [hsz]
        have:(i'+1) *sz tn≤n.toNat *sz tn:=Nat.mul_le_mul_right _ hin
        rw [Nat.add_mul,Nat.one_mul] at this;omega
      refine ⟨_,cell?_new w _ e _ hlt,?_⟩
      have hj2:j<z'.cells.size:=by omega
      have hval:(madeCells z'.cells (n.toNat *info.size)).getD (i' *sz tn+j) undef=z'.cells.getD j undef:=by
        rw [Array.getD_eq_getD_getElem?,Array.getElem?_eq_getElem hlt,Array.getD_eq_getD_getElem?,Array.getElem?_eq_getElem hj2]
        simp only [madeCells,Array.getElem_map,Array.getElem_range,Option.getD_some]
        have hmod:(i' *sz tn+j) % z'.cells.size=j:=by
          rw [hi5,Nat.add_comm,Nat.mul_comm,Nat.add_mul_mod_self_left,Nat.mod_eq_of_lt hj]
        rw [hmod,getElem!_pos z'.cells j hj2]
      rw [hval,List.getElem_replicate]
      have hs:=dec_sub tn hx0
      have hs2:=hs.get j (by simpa using hj2) (by rw [enc_length];exact hj)
      rw [getD_lt _ _ _ (by rw [enc_length];exact hj)]
      refine hk2 _ _ (VR.sub hs2 ?_)
      rw [List.getElem_map,Array.getD_eq_getD_getElem?,Array.getElem?_eq_getElem hj2]
      simpa using litV_ok z'.cells[j]
  · exact .ow i ⟨w.heap.size,n.toNat,n.toNat,false⟩ (upd_same _ _ _) (Nat.le_refl _) hnm rfl
theorem ok_convert (hC:TnOk C) (src d:TypeId) (x:Operand) (ho:o.op= .convert src d x) (hi:ρ i=none) (hk:stepK C i o st some=some st'):Does C.P o a w (After C w0 outer own i ρ st'):=by
  simp only [stepK,ho] at hk
  have hx:=hr.opd x
  have hexec:∀ v w',(convert src d (a.eval x)).run C.P w= .ok v w'→(execOp a.eval o).run C.P w= .ok (.value v) w':=fun v w' h1=>by
    simp [execOp,ho,h1]
  split at hk
  · rename_i k0 k k1 n h1 h2 h3
    rw [h3] at hx
    generalize hv:a.eval x=v at hx hexec
    cases hx
    refine does_value (hexec (.int k (k.wrap n)) w ?_) (hr.after (.int _ _ (wrap_fits _ _)) hk)
    simp [convert,run_underlying h1,run_underlying h2,Conv.intToInt]
  · rename_i e s h1 h2 h3
    split at hk
    case h_2=>cases hk
    rename_i h4 h5
    rw [h3] at hx
    cases hlim:Nat.ble s.length LIM
    case false=>simp [hlim] at hk
    simp only [hlim,cond_true] at hk
    have hlim:=Nat.le_of_ble_eq_true hlim
    generalize hv:a.eval x=v at hx hexec
    cases hx with
    | str _ hs=>
    obtain ⟨info,z,hi1,hi2,hi3,hi4,hi5⟩:=hC.ok e .byte h4
    have hrun:=run_bytes_of_string (P:=C.P) w src d e ⟨s.toArray⟩ h1 h2 h5
    have hss:(ByteArray.mk s.toArray).size=s.length:=by simp [ByteArray.size]
    rw [hss] at hrun
    have hge:=grownCap_ge w s.length 0 e
    have hcm:grownCap w s.length 0 e≤maxLen:=grownCap_le_maxLen w s.length 0 e hs
    generalize hcap:grownCap w s.length 0 e=cap at hrun hge hcm
    have hbs:(bytesRow ⟨s.toArray⟩ cap).size=cap:=by simp [bytesRow,hss];omega
    refine does_value (hexec _ _ hrun) (hr.newRow hi ⟨w.heap.size,s.length,cap,false⟩ (fun _=>rfl) _ (Wx.trans (wx_drew w) (wx_alloc _ _))
      (fun b hb=>heap_alloc_lt w.drew _ b hb) (fun _=>by simp) (c:= .arr .byte s) (fun bad hk2=>?_) (fun bad=>?_) hk)
    · have hcell:∀ j,j<cap→(w.drew.alloc (.cells (bytesRow ⟨s.toArray⟩ cap) e ((bytesRow ⟨s.toArray⟩ cap).size,(bytesRow ⟨s.toArray⟩ cap).size+1))).cell? (at_ w.heap.size j)=(bytesRow ⟨s.toArray⟩ cap)[j]?:=fun j hj=>by
        have hh:(w.drew.alloc (.cells (bytesRow ⟨s.toArray⟩ cap) e ((bytesRow ⟨s.toArray⟩ cap).size,(bytesRow ⟨s.toArray⟩ cap).size+1))).heap[w.heap.size]?=some (.cells (bytesRow ⟨s.toArray⟩ cap) e ((bytesRow ⟨s.toArray⟩ cap).size,(bytesRow ⟨s.toArray⟩ cap).size+1)):=by
          show (w.heap.push _)[w.heap.size]?=_
          simp
        unfold World.cell? at_
        rw [hh]
        rfl
      refine ⟨rfl, .inr ⟨rfl,hge,hcm,fun j hj=>?_,fun i' hi' j hj=>?_⟩⟩
      · have hj':j<cap:=by simpa [sz] using hj
        refine ⟨?_,?_⟩
        · have:=World.frozen?_alloc_mark w.drew (bytesRow ⟨s.toArray⟩ cap) e (bytesRow ⟨s.toArray⟩ cap).size ((bytesRow ⟨s.toArray⟩ cap).size+1) j
          rw [World.size_drew] at this
          show World.frozen? _ ⟨w.heap.size,j,none⟩=false
          rw [this,hbs];simp;omega
        · rw [hcell j hj',Array.getElem?_eq_getElem (by omega)];rfl
      · have hj0:j=0:=by simp [sz] at hj;exact hj
        subst hj0
        have hil:i'<s.length:=hi'
        refine ⟨.int .u8 (s[i'].toNat:Int),?_,?_⟩
        · simp only [sz,Nat.mul_one,Nat.add_zero]
          rw [hcell i' (by omega),bytesRow_at _ _ _ (by simpa using hil)]
          simp
        · have:=s[i'].toNat_lt
          exact .int _ _ ⟨by simp [IntKind.min,IntKind.signed],by simp [IntKind.max,IntKind.signed,IntKind.bits];omega⟩
    · exact .ow i ⟨w.heap.size,s.length,cap,false⟩ (upd_same _ _ _) hge hcm rfl
  · rename_i e h1 h2
    split at hk
    case h_2=>cases hk
    rename_i l h5 h4
    cases hlim:Nat.ble l.length LIM
    case false=>simp [hlim] at hk
    simp only [hlim,cond_true] at hk
    have hlim:=Nat.le_of_ble_eq_true hlim
    obtain ⟨ao,cap,hv,hcase⟩:=elems_at hr hx h4
    refine does_value (hexec (.string ⟨l.toArray⟩) w ?_) (hr.after (.str l (by unfold LIM at hlim;unfold maxLen;omega)) hk)
    rw [hv]
    have empty:∀ (ao:Option Addr) (c:Nat),(convert src d (.slice ao 0 c)).run C.P w= .ok (.string ⟨#[]⟩) w:=fun ao c=>by
      cases ao with
      | none=>exact run_convert_bytes_nil w src e h1 h5 0 c d h2
      | some ad=>exact run_convert_bytes_back w src d e ad c [] h1 h5 h2 (fun j hj=>by simp at hj)
    rcases hcase with rfl | ⟨b,off,rfl,hc⟩
    · exact empty ao cap
    · refine run_convert_bytes_back w src d e (at_ b off) cap l h1 h5 h2 fun j hj=>?_
      obtain ⟨u,c1,c2⟩:=hc j hj 0 (by simp [sz])
      simp only [sz,Nat.mul_one,Nat.add_zero] at c1
      rw [add_at,c1]
      have:(enc .byte l[j]).getD 0 .undef= .int .u8 (l[j].toNat:Int):=rfl
      rw [this] at c2
      cases c2;rfl
  · rename_i e0 e r h1 h2 h3
    split at hk
    case h_2=>cases hk
    rename_i y l hsd h5 h4
    have hsd:=Nat.eq_of_beq_eq_true hsd
    subst hsd
    have he:e0=e:=by rw [h1] at h2;cases h2;rfl
    subst he
    rw [h3] at hx
    obtain ⟨ri,hρ,hro,hri⟩:=hr.heap.rows r _ h4
    obtain ⟨hlen,hcase⟩:=hro
    generalize hv:a.eval x=v at hx hexec
    cases hx with
    | owN _ ri' ao hr' hn hnl=>
      rw [hρ] at hr';cases hr'
      rw [hn] at hlen;simp at hlen
    | ow _ ri' hr' hn hc hnl=>
    rw [hρ] at hr';cases hr'
    rcases hcase with ⟨hnl',_⟩ | ⟨_,_,_,hcells,hvals⟩
    · rw [hnl] at hnl';cases hnl'
    have hlc:0<ri.cap *sz .byte:=by
      have:0<ri.n:=by rw [hlen];simp
      simp [sz];omega
    obtain ⟨c,elem,lo,hi',hblk⟩:∃ c elem lo hi',w.heap[ri.b]?=some (.cells c elem (lo,hi')):=by
      have:=(hcells 0 hlc).2
      unfold World.cell? at_ at this
      simp only at this
      split at this
      · rename_i c elem fr hb
        exact ⟨c,elem,fr.1,fr.2,hb⟩
      · cases this
    have hheap:(w.freeze ⟨ri.b,c.size,none⟩ 1).heap=w.heap.modify ri.b fun
        | .cells c' elem (lo,hi)=> .cells c' elem (if lo==hi then (c.size,c.size+1) else (min lo c.size,max hi (c.size+1)))
        | o=>o:=by
      unfold World.freeze
      rw [if_neg (by decide)]
      rfl
    generalize hW:w.freeze ⟨ri.b,c.size,none⟩ 1=W at hheap
    have hother:∀ b,b≠ri.b→W.heap[b]?=w.heap[b]?:=fun b hb=>by
      rw [hheap,Array.getElem?_modify,if_neg (Ne.symm hb)]
    have hcell:∀ j,W.cell? (at_ ri.b j)=w.cell? (at_ ri.b j):=fun j=>by
      unfold World.cell? at_
      simp only [hheap,Array.getElem?_modify,hblk,if_true,Option.map_some]
    have hrun:(convert src src (.slice (some (at_ ri.b 0)) ri.n ri.cap)).run C.P w= .ok (.slice (some (at_ ri.b 0)) ri.n ri.cap) W:=by
      have hsh:w.shape? ri.b=some (elem,c.size):=by simp [World.shape?,hblk]
      simp [convert,run_underlying h1,run_underlying h5,markStringish,at_,hsh]
      exact hW
    have hwx:Wx w W:=by
      rw [← hW];unfold World.freeze;rw [if_neg (by decide)]
      exact ⟨rfl,rfl,rfl,by simp⟩
    have hwrite:=hr.heap.write h4 hρ hnl W hwx (by rw [hheap];simp) hother (.box []) (fun _=>⟨hnl,fun j hj=>by simp at hj⟩)
    have hless:=hwrite.1.less (h':=upd st.h r none) (fun q row' hq=>by
      by_cases hqr:q=r
      · subst hqr;rw [upd_same] at hq;cases hq
      · rw [upd_other _ _ _ _ hqr] at hq
        exact ⟨row',by rw [upd_other _ _ _ _ hqr];exact hq,rfl,fun h=>h⟩)
    have hrel:=hr.turn hless.1 (fun u d hu=>hless.2 _ _ (hwrite.2 u d hu))
    have hnb:¬ Bad outer ρ (upd st.h r none) ri.b:=by
      rintro (hb | ⟨q,row,qi,q1,q2,q3,q4,q5⟩)
      · exact (hri hnl).1.1 hb
      · by_cases hqr:q=r
        · subst hqr;rw [upd_same] at q1;cases q1
        · rw [upd_other _ _ _ _ hqr] at q1
          exact hqr (hr.heap.inj q r row _ qi ri q1 h4 q3 hρ q4 hnl q5)
    refine does_value (hexec _ _ hrun) (hrel.after ?_ hk)
    have hn2:ri.n=(y :: l).length:=hlen
    rw [hn2]
    rw [hn2] at hn
    refine .slC .byte (y :: l) ri.b 0 ri.cap (fun i _=> .int .u8 ((((y :: l).getD i 0:UInt8).toNat:Nat):Int)) hnb hn hc (fun i hi j hj=>?_) (fun i hi j hj=>?_)
    · have hj0:j=0:=by simp [sz] at hj;exact hj
      subst hj0
      obtain ⟨u,c1,c2⟩:=hvals i hi 0 (by simp [sz])
      rw [hcell]
      simp only [Nat.zero_add]
      rw [c1]
      have e2:(enc .byte (y :: l)[i]).getD 0 .undef= .int .u8 ((y :: l)[i].toNat:Int):=rfl
      rw [e2] at c2
      cases c2
      have e3:(y :: l).getD i (0:UInt8)=(y :: l)[i]:=by rw [List.getD_eq_getElem?_getD,List.getElem?_eq_getElem hi];rfl
      rw [e3]
    · have hj0:j=0:=by simp [sz] at hj;exact hj
      subst hj0
      have e3:(y :: l).getD i (0:UInt8)=(y :: l)[i]:=by rw [List.getD_eq_getElem?_getD,List.getElem?_eq_getElem hi];rfl
      rw [e3]
      have:=UInt8.toNat_lt (y :: l)[i]
      show VR _ _ _ _ (.int .u8 ((((y :: l)[i]:UInt8).toNat:Nat):Int))
      exact .int _ _ ⟨by simp [IntKind.min,IntKind.signed],by simp [IntKind.max,IntKind.signed,IntKind.bits];omega⟩
  · cases hk
end
end Go.D
namespace Go.D
section
variable {C:Cx} {w0:World} {outer own:Nat→Prop} {ρ:Nat→Option RI} {st st':St} {a:Act} {w:World} {h:Nat→Option Row}
def Out (base N r:Nat):Prop:=¬ (base≤r∧r<base+N)
theorem thawH_or (ow:List Nat) (base:Nat) (h:Nat→Option Row):∀ (es:List V) (p r:Nat),thawH ow base h p es r=match thawH ow base (fun _=>none) p es r with | some x=>some x | none=>h r
  | [],p,r=>rfl
  | e :: es,p,r=>by
    have ih:=thawH_or ow base h es (p+1) r
    cases e <;> simp only [thawH] <;> try exact ih
    cases hb:ow.any (Nat.beq p)
    · simpa using ih
    · simp only [cond_true]
      by_cases hr:r=base+p
      · subst hr;simp [upd_same]
      · simp only [upd_other _ _ _ _ hr];exact ih
theorem thawH_none (ow:List Nat) (base:Nat):∀ (es:List V) (p r:Nat),(r<base+p∨base+p+es.length≤r)→thawH ow base (fun _=>none) p es r=none
  | [],p,r,_=>rfl
  | e :: es,p,r,hr=>by
    have ih:=thawH_none ow base es (p+1) r (by simp at hr;omega)
    cases e <;> simp only [thawH] <;> try exact ih
    cases hb:ow.any (Nat.beq p)
    · simpa using ih
    · simp only [cond_true]
      rw [upd_other _ _ _ _ (by simp at hr;omega)];exact ih
theorem thawL_len (ow:List Nat) (base:Nat):∀ (es:List V) (p:Nat),(thawL ow base p es).length=es.length
  | [],p=>rfl
  | e :: es,p=>by cases e <;> simp [thawL,thawL_len ow base es (p+1)]
def Lies (h g:Nat→Option Row):Prop:=∀ r row,h r=some row→g r=some row
theorem frzLeaf_lies {c:V} {h g:Nat→Option Row} {x:V × List Nat} (hg:Lies h g) (hf:frzLeaf h c=some x):frzLeaf g c=some x∧∀ r ∈ x.2,∃ row,h r=some row:=by
  unfold frzLeaf at hf
  split at hf
  · rename_i r
    split at hf
    · rename_i t l m hr
      refine ⟨by simp only [frzLeaf,hg _ _ hr];exact hf,?_⟩
      cases hm:m.isLock <;> simp [hm] at hf
      subst hf;intro q hq;simp at hq;subst hq;exact ⟨_,hr⟩
    · cases hf
  · rename_i r t off len
    split at hf
    · rename_i t' l m hr
      refine ⟨by simp only [frzLeaf,hg _ _ hr];exact hf,?_⟩
      cases hm:m.isLock
      · simp only [hm,cond_false] at hf
        split at hf
        · simp at hf;subst hf;intro q hq;simp at hq;subst hq;exact ⟨_,hr⟩
        · cases hf
      · simp [hm] at hf
    · cases hf
  · cases hb:noRefN 8 c <;> simp [hb] at hf
    subst hf
    refine ⟨?_,by simp⟩
    unfold frzLeaf
    split
    · simp [noRefN] at hb
    · simp [noRefN] at hb
    · simp [hb]
theorem frzList_lies {h g:Nat→Option Row} (hg:Lies h g):∀ {cs:List V} {x:List V × List Nat},frzList h cs=some x→frzList g cs=some x∧∀ r ∈ x.2,∃ row,h r=some row
  | [],x,hf=>by simp [frzList] at hf;subst hf;simp [frzList]
  | c :: cs,x,hf=>by
    simp only [frzList] at hf
    split at hf
    · cases hf
    rename_i c' i h1
    split at hf
    · cases hf
    rename_i cs' j h2
    cases hf
    obtain ⟨k1,k2⟩:=frzLeaf_lies hg h1
    obtain ⟨k3,k4⟩:=frzList_lies hg h2
    refine ⟨by simp [frzList,k1,k3],fun r hr=>?_⟩
    rcases List.mem_append.1 hr with hr | hr
    · exact k2 r hr
    · exact k4 r hr
theorem frz_lies {c:V} {h g:Nat→Option Row} {x:V × List Nat} (hg:Lies h g) (hf:frz h c=some x):frz g c=some x∧∀ r ∈ x.2,∃ row,h r=some row:=by
  unfold frz at hf
  split at hf
  · split at hf
    · rename_i cs cs' i h1
      cases hf
      obtain ⟨k1,k2⟩:=frzList_lies hg h1
      exact ⟨by simp [frz,k1],k2⟩
    · cases hf
  · rename_i r off
    split at hf
    · rename_i cs m hr
      cases hb:(m.isLock||cs.isEmpty)
      case true=>simp [hb] at hf
      simp only [hb,cond_false] at hf
      split at hf
      · rename_i cs' i h1
        cases hf
        obtain ⟨k1,k2⟩:=frzList_lies hg h1
        refine ⟨by simp [frz,hg _ _ hr,hb,k1],fun q hq=>?_⟩
        rcases List.mem_cons.1 hq with rfl | hq
        · exact ⟨_,hr⟩
        · exact k2 q hq
      · cases hf
    · cases hf
  · rename_i h1 h2
    obtain ⟨k1,k2⟩:=frzLeaf_lies hg hf
    refine ⟨?_,k2⟩
    unfold frz
    split
    · exact absurd rfl (h1 _)
    · exact absurd rfl (h2 _ _)
    · exact k1
theorem lies_mark {h g:Nat→Option Row} (hg:Lies h g) (ids:List Nat):Lies (markRo h ids) (markRo g ids):=by
  intro r row hr
  rw [markRo_get] at hr ⊢
  by_cases hm:r ∈ ids
  · simp only [hm,if_true,Option.map_eq_some_iff] at hr ⊢
    obtain ⟨row',h1,rfl⟩:=hr;exact ⟨row',hg _ _ h1,rfl⟩
  · simp only [hm,if_false] at hr ⊢;exact hg _ _ hr
theorem rowOk_arr {bad bad':Nat→Prop} {ri:RI} {ρ':Nat→Option RI} {t:TN} {l:List (El t)} (hr:RowOk w ρ bad ri (.arr t l))
    (hv:∀ u d,VR w ρ bad u d→VR w ρ' bad' u d):RowOk w ρ' bad' ri (.arr t l):=hr.keep (fun _=>rfl) hv
theorem HRel.rename (hh:HRel w0 outer own ρ h w) {r i:Nat} {t:TN} {l:List (El t)} {ri:RI} (hr:h r=some ⟨.arr t l, .own⟩) (hρ:ρ r=some ri) (hi:ρ i=none):
    HRel w0 outer own (upd ρ i (some ri)) (upd (upd h r none) i (some ⟨.arr t l, .own⟩)) w∧
      ∀ u d,VR w ρ (Bad outer ρ h) u d→VR w (upd ρ i (some ri)) (Bad outer (upd ρ i (some ri)) (upd (upd h r none) i (some ⟨.arr t l, .own⟩))) u d:=by
  obtain ⟨ri',h1,h2,h3⟩:=hh.rows r _ hr
  rw [hρ] at h1;cases h1
  cases hn:ri.nl
  · exact hh.move hr hρ hn hi rfl hn w (Wx.refl _) rfl (fun _ _=>rfl) _ fun bad hv=>rowOk_arr h2 hv
  · obtain ⟨k1,k2⟩:=hh.less (h':=upd h r none) (fun q row' hq=>by
      by_cases hqr:q=r
      · subst hqr;rw [upd_same] at hq;cases hq
      · rw [upd_other _ _ _ _ hqr] at hq;exact ⟨row',hq,rfl,id⟩)
    obtain ⟨k3,k4⟩:=k1.alloc i hi ri (fun h=>by rw [hn] at h;cases h) w (Wx.refl _) (fun _ _=>rfl) (fun h=>by rw [hn] at h;cases h) (.arr t l)
      fun hv=>rowOk_arr (rowOk_arr h2 k2) hv
    exact ⟨k3,fun u d hu=>k4 _ _ (k2 _ _ hu)⟩
theorem HRel.empty (hh:HRel w0 outer own ρ h w) {i:Nat} (t:TN) (hi:ρ i=none):
    HRel w0 outer own (upd ρ i (some ⟨0,0,0,true⟩)) (upd h i (some ⟨.arr t [], .own⟩)) w∧
      ∀ u d,VR w ρ (Bad outer ρ h) u d→VR w (upd ρ i (some ⟨0,0,0,true⟩)) (Bad outer (upd ρ i (some ⟨0,0,0,true⟩)) (upd h i (some ⟨.arr t [], .own⟩))) u d:=
  hh.alloc i hi ⟨0,0,0,true⟩ (fun h=>by cases h) w (Wx.refl _) (fun _ _=>rfl) (fun h=>by cases h) (.arr t []) fun _=>⟨rfl, .inl ⟨rfl,rfl⟩⟩
structure Thawed (w0:World) (outer own:Nat→Prop) (w:World) (ow:List Nat) (base N p:Nat) (ρ:Nat→Option RI) (g h h':Nat→Option Row) (es:List V) (u:Nat→Value)
    (ρ':Nat→Option RI) (g':Nat→Option Row):Prop where
  heap:HRel w0 outer own ρ' g' w
  lies:Lies h' g'
  out:∀ r,Out base N r→ρ' r=ρ r∧(h r=none→g' r=g r)
  less:∀ r,h r=none→h' r=none
  before:∀ q,q<p→g' (base+q)=g (base+q)∧ρ' (base+q)=ρ (base+q)
  new:∀ q,p≤q→q<N→g' (base+q)=thawH ow base (fun _=>none) p es (base+q)
  ext:∀ r ri,ρ r=some ri→ρ' r=some ri
  keep:∀ v d,VR w ρ (Bad outer ρ g) v d→VR w ρ' (Bad outer ρ' g') v d
  vals:∀ j (hj:j<(thawL ow base p es).length),VR w ρ' (Bad outer ρ' g') (u j) (thawL ow base p es)[j]
  closed:∀ j (hj:j<es.length),NoRef es[j]∧(es[j]).leaf=true
theorem Subs.closed1 {c e:V} (hs:Sub c e) (h:NoRef c∧c.leaf=true):NoRef e∧e.leaf=true:=by
  cases hs with
  | refl=>exact h
  | byte n=>exact ⟨fun _=> .int _ _,rfl⟩
  | nil t=>exact ⟨noRef_sl _ _,rfl⟩
theorem take_thaw (ow:List Nat) (base N:Nat):∀ (cs:List V) (p:Nat) (h h':Nat→Option Row) (cs' es:List V) (ρ:Nat→Option RI) (g:Nat→Option Row) (u:Nat→Value),
    takeLeaves ow p cs h=some (cs',h')→Subs cs' es→p+cs.length≤N→HRel w0 outer own ρ g w→
    (∀ j (hj:j<cs.length),VR w ρ (Bad outer ρ g) (u j) cs[j])→Lies h g→(∀ q,q<N→h (base+q)=none)→
    (∀ q,p≤q→q<N→ρ (base+q)=none)→∃ ρ' g',Thawed w0 outer own w ow base N p ρ g h h' es u ρ' g'∧es.length=cs.length
  | [],p,h,h',cs',es,ρ,g,u,ht,hs,hN,hh,hv,hg,hfr,hf=>by
    simp only [takeLeaves,Option.some.injEq,Prod.mk.injEq] at ht
    obtain ⟨rfl,rfl⟩:=ht
    cases hs
    refine ⟨ρ,g,⟨hh,hg,fun r hr=>⟨rfl,fun _=>rfl⟩,fun _ h=>h,fun q hq=>⟨rfl,rfl⟩,fun q h1 h2=>?_,fun _ _ h=>h,fun _ _ h=>h,fun j hj=>by simp [thawL] at hj,fun j hj=>by simp at hj⟩,rfl⟩
    cases hgq:g (base+q) with
    | none=>rfl
    | some row=>obtain ⟨ri,h3,_⟩:=hh.rows _ _ hgq;rw [hf q h1 h2] at h3;cases h3
  | c :: cs,p,h,h',cs',es,ρ,g,u,ht,hs,hN,hh,hv,hg,hfr,hf=>by
    simp only [List.length_cons] at hN
    have hin:¬ Out base N (base+p):=fun ho=>ho ⟨by omega,by omega⟩
    have hinh:∀ r row,h r=some row→Out base N r:=fun r row hr=>by
      rintro ⟨h1,h2⟩
      have:=hfr (r - base) (by omega)
      rw [show base+(r - base)=r by omega,hr] at this;cases this
    -- behind a step
    have go:∀ (ρ1:Nat→Option RI) (g1 h1:Nat→Option Row) (cs1 es1:List V) (e:V),takeLeaves ow (p+1) cs h1=some (cs1,h')→Subs cs1 es1→es=e :: es1→HRel w0 outer own ρ1 g1 w→
        (∀ v d,VR w ρ (Bad outer ρ g) v d→VR w ρ1 (Bad outer ρ1 g1) v d)→Lies h1 g1→(∀ r,Out base N r→ρ1 r=ρ r∧(h r=none→g1 r=g r))→(∀ r,h r=none→h1 r=none)→(∀ q,q<p→g1 (base+q)=g (base+q)∧ρ1 (base+q)=ρ (base+q))→
        (∀ q,p+1≤q→q<N→ρ1 (base+q)=ρ (base+q))→(∀ r ri,ρ r=some ri→ρ1 r=some ri)→(NoRef e∧e.leaf=true)→
        (∀ (ρ':Nat→Option RI) (g':Nat→Option Row),(∀ v d,VR w ρ1 (Bad outer ρ1 g1) v d→VR w ρ' (Bad outer ρ' g') v d)→
          ∃ (hl:0<(thawL ow base p (e :: es1)).length),VR w ρ' (Bad outer ρ' g') (u 0) (thawL ow base p (e :: es1))[0])→
        thawH ow base (fun _=>none) p (e :: es1) (base+p)=g1 (base+p)→(∀ q,q≠p→thawH ow base (fun _=>none) p (e :: es1) (base+q)=thawH ow base (fun _=>none) (p+1) es1 (base+q))→
        (∀ j (hj:j<(thawL ow base (p+1) es1).length),∃ (hl:j+1<(thawL ow base p (e :: es1)).length),(thawL ow base p (e :: es1))[j+1]=(thawL ow base (p+1) es1)[j])→
        ∃ ρ' g',Thawed w0 outer own w ow base N p ρ g h h' es u ρ' g'∧es.length=(c :: cs).length:=by
      rintro ρ1 g1 h1 cs1 es1 e ht1 hs1 rfl hh1 hk1 hl1 ho1 hless1 hb1 hf1 hx1 he hv0 hn0 hn1 hgl1
      obtain ⟨ρ',g',T,hlen⟩:=take_thaw ow base N cs (p+1) h1 h' cs1 es1 ρ1 g1 (fun j=>u (j+1)) ht1 hs1 (by omega) hh1
        (fun j hj=>hk1 _ _ (hv (j+1) (by simp;omega))) hl1 (fun q hq=>hless1 _ (hfr q hq))
        (fun q h1 h2=>by rw [hf1 q h1 h2];exact hf q (by omega) h2)
      refine ⟨ρ',g',⟨T.heap,T.lies,fun r hr=>⟨(T.out r hr).1.trans (ho1 r hr).1,fun hn=>((T.out r hr).2 (hless1 r hn)).trans ((ho1 r hr).2 hn)⟩,fun r hr=>T.less r (hless1 r hr),fun q hq=>?_,fun q h1 h2=>?_,fun r ri hr=>T.ext _ _ (hx1 r ri hr),fun v d hd=>T.keep _ _ (hk1 _ _ hd),fun j hj=>?_,fun j hj=>?_⟩,by simp [hlen]⟩
      · obtain ⟨b1,b2⟩:=T.before q (by omega)
        exact ⟨b1.trans (hb1 q hq).1,b2.trans (hb1 q hq).2⟩
      · by_cases hq:q=p
        · subst hq;rw [(T.before q (by omega)).1];exact hn0.symm
        · rw [T.new q (by omega) h2,hn1 q hq]
      · cases j with
        | zero=>exact (hv0 ρ' g' T.keep).2
        | succ j=>
          have hj':j<(thawL ow base (p+1) es1).length:=by
            rw [thawL_len] at hj ⊢;simpa using hj
          obtain ⟨_,h2⟩:=hgl1 j hj'
          rw [h2];exact T.vals j hj'
      · cases j with
        | zero=>exact he
        | succ j=>exact T.closed j (by simpa using hj)
    simp only [takeLeaves] at ht
    have hfp:ρ (base+p)=none:=hf p (Nat.le_refl _) (by omega)
    have hgp:g (base+p)=none:=by
      cases hgq:g (base+p) with
      | none=>rfl
      | some row=>obtain ⟨ri,h3,_⟩:=hh.rows _ _ hgq;rw [hfp] at h3;cases h3
    have hv00:=hv 0 (by simp)
    simp only [List.getElem_cons_zero] at hv00
    cases hb:ow.any (Nat.beq p)
    · simp only [hb,cond_false] at ht
      split at ht
      case h_2=>cases ht
      rename_i c' ids hfz
      split at ht
      case h_2=>cases ht
      rename_i cs1 h1 ht1
      simp only [Option.some.injEq,Prod.mk.injEq] at ht
      obtain ⟨rfl,rfl⟩:=ht
      cases hs with
      | cons hs0 hs1=>
      rename_i e es1
      obtain ⟨hfz',hids⟩:=frzLeaf_lies hg hfz
      simp only at hids
      obtain ⟨k1,k2⟩:=hh.mark ids
      have k3:=frzLeaf_ok hh hv00 hfz'
      have hnn:∀ r,h r=none→r ∉ ids:=fun r hn hm=>by obtain ⟨row,h5⟩:=hids r hm;rw [hn] at h5;cases h5
      have he:=Subs.closed1 hs0 k3.2
      have hl:thawL ow base p (e :: es1)=e :: thawL ow base (p+1) es1:=by cases e <;> simp [thawL,hb]
      have hth:∀ q,thawH ow base (fun _=>none) p (e :: es1) q=thawH ow base (fun _=>none) (p+1) es1 q:=fun q=>by cases e <;> simp [thawH,hb]
      refine go ρ (markRo g ids) (markRo h ids) cs1 es1 e ht1 hs1 rfl k1 k2 (lies_mark hg ids) (fun r hr=>⟨rfl,fun hn=>?_⟩) (fun r hn=>?_) (fun q hq=>⟨?_,rfl⟩) (fun _ _ _=>rfl) (fun _ _ h=>h) he (fun ρ' g' hk=>?_) ?_ (fun q hq=>hth _) (fun j hj=>?_)
      · rw [markRo_get,if_neg (hnn r hn)]
      · rw [markRo_get,if_neg (hnn r hn)];exact hn
      · rw [markRo_get,if_neg (hnn _ (hfr q (by omega)))]
      · simp only [hl]
        exact ⟨by simp,(VR.sub hs0 (hk _ _ k3.1))⟩
      · rw [hth,thawH_none _ _ _ _ _ (by omega),markRo_get,if_neg (hnn _ (hfr p (by omega))),hgp]
      · simp only [hl]
        exact ⟨by simpa using hj,by simp⟩
    · simp only [hb,cond_true] at ht
      split at ht
      · rename_i r
        split at ht
        case h_2=>cases ht
        rename_i t l hrow
        split at ht
        case h_2=>cases ht
        rename_i cs1 h1 ht1
        simp only [Option.some.injEq,Prod.mk.injEq] at ht
        obtain ⟨rfl,rfl⟩:=ht
        cases hs with
        | cons hs0 hs1=>
        rename_i e es1
        cases hs0
        have hro:=hinh r _ hrow
        have hrg:g r=some ⟨.arr t l, .own⟩:=hg _ _ hrow
        obtain ⟨ri,hρr,_,_⟩:=hh.rows r _ hrg
        obtain ⟨k1,k2⟩:=hh.rename hrg hρr hfp
        have hrne:r≠base+p:=by rintro rfl;exact hin hro
        have hl:thawL ow base p (.sl t l :: es1)= .ow (base+p) :: thawL ow base (p+1) es1:=by simp [thawL,hb]
        refine go _ _ (upd h r none) cs1 es1 (.sl t l) ht1 hs1 rfl k1 k2 (fun q row hq=>?_) (fun q hq=>⟨upd_other _ _ _ _ ?_,fun hn=>?_⟩) (fun q hn=>?_) (fun q hq=>⟨?_,upd_other _ _ _ _ (by omega)⟩) (fun q h1 _=>upd_other _ _ _ _ (by omega))
          (fun q qi hq=>by rw [upd_other];exact hq;rintro rfl;rw [hfp] at hq;cases hq) ⟨noRef_sl _ _,rfl⟩ (fun ρ' g' hk=>?_) ?_ (fun q hq=>?_) (fun j hj=>?_)
        · by_cases hqr:q=r
          · subst hqr;rw [upd_same] at hq;cases hq
          · rw [upd_other _ _ _ _ hqr] at hq
            have:q≠base+p:=by rintro rfl;exact hin (hinh _ _ hq)
            rw [upd_other _ _ _ _ this,upd_other _ _ _ _ hqr];exact hg _ _ hq
        · rintro rfl;exact hin hq
        · have hqn:q≠base+p:=by rintro rfl;exact hin hq
          have hqr:q≠r:=by rintro rfl;rw [hrow] at hn;cases hn
          rw [upd_other _ _ _ _ hqn,upd_other _ _ _ _ hqr]
        · by_cases hqr:q=r
          · subst hqr;exact upd_same _ _ _
          · rw [upd_other _ _ _ _ hqr];exact hn
        · rw [upd_other _ _ _ _ (by omega),upd_other]
          rintro rfl;exact hro ⟨by omega,by omega⟩
        · simp only [hl]
          refine ⟨by simp,?_⟩
          have:VR w (upd ρ (base+p) (some ri)) (Bad outer (upd ρ (base+p) (some ri)) (upd (upd g r none) (base+p) (some ⟨.arr t l, .own⟩))) (u 0) (.ow (base+p)):=by
            rcases hv00.ow_inv hρr with ⟨e1,e2,e3,e4⟩ | ⟨ao,e1,e2,e3⟩
            · rw [e1];exact .ow _ ri (upd_same _ _ _) e3 e4 e2
            · rw [e1];exact .owN _ ri ao (upd_same _ _ _) e3 e2
          exact hk _ _ this
        · simp only [thawH,hb,cond_true,upd_same]
        · simp only [thawH,hb,cond_true];rw [upd_other _ _ _ _ (by omega)]
        · simp only [hl]
          exact ⟨by simpa using hj,by simp⟩
      · split at ht
        case h_2=>cases ht
        rename_i cs1 h1 ht1
        simp only [Option.some.injEq,Prod.mk.injEq] at ht
        obtain ⟨rfl,rfl⟩:=ht
        have hu0:u 0= .slice none 0 0:=by generalize u 0=x at hv00;cases hv00;rfl
        cases hs with
        | cons hs0 hs1=>
        rename_i e es1
        cases hs0 with
        | refl=>
          have hl:thawL ow base p (.nil :: es1)= .nil :: thawL ow base (p+1) es1:=by simp [thawL]
          have hth:∀ q,thawH ow base (fun _=>none) p (.nil :: es1) q=thawH ow base (fun _=>none) (p+1) es1 q:=fun q=>by simp [thawH]
          refine go ρ g h cs1 es1 .nil ht1 hs1 rfl hh (fun _ _ h=>h) hg (fun r hr=>⟨rfl,fun _=>rfl⟩) (fun _ h=>h) (fun q hq=>⟨rfl,rfl⟩) (fun _ _ _=>rfl) (fun _ _ h=>h) ⟨fun _=> .nil,rfl⟩ (fun ρ' g' hk=>?_) ?_ (fun q hq=>hth _) (fun j hj=>?_)
          · simp only [hl];exact ⟨by simp,by rw [hu0];exact .nil⟩
          · rw [hth,thawH_none _ _ _ _ _ (by omega),hgp]
          · simp only [hl];exact ⟨by simpa using hj,by simp⟩
        | nil t=>
          have hl:thawL ow base p (.sl t [] :: es1)= .ow (base+p) :: thawL ow base (p+1) es1:=by simp [thawL,hb]
          obtain ⟨k1,k2⟩:=hh.empty t hfp
          refine go _ _ h cs1 es1 (.sl t []) ht1 hs1 rfl k1 k2 (fun q row hq=>?_) (fun q hq=>⟨upd_other _ _ _ _ ?_,fun hn=>upd_other _ _ _ _ ?_⟩) (fun _ h=>h) (fun q hq=>⟨upd_other _ _ _ _ (by omega),upd_other _ _ _ _ (by omega)⟩) (fun q h1 _=>upd_other _ _ _ _ (by omega))
            (fun q qi hq=>by rw [upd_other];exact hq;rintro rfl;rw [hfp] at hq;cases hq) ⟨noRef_sl _ _,rfl⟩ (fun ρ' g' hk=>?_) ?_ (fun q hq=>?_) (fun j hj=>?_)
          · rw [upd_other _ _ _ _ (by rintro rfl;exact hin (hinh _ _ hq))];exact hg _ _ hq
          · rintro rfl;exact hin hq
          · rintro rfl;exact hin hq
          · simp only [hl]
            refine ⟨by simp,hk _ _ ?_⟩
            rw [hu0];exact .owN _ ⟨0,0,0,true⟩ none (upd_same _ _ _) rfl rfl
          · simp only [thawH,hb,cond_true,upd_same]
          · simp only [thawH,hb,cond_true];rw [upd_other _ _ _ _ (by omega)]
          · simp only [hl];exact ⟨by simpa using hj,by simp⟩
      · cases ht
theorem thawL_shift {bad bad2:Nat→Prop} {ρ2:Nat→Option RI} (ow:List Nat) (B B2:Nat):∀ (es:List V) (p:Nat) (u:Nat→Value),
    (∀ q,p≤q→q<p+es.length→ow.any (Nat.beq q)=true→(∃ t l,es[q - p]?=some (.sl t l))→ρ2 (B2+q)=ρ (B+q))→(∀ j (hj:j<es.length),NoRef es[j])→(∀ b,bad2 b→bad b)→
    (∀ j (hj:j<(thawL ow B p es).length),VR w ρ bad (u j) (thawL ow B p es)[j])→∀ j (hj:j<(thawL ow B2 p es).length),VR w ρ2 bad2 (u j) (thawL ow B2 p es)[j]
  | [],p,u,hρ,hc,hb,hv,j,hj=>by simp [thawL] at hj
  | e :: es,p,u,hρ,hc,hb,hv,j,hj=>by
    have split1:∀ (B:Nat),∃ e',thawL ow B p (e :: es)=e' :: thawL ow B (p+1) es∧(e'=e∨e'= .ow (B+p))∧((∃ t l,e= .sl t l∧ow.any (Nat.beq p)=true)→e'= .ow (B+p))∧
        ((¬ ∃ t l,e= .sl t l∧ow.any (Nat.beq p)=true)→e'=e):=fun B=>by
      cases e <;> simp only [thawL] <;> try exact ⟨_,rfl, .inl rfl,fun ⟨_,_,h,_⟩=>(by cases h),fun _=>rfl⟩
      rename_i t l
      cases hb:ow.any (Nat.beq p)
      · exact ⟨_,rfl, .inl rfl,fun ⟨_,_,_,h⟩=>(by cases h),fun _=>rfl⟩
      · exact ⟨_,rfl, .inr rfl,fun _=>rfl,fun h=>absurd ⟨t,l,rfl,rfl⟩ h⟩
    obtain ⟨e1,s1,_,s2,s3⟩:=split1 B
    obtain ⟨e2,t1,_,t2,t3⟩:=split1 B2
    have ih:=thawL_shift ow B B2 es (p+1) (fun j=>u (j+1)) (fun q h1 h2 h3 h4=>hρ q (by omega) (by simp;omega) h3 (by
        obtain ⟨t,l,h4⟩:=h4
        exact ⟨t,l,by rw [show q - p=(q - (p+1))+1 by omega,List.getElem?_cons_succ];exact h4⟩)) (fun j hj=>hc (j+1) (by simp;omega)) hb
      (fun j hj=>by
        have:=hv (j+1) (by rw [s1];simp;omega)
        simpa [s1] using this)
    simp only [t1] at hj ⊢
    cases j with
    | succ j=>exact ih j (by simpa using hj)
    | zero=>
      have hv0:=hv 0 (by rw [s1];simp)
      simp only [s1,List.getElem_cons_zero] at hv0 ⊢
      by_cases hs:∃ t l,e= .sl t l∧ow.any (Nat.beq p)=true
      · rw [s2 hs] at hv0;rw [t2 hs]
        have hq:=hρ p (Nat.le_refl _) (by simp) (by obtain ⟨_,_,_,h⟩:=hs;exact h) (by obtain ⟨t,l,h,_⟩:=hs;exact ⟨t,l,by simp [h]⟩)
        generalize u 0=u0 at hv0
        cases hv0 with
        | ow _ ri h1 h2 h3 h4=>exact .ow _ ri (by rw [hq];exact h1) h2 h3 h4
        | owN _ ri ao h1 h2 h3=>exact .owN _ ri ao (by rw [hq];exact h1) h2 h3
      · rw [s3 hs] at hv0;rw [t3 hs]
        exact (hv0.noRef (hc 0 (by simp)) ρ2).mono (fun _ _ h=>h) (fun _ _ _=>rfl) fun b h=> .inl (hb b h)
theorem HRel.reread (hh:HRel w0 outer own ρ h w) {r:Nat} {cs es:List V} {m:Mode} (hr:h r=some ⟨.box cs,m⟩) (hlen:es.length=cs.length)
    (hv:∀ ri,ρ r=some ri→∀ j (hj:j<es.length),VR w ρ (Bad outer ρ h) ((w.cell? (at_ ri.b j)).getD undef) es[j]):
    HRel w0 outer own ρ (upd h r (some ⟨.box es,m⟩)) w∧∀ u d,VR w ρ (Bad outer ρ h) u d→VR w ρ (Bad outer ρ (upd h r (some ⟨.box es,m⟩))) u d:=by
  have hbad:∀ b,Bad outer ρ (upd h r (some ⟨.box es,m⟩)) b→Bad outer ρ h b:=fun b hb=>hb.mono fun q row' h1 h2=>by
    by_cases hq:q=r
    · subst hq;rw [upd_same] at h1;cases h1;exact ⟨_,hr,h2⟩
    · rw [upd_other _ _ _ _ hq] at h1;exact ⟨row',h1,h2⟩
  have hk:∀ u d,VR w ρ (Bad outer ρ h) u d→VR w ρ (Bad outer ρ (upd h r (some ⟨.box es,m⟩))) u d:=fun u d hu=>hu.mono (fun _ _ h=>h) (fun _ _ _=>rfl) fun b hb=> .inl (hbad b hb)
  have old:∀ q row,upd h r (some ⟨.box es,m⟩) q=some row→∃ row',h q=some row'∧(q=r∧row=⟨.box es,m⟩∨row=row'):=fun q row hq=>by
    by_cases hqr:q=r
    · subst hqr;rw [upd_same] at hq;cases hq;exact ⟨_,hr, .inl ⟨rfl,rfl⟩⟩
    · rw [upd_other _ _ _ _ hqr] at hq;exact ⟨row,hq, .inr rfl⟩
  refine ⟨⟨hh.wx,hh.old,hh.outLt,fun q row hq=>?_,fun q q' row row' qi qi' h1 h2 h3 h4=>?_⟩,hk⟩
  · obtain ⟨row',h1,h2⟩:=old q row hq
    obtain ⟨ri,h3,h4,h5⟩:=hh.rows q row' h1
    have h5':ri.nl=false→(¬ outer ri.b∧(row.m.isRo=false→w0.heap.size≤ri.b∨own ri.b))∧ri.b<w.heap.size:=by
      rcases h2 with ⟨rfl,rfl⟩ | rfl
      · rw [hr] at h1;cases h1;exact h5
      · exact h5
    refine ⟨ri,h3,?_,h5'⟩
    rcases h2 with ⟨rfl,rfl⟩ | rfl
    · rw [hr] at h1;cases h1
      refine ⟨h4.1,fun j hj=>?_⟩
      obtain ⟨f1,u,f2,_⟩:=h4.2 j (by omega)
      refine ⟨f1,u,f2,?_⟩
      have:=hv ri h3 j hj
      rw [f2] at this;exact hk _ _ this
    · exact h4.keep (fun _=>rfl) hk
  · obtain ⟨_,g1,_⟩:=old q row h1
    obtain ⟨_,g2,_⟩:=old q' row' h2
    exact hh.inj q q' _ _ qi qi' g1 g2 h3 h4
end
end Go.D
namespace Go.D
def entH:List ArgK→Nat→List V→Nat→Option Row
  | .plain :: ks,k,_ :: as=>entH ks (k+1) as
  | .ptr ow :: ks,k, .agg cs :: as=>upd (thawH ow (128 *k) (entH ks (k+1) as) 0 cs) (128 *k+127) (some ⟨.box (thawL ow (128 *k) 0 cs), .own⟩)
  | .mv ow :: ks,k, .agg cs :: as=>thawH ow (128 *k) (entH ks (k+1) as) 0 cs
  | _,_,_=>fun _=>none
def entS:List ArgK→Nat→List V→List V
  | .plain :: ks,k,v :: as=>v :: entS ks (k+1) as
  | .ptr _ :: ks,k,_ :: as=> .bp (128 *k+127) 0 :: entS ks (k+1) as
  | .mv ow :: ks,k, .agg cs :: as=> .agg (thawL ow (128 *k) 0 cs) :: entS ks (k+1) as
  | _,_,_=>[]
def boxOf:List ArgK→Nat→List Nat→Nat→Option Nat
  | .plain :: ks,k,bs,q=>boxOf ks (k+1) bs q
  | .ptr _ :: ks,k,b :: bs,q=>if q=128 *k+127 then some b else boxOf ks (k+1) bs q
  | .mv _ :: ks,k,bs,q=>boxOf ks (k+1) bs q
  | _,_,_,_=>none
theorem boxOf_ge:∀ (ks:List ArgK) (k:Nat) (bs:List Nat) (q b:Nat),boxOf ks k bs q=some b→128 *k+127≤q∧q % 128=127∧b ∈ bs
  | [],k,bs,q,b,h=>by simp [boxOf] at h
  | .plain :: ks,k,bs,q,b,h=>by
    simp only [boxOf] at h
    obtain ⟨h1,h2,h3⟩:=boxOf_ge ks (k+1) bs q b h
    exact ⟨by omega,h2,h3⟩
  | .mv ow :: ks,k,bs,q,b,h=>by
    simp only [boxOf] at h
    obtain ⟨h1,h2,h3⟩:=boxOf_ge ks (k+1) bs q b h
    exact ⟨by omega,h2,h3⟩
  | .ptr ow :: ks,k,[],q,b,h=>by simp [boxOf] at h
  | .ptr ow :: ks,k,c :: bs,q,b,h=>by
    simp only [boxOf] at h
    split at h
    · cases h;exact ⟨by omega,by omega,by simp⟩
    · obtain ⟨h1,h2,h3⟩:=boxOf_ge ks (k+1) bs q b h
      exact ⟨by omega,h2,by simp [h3]⟩
theorem boxOf_inj:∀ (ks:List ArgK) (k:Nat) (bs:List Nat) (q q' b:Nat),bs.Nodup→boxOf ks k bs q=some b→boxOf ks k bs q'=some b→q=q'
  | [],k,bs,q,q',b,hn,h,h'=>by simp [boxOf] at h
  | .plain :: ks,k,bs,q,q',b,hn,h,h'=>boxOf_inj ks (k+1) bs q q' b hn h h'
  | .mv ow :: ks,k,bs,q,q',b,hn,h,h'=>boxOf_inj ks (k+1) bs q q' b hn h h'
  | .ptr ow :: ks,k,[],q,q',b,hn,h,h'=>by simp [boxOf] at h
  | .ptr ow :: ks,k,c :: bs,q,q',b,hn,h,h'=>by
    simp only [boxOf] at h h'
    simp only [List.nodup_cons] at hn
    split at h <;> split at h'
    · omega
    · cases h;exact absurd (boxOf_ge _ _ _ _ _ h').2.2 hn.1
    · cases h';exact absurd (boxOf_ge _ _ _ _ _ h).2.2 hn.1
    · exact boxOf_inj ks (k+1) bs q q' b hn.2 h h'
theorem boxOf_lt:∀ (ks:List ArgK) (k:Nat) (bs:List Nat) (q b:Nat),boxOf ks k bs q=some b→q<128 *(k+ks.length)
  | [],k,bs,q,b,h=>by simp [boxOf] at h
  | .plain :: ks,k,bs,q,b,h=>by
    simp only [boxOf] at h
    have:=boxOf_lt ks (k+1) bs q b h
    simp;omega
  | .mv ow :: ks,k,bs,q,b,h=>by
    simp only [boxOf] at h
    have:=boxOf_lt ks (k+1) bs q b h
    simp;omega
  | .ptr ow :: ks,k,[],q,b,h=>by simp [boxOf] at h
  | .ptr ow :: ks,k,c :: bs,q,b,h=>by
    simp only [boxOf] at h
    split at h
    · simp;omega
    · have:=boxOf_lt ks (k+1) bs q b h
      simp;omega
theorem thawH_shift (ow:List Nat) (B B2:Nat):∀ (es:List V) (p q:Nat),thawH ow B (fun _=>none) p es (B+q)=thawH ow B2 (fun _=>none) p es (B2+q)
  | [],p,q=>rfl
  | e :: es,p,q=>by
    have ih:=thawH_shift ow B B2 es (p+1) q
    cases e <;> simp only [thawH] <;> try exact ih
    cases hb:ow.any (Nat.beq p)
    · simpa using ih
    · simp only [cond_true]
      by_cases hq:q=p
      · subst hq;rw [upd_same,upd_same]
      · rw [upd_other _ _ _ _ (by omega),upd_other _ _ _ _ (by omega)];exact ih
theorem thawH_arr (ow:List Nat) (B:Nat):∀ (es:List V) (p r:Nat) (row:Row),thawH ow B (fun _=>none) p es r=some row→∃ t l,row=⟨.arr t l, .own⟩∧B+p≤r∧r<B+p+es.length
  | [],p,r,row,h=>by simp [thawH] at h
  | e :: es,p,r,row,h=>by
    have ih:=thawH_arr ow B es (p+1) r row
    have nx:thawH ow B (fun _=>none) (p+1) es r=some row→∃ t l,row=⟨.arr t l, .own⟩∧B+p≤r∧r<B+p+(e :: es).length:=fun h=>by
      obtain ⟨t,l,h1,h2,h3⟩:=ih h;exact ⟨t,l,h1,by omega,by simp;omega⟩
    cases e <;> simp only [thawH] at h <;> try exact nx h
    cases hb:ow.any (Nat.beq p)
    · simp only [hb,cond_false] at h;exact nx h
    · simp only [hb,cond_true] at h
      by_cases hr:r=B+p
      · subst hr;rw [upd_same] at h;cases h;exact ⟨_,_,rfl,Nat.le_refl _,by simp⟩
      · rw [upd_other _ _ _ _ hr] at h;exact nx h
theorem thawH_some (ow:List Nat) (B:Nat):∀ (es:List V) (p q:Nat) (t:TN) (l:List (El t)),p≤q→es[q - p]?=some (.sl t l)→ow.any (Nat.beq q)=true→thawH ow B (fun _=>none) p es (B+q)=some ⟨.arr t l, .own⟩
  | [],p,q,t,l,hp,he,ho=>by simp at he
  | e :: es,p,q,t,l,hp,he,ho=>by
    by_cases hq:q=p
    · subst hq
      simp at he;subst he
      simp only [thawH,ho,cond_true,upd_same]
    · have ih:=thawH_some ow B es (p+1) q t l (by omega) (by rw [show q - p=(q - (p+1))+1 by omega,List.getElem?_cons_succ] at he;exact he) ho
      cases e <;> simp only [thawH] <;> try exact ih
      cases hb:ow.any (Nat.beq p)
      · simpa using ih
      · simp only [cond_true];rw [upd_other _ _ _ _ (by omega)];exact ih
section
variable {C:Cx} {w0:World} {outer own:Nat→Prop} {ρ:Nat→Option RI} {st st':St} {a:Act} {w:World} {h:Nat→Option Row}
inductive EntOk (w:World) (ρ:Nat→Option RI) (bad:Nat→Prop) (g:Nat→Option Row) (N0:Nat):List ArgK→Nat→List V→List Nat→(Nat→Value)→Prop
  | nil (k:Nat) (u:Nat→Value):EntOk w ρ bad g N0 [] k [] [] u
  | plain {ks:List ArgK} {k:Nat} {v:V} {as:List V} {bs:List Nat} {u:Nat→Value} (hv:VR w ρ bad (u 0) v) (hn:NoRef v) (hr:EntOk w ρ bad g N0 ks (k+1) as bs fun j=>u (j+1)):
      EntOk w ρ bad g N0 (.plain :: ks) k (v :: as) bs u
  | ptr {ow:List Nat} {ks:List ArgK} {k b:Nat} {cs as:List V} {bs:List Nat} {u:Nat→Value} (ri:RI) (hρ:ρ b=some ri) (hnl:ri.nl=false) (hu:u 0= .pointer (some (at_ ri.b 0)))
      (hg:g b=some ⟨.box (thawL ow (N0+128 *k) 0 cs), .own⟩) (hl:cs.length≤127) (hq:∀ q,q<128→g (N0+128 *k+q)=thawH ow (N0+128 *k) (fun _=>none) 0 cs (N0+128 *k+q))
      (hc:∀ j (hj:j<cs.length),NoRef cs[j]∧(cs[j]).leaf=true) (hb:b<N0) (hr:EntOk w ρ bad g N0 ks (k+1) as bs fun j=>u (j+1)):
      EntOk w ρ bad g N0 (.ptr ow :: ks) k (.agg cs :: as) (b :: bs) u
  | mv {ow:List Nat} {ks:List ArgK} {k:Nat} {cs as:List V} {bs:List Nat} {u:Nat→Value} (hv:VR w ρ bad (u 0) (.agg (thawL ow (N0+128 *k) 0 cs)))
      (hl:cs.length≤127) (hq:∀ q,q<128→g (N0+128 *k+q)=thawH ow (N0+128 *k) (fun _=>none) 0 cs (N0+128 *k+q))
      (hc:∀ j (hj:j<cs.length),NoRef cs[j]∧(cs[j]).leaf=true) (hr:EntOk w ρ bad g N0 ks (k+1) as bs fun j=>u (j+1)):
      EntOk w ρ bad g N0 (.mv ow :: ks) k (.agg cs :: as) bs u
theorem Subs.rfl':∀ (cs:List V),Subs cs cs
  | []=> .nil
  | c :: cs=> .cons (.refl c) (Subs.rfl' cs)
theorem takeArgs_ptr {ow:List Nat} {ks:List ArgK} {v:V} {vs:List V} {x:List V × (Nat→Option Row) × List Nat} (ht:takeArgs (.ptr ow :: ks) (v :: vs) h=some x):∃ r,v= .bp r 0:=by
  unfold takeArgs at ht
  split at ht
  · simp_all
  · simp_all
  · rename_i e1 e2;simp only [List.cons.injEq] at e2;exact ⟨_,e2.1⟩
  · simp_all
  · cases ht
theorem takeArgs_mv {ow:List Nat} {ks:List ArgK} {v:V} {vs:List V} {x:List V × (Nat→Option Row) × List Nat} (ht:takeArgs (.mv ow :: ks) (v :: vs) h=some x):∃ cs,v= .agg cs:=by
  unfold takeArgs at ht
  split at ht
  · simp_all
  · simp_all
  · simp_all
  · rename_i e1 e2;simp only [List.cons.injEq] at e2;exact ⟨_,e2.1⟩
  · cases ht
theorem take_args (N0:Nat):∀ (ks:List ArgK) (as:List V) (h h':Nat→Option Row) (as':List V) (bs:List Nat) (k:Nat) (ρ:Nat→Option RI) (g:Nat→Option Row) (u:Nat→Value),
    takeArgs ks as h=some (as',h',bs)→HRel w0 outer own ρ g w→(∀ j (hj:j<as.length),VR w ρ (Bad outer ρ g) (u j) as[j])→Lies h g→(∀ r,N0+128 *k≤r→ρ r=none)→(∀ r,N0≤r→h r=none)→
    ∃ ρ' g',HRel w0 outer own ρ' g' w∧Lies h' g'∧(∀ r,h r=none→h' r=none)∧(∀ r,h r=none→r<N0+128 *k→g' r=g r)∧(∀ r ri,ρ r=some ri→ρ' r=some ri)∧
      (∀ v d,VR w ρ (Bad outer ρ g) v d→VR w ρ' (Bad outer ρ' g') v d)∧EntOk w ρ' (Bad outer ρ' g') g' N0 ks k as' bs u∧
      (∀ b ∈ bs,h' b=none∧h b≠none)∧bs.Nodup∧as.length=ks.length∧(∀ r,r<N0→ρ' r=ρ r)
  | [],[],h,h',as',bs,k,ρ,g,u,ht,hh,hv,hg,hf,hN=>by
    simp only [takeArgs,Option.some.injEq,Prod.mk.injEq] at ht
    obtain ⟨rfl,rfl,rfl⟩:=ht
    exact ⟨ρ,g,hh,hg,fun _ h=>h,fun _ _ _=>rfl,fun _ _ h=>h,fun _ _ h=>h, .nil _ _,fun b hb=>by simp at hb,by simp,rfl,fun _ _=>rfl⟩
  | [],_ :: _,h,h',as',bs,k,ρ,g,u,ht,hh,hv,hg,hf,hN=>by simp [takeArgs] at ht
  | .plain :: ks,[],h,h',as',bs,k,ρ,g,u,ht,hh,hv,hg,hf,hN=>by simp [takeArgs] at ht
  | .ptr _ :: ks,[],h,h',as',bs,k,ρ,g,u,ht,hh,hv,hg,hf,hN=>by simp [takeArgs] at ht
  | .mv _ :: ks,[],h,h',as',bs,k,ρ,g,u,ht,hh,hv,hg,hf,hN=>by simp [takeArgs] at ht
  | .plain :: ks,v :: vs,h,h',as',bs,k,ρ,g,u,ht,hh,hv,hg,hf,hN=>by
    simp only [takeArgs] at ht
    split at ht
    · cases ht
    rename_i v' ids hfz
    split at ht
    · cases ht
    rename_i as2 h2 bs2 ht2
    simp only [Option.some.injEq,Prod.mk.injEq] at ht
    obtain ⟨rfl,rfl,rfl⟩:=ht
    obtain ⟨k1,k2⟩:=frz_lies hg hfz
    have k2:∀ r ∈ ids,∃ row,h r=some row:=k2
    obtain ⟨m1,m2⟩:=hh.mark ids
    obtain ⟨f1,f2⟩:=frz_ok hh (hv 0 (by simp)) k1
    have hnn:∀ r,h r=none→r ∉ ids:=fun r hn hm=>by obtain ⟨row,h5⟩:=k2 r hm;rw [hn] at h5;cases h5
    have hmn:∀ r,h r=none→markRo h ids r=none:=fun r hn=>by rw [markRo_get,if_neg (hnn r hn)];exact hn
    obtain ⟨ρ',g',c1,c2,c3,c4,c5,c6,c7,c8,c9,c10,c11⟩:=take_args N0 ks vs (markRo h ids) h2 as2 bs2 (k+1) ρ (markRo g ids) (fun j=>u (j+1)) ht2 m1
      (fun j hj=>m2 _ _ (hv (j+1) (by simp;omega))) (lies_mark hg ids) (fun r hr=>hf r (by omega)) (fun r hr=>hmn r (hN r hr))
    refine ⟨ρ',g',c1,c2,fun r hr=>c3 r (hmn r hr),fun r hr hk=>?_,c5,fun v d hd=>c6 _ _ (m2 _ _ hd), .plain (c6 _ _ f1) f2 c7,fun b hb=>?_,c9,by simp [c10],c11⟩
    · rw [c4 r (hmn r hr) (by omega),markRo_get,if_neg (hnn r hr)]
    · obtain ⟨d1,d2⟩:=c8 b hb
      exact ⟨d1,fun hn=>d2 (hmn b hn)⟩
  | .ptr ow :: ks,v :: vs,h,h',as',bs,k,ρ,g,u,ht,hh,hv,hg,hf,hN=>by
    obtain ⟨r,rfl⟩:=takeArgs_ptr ht
    simp only [takeArgs] at ht
    split at ht
    case h_2=>cases ht
    rename_i cs hrow
    cases hle:Nat.ble cs.length 127
    case false=>simp [hle] at ht
    simp only [hle,cond_true] at ht
    have hle:=Nat.le_of_ble_eq_true hle
    split at ht
    · cases ht
    rename_i cs' h1 htl
    split at ht
    · cases ht
    rename_i as2 h2 bs2 ht2
    simp only [Option.some.injEq,Prod.mk.injEq] at ht
    obtain ⟨rfl,rfl,rfl⟩:=ht
    have hrN:r<N0:=by
      rcases Nat.lt_or_ge r N0 with h3 | h3
      · exact h3
      · rw [hN r h3] at hrow;cases hrow
    have hgr:=hg _ _ hrow
    have hv0:=hv 0 (by simp)
    simp only [List.getElem_cons_zero] at hv0
    obtain ⟨ri,hρ,hro,_⟩:=hh.rows r _ hgr
    have hu0:u 0= .pointer (some (at_ ri.b 0))∧ri.nl=false:=by
      generalize u 0=x at hv0
      cases hv0 with
      | bp _ _ ri' h3 h4=>rw [hρ] at h3;cases h3;exact ⟨rfl,h4⟩
    have hless:∀ q,h q=none→upd h r none q=none:=fun q hq=>by
      by_cases hqr:q=r
      · subst hqr;exact upd_same _ _ _
      · rw [upd_other _ _ _ _ hqr];exact hq
    obtain ⟨ρ1,g1,T,hlen⟩:=take_thaw ow (N0+128 *k) 128 cs 0 (upd h r none) h1 cs' cs' ρ g (fun j=>(w.cell? (at_ ri.b j)).getD undef) htl (Subs.rfl' _) (by omega) hh
      (fun j hj=>by obtain ⟨_,x,f1,f2⟩:=hro.2 j hj;rw [f1];exact f2)
      (fun q row hq=>by
        by_cases hqr:q=r
        · subst hqr;rw [upd_same] at hq;cases hq
        · rw [upd_other _ _ _ _ hqr] at hq;exact hg _ _ hq)
      (fun q hq=>hless _ (hN _ (by omega))) (fun q _ _=>hf _ (by omega))
    have hrout:Out (N0+128 *k) 128 r:=fun h3=>by omega
    have hg1r:g1 r=some ⟨.box cs, .own⟩:=by rw [(T.out r hrout).2 (upd_same _ _ _)];exact hgr
    have hρ1:ρ1 r=some ri:=T.ext _ _ hρ
    obtain ⟨n1,n2⟩:=T.heap.reread hg1r (es:=thawL ow (N0+128 *k) 0 cs') (by rw [thawL_len];exact hlen) (fun ri' h3 j hj=>by rw [hρ1] at h3;cases h3;exact T.vals j hj)
    have hh1r:h1 r=none:=T.less r (upd_same _ _ _)
    obtain ⟨ρ',g',c1,c2,c3,c4,c5,c6,c7,c8,c9,c10,c11⟩:=take_args N0 ks vs h1 h2 as2 bs2 (k+1) ρ1 _ (fun j=>u (j+1)) ht2 n1
      (fun j hj=>n2 _ _ (T.keep _ _ (hv (j+1) (by simp;omega))))
      (fun q row hq=>by
        have hqr:q≠r:=by rintro rfl;rw [hh1r] at hq;cases hq
        rw [upd_other _ _ _ _ hqr];exact T.lies _ _ hq)
      (fun q hq=>by rw [(T.out q (fun h3=>by omega)).1];exact hf q (by omega)) (fun q hq=>T.less q (hless q (hN q hq)))
    have hout:∀ q,h q=none→q<N0+128 *k→Out (N0+128 *k) 128 q:=fun q _ h3 h4=>by omega
    refine ⟨ρ',g',c1,c2,fun q hq=>c3 q (T.less q (hless q hq)),fun q hq hk=>?_,fun q qi hq=>c5 _ _ (T.ext _ _ hq),fun v d hd=>c6 _ _ (n2 _ _ (T.keep _ _ hd)),
      .ptr ri (c5 _ _ hρ1) hu0.2 hu0.1 ?_ (by omega) (fun q hq=>?_) T.closed hrN c7,fun b hb=>?_,?_,by simp [c10],fun q hq=>?_⟩
    · have hqr:q≠r:=by rintro rfl;rw [hrow] at hq;cases hq
      rw [c4 q (T.less q (hless q hq)) (by omega),upd_other _ _ _ _ hqr,(T.out q (hout q hq hk)).2 (hless q hq)]
    · rw [c4 r hh1r (by omega),upd_same]
    · rw [c4 _ (T.less _ (hless _ (hN _ (by omega)))) (by omega),upd_other _ _ _ _ (by omega),T.new q (by omega) hq]
    · rcases List.mem_cons.1 hb with rfl | hb
      · exact ⟨c3 _ hh1r,by rw [hrow];simp⟩
      · obtain ⟨d1,d2⟩:=c8 b hb
        exact ⟨d1,fun hn=>d2 (T.less b (hless b hn))⟩
    · refine List.nodup_cons.2 ⟨fun hm=>(c8 r hm).2 hh1r,c9⟩
    · rw [c11 q hq,(T.out q (fun h3=>by omega)).1]
  | .mv ow :: ks,v :: vs,h,h',as',bs,k,ρ,g,u,ht,hh,hv,hg,hf,hN=>by
    obtain ⟨cs,rfl⟩:=takeArgs_mv ht
    simp only [takeArgs] at ht
    cases hle:Nat.ble cs.length 127
    case false=>simp [hle] at ht
    simp only [hle,cond_true] at ht
    have hle:=Nat.le_of_ble_eq_true hle
    split at ht
    · cases ht
    rename_i cs' h1 htl
    split at ht
    · cases ht
    rename_i as2 h2 bs2 ht2
    simp only [Option.some.injEq,Prod.mk.injEq] at ht
    obtain ⟨rfl,rfl,rfl⟩:=ht
    have hv0:=hv 0 (by simp)
    simp only [List.getElem_cons_zero] at hv0
    obtain ⟨vsA,hu0,hsz,hcv⟩:∃ vsA:Array Value,u 0= .agg vsA∧vsA.size=cs.length∧∀ j (hj:j<cs.length),VR w ρ (Bad outer ρ g) (vsA.getD j undef) cs[j]:=by
      generalize u 0=x at hv0
      cases hv0 with
      | agg _ vsA h1 h2=>exact ⟨vsA,rfl,h1,h2⟩
    obtain ⟨ρ1,g1,T,hlen⟩:=take_thaw ow (N0+128 *k) 128 cs 0 h h1 cs' cs' ρ g (fun j=>vsA.getD j undef) htl (Subs.rfl' _) (by omega) hh hcv hg
      (fun q hq=>hN _ (by omega)) (fun q _ _=>hf _ (by omega))
    obtain ⟨ρ',g',c1,c2,c3,c4,c5,c6,c7,c8,c9,c10,c11⟩:=take_args N0 ks vs h1 h2 as2 bs2 (k+1) ρ1 g1 (fun j=>u (j+1)) ht2 T.heap
      (fun j hj=>T.keep _ _ (hv (j+1) (by simp;omega))) T.lies
      (fun q hq=>by rw [(T.out q (fun h3=>by omega)).1];exact hf q (by omega)) (fun q hq=>T.less q (hN q hq))
    have hout:∀ q,h q=none→q<N0+128 *k→Out (N0+128 *k) 128 q:=fun q _ h3 h4=>by omega
    refine ⟨ρ',g',c1,c2,fun q hq=>c3 q (T.less q hq),fun q hq hk=>?_,fun q qi hq=>c5 _ _ (T.ext _ _ hq),fun v d hd=>c6 _ _ (T.keep _ _ hd),
      .mv ?_ (by omega) (fun q hq=>?_) T.closed c7,fun b hb=>?_,c9,by simp [c10],fun q hq=>?_⟩
    · rw [c4 q (T.less q hq) (by omega),(T.out q (hout q hq hk)).2 hq]
    · rw [hu0]
      refine .agg _ _ (by rw [thawL_len,hsz,hlen]) fun j hj=>?_
      exact c6 _ _ (T.vals j hj)
    · rw [c4 _ (T.less _ (hN _ (by omega))) (by omega),T.new q (by omega) hq]
    · obtain ⟨d1,d2⟩:=c8 b hb
      exact ⟨d1,fun hn=>d2 (T.less b hn)⟩
    · rw [c11 q hq,(T.out q (fun h3=>by omega)).1]
end
end Go.D
namespace Go.D
def Gives (P:Program) (f:Nat) (args:Array Value) (w:World) (post:Value→World→Prop):Prop:=
  ((callFunc f args).run P w= .ok (.enter f args) w∧Calls P f args w fun e w'=>∃ v,e= .returned v∧post v w')∨
  ∃ v w',(callFunc f args).run P w= .ok (.value v) w'∧post v w'
def exH (ks:List ArgK) (as:List V) (bs:List Nat) (ow:List Nat) (base:Nat) (shape:List (Bool × Nat)) (rs:List V):Nat→Option Row:=
  putBoxes ks as bs ((thawL ow base 0 rs).drop (shapeLen shape)) (thawH ow base (fun _=>none) 0 rs)
def exX (ci:CInfo) (as:List V) (bs:List Nat) (base:Nat) (rs:List V):Nat→Option Row:=
  bif ci.pb then upd (fun _=>none) base (some ⟨.box rs, .own⟩) else exH ci.ks as bs ci.own base ci.shape rs
def Contract (P:Program) (f:Nat) (ci:CInfo) (g:Gl:=noGl):Prop:=
  ∀ (w:World) (args:Array Value) (as:List V) (outer own:Nat→Prop) (ρ:Nat→Option RI) (a:ci.A) (r:ci.R) (base:Nat) (bs:List Nat),
    args.size=ci.ks.length→(entS ci.ks 0 as).length=ci.ks.length→HRel w outer own ρ (entH ci.ks 0 as) w→
    (∀ j (hj:j<(entS ci.ks 0 as).length),VR w ρ (Bad outer ρ (entH ci.ks 0 as)) (args.getD j undef) (entS ci.ks 0 as)[j])→(∀ q,entH ci.ks 0 as q=none→ρ q=none)→
    bs.Nodup→(∀ b ∈ bs,Out base 128 b)→ci.dA as=some a→ci.F a=some r→(ci.eR r).length≤128→Glob g own w→
    Gives P f args w fun v w'=>∃ ρ',HRel w outer own ρ' (exX ci as bs base (ci.eR r)) w'∧
      VR w' ρ' (Bad outer ρ' (exX ci as bs base (ci.eR r))) v (resX ci base (ci.eR r))∧
      (∀ q b,boxOf ci.ks 0 bs q=some b→ρ' b=ρ q)∧(∀ r,ρ' r≠none→(base≤r∧r<base+128)∨r ∈ bs)
theorem Calls.mono' {P:Program} {f:Nat} {args:Array Value} {w:World} {R R':Ending→World→Prop} (h:Calls P f args w R) (hr:∀ e w',R e w'→R' e w'):Calls P f args w R':=
  fun cs=>let ⟨e,w',fr,h1,h2⟩:=h cs;⟨e,w',fr,hr _ _ h1,h2⟩
theorem putBoxes_or:∀ (ks:List ArgK) (as:List V) (bs:List Nat) (vs:List V) (h:Nat→Option Row) (r:Nat),
    putBoxes ks as bs vs h r=match putBoxes ks as bs vs (fun _=>none) r with | some x=>some x | none=>h r
  | [],as,bs,vs,h,r=>by cases as <;> rfl
  | .plain :: ks,[],bs,vs,h,r=>rfl
  | .plain :: ks,a :: as,bs,vs,h,r=>by simp only [putBoxes];exact putBoxes_or ks as bs vs h r
  | .mv ow :: ks,[],bs,vs,h,r=>rfl
  | .mv ow :: ks,a :: as,bs,vs,h,r=>by simp only [putBoxes];exact putBoxes_or ks as bs vs h r
  | .ptr ow :: ks,[],bs,vs,h,r=>rfl
  | .ptr ow :: ks,a :: as,[],vs,h,r=>by cases a <;> rfl
  | .ptr ow :: ks,a :: as,b :: bs,vs,h,r=>by
    cases a <;> try rfl
    simp only [putBoxes]
    by_cases hr:r=b
    · subst hr;simp [upd_same]
    · rw [upd_other _ _ _ _ hr,upd_other _ _ _ _ hr];exact putBoxes_or ks as bs _ h r
theorem putBoxes_mem:∀ (ks:List ArgK) (as:List V) (bs:List Nat) (vs:List V) (r:Nat) (row:Row),putBoxes ks as bs vs (fun _=>none) r=some row→r ∈ bs
  | [],as,bs,vs,r,row,h=>by cases as <;> simp [putBoxes] at h
  | .plain :: ks,[],bs,vs,r,row,h=>by simp [putBoxes] at h
  | .plain :: ks,a :: as,bs,vs,r,row,h=>by simp only [putBoxes] at h;exact putBoxes_mem ks as bs vs r row h
  | .mv ow :: ks,[],bs,vs,r,row,h=>by simp [putBoxes] at h
  | .mv ow :: ks,a :: as,bs,vs,r,row,h=>by simp only [putBoxes] at h;exact putBoxes_mem ks as bs vs r row h
  | .ptr ow :: ks,[],bs,vs,r,row,h=>by simp [putBoxes] at h
  | .ptr ow :: ks,a :: as,[],vs,r,row,h=>by cases a <;> simp [putBoxes] at h
  | .ptr ow :: ks,a :: as,b :: bs,vs,r,row,h=>by
    cases a <;> try (simp [putBoxes] at h;done)
    simp only [putBoxes] at h
    by_cases hr:r=b
    · subst hr;simp
    · rw [upd_other _ _ _ _ hr] at h;exact List.mem_cons_of_mem _ (putBoxes_mem ks as bs _ r row h)
theorem exH_mem {ks:List ArgK} {as:List V} {bs ow:List Nat} {base:Nat} {shape:List (Bool × Nat)} {rs:List V} {r:Nat} {row:Row} (hl:rs.length≤128)
    (h:exH ks as bs ow base shape rs r=some row):r ∈ bs∨(base≤r∧r<base+128):=by
  unfold exH at h
  rw [putBoxes_or] at h
  split at h
  · rename_i x hx;exact .inl (putBoxes_mem _ _ _ _ _ _ hx)
  · obtain ⟨_,_,_,h1,h2⟩:=thawH_arr _ _ _ _ _ _ h
    exact .inr ⟨by omega,by omega⟩
theorem putBoxes_own:∀ (ks:List ArgK) (as:List V) (bs:List Nat) (vs:List V) (r:Nat) (row:Row),putBoxes ks as bs vs (fun _=>none) r=some row→row.m= .own
  | [],as,bs,vs,r,row,h=>by cases as <;> simp [putBoxes] at h
  | .plain :: ks,[],bs,vs,r,row,h=>by simp [putBoxes] at h
  | .plain :: ks,a :: as,bs,vs,r,row,h=>by simp only [putBoxes] at h;exact putBoxes_own ks as bs vs r row h
  | .mv ow :: ks,[],bs,vs,r,row,h=>by simp [putBoxes] at h
  | .mv ow :: ks,a :: as,bs,vs,r,row,h=>by simp only [putBoxes] at h;exact putBoxes_own ks as bs vs r row h
  | .ptr ow :: ks,[],bs,vs,r,row,h=>by simp [putBoxes] at h
  | .ptr ow :: ks,a :: as,[],vs,r,row,h=>by cases a <;> simp [putBoxes] at h
  | .ptr ow :: ks,a :: as,b :: bs,vs,r,row,h=>by
    cases a <;> try (simp [putBoxes] at h;done)
    simp only [putBoxes] at h
    by_cases hr:r=b
    · subst hr;rw [upd_same] at h;cases h;rfl
    · rw [upd_other _ _ _ _ hr] at h;exact putBoxes_own ks as bs _ r row h
theorem exH_own {ks:List ArgK} {as:List V} {bs ow:List Nat} {base:Nat} {shape:List (Bool × Nat)} {rs:List V} {r:Nat} {row:Row} (hl:rs.length≤128)
    (h:exH ks as bs ow base shape rs r=some row):row.m= .own:=by
  unfold exH at h
  rw [putBoxes_or] at h
  split at h
  · rename_i x hx;cases h;exact putBoxes_own _ _ _ _ _ _ hx
  · obtain ⟨_,_,h0,_,_⟩:=thawH_arr _ _ _ _ _ _ h
    rw [h0]
theorem exH_or (ks:List ArgK) (as:List V) (bs ow:List Nat) (base:Nat) (shape:List (Bool × Nat)) (rs:List V) (h:Nat→Option Row) (r:Nat):
    putBoxes ks as bs ((thawL ow base 0 rs).drop (shapeLen shape)) (thawH ow base h 0 rs) r=match exH ks as bs ow base shape rs r with | some x=>some x | none=>h r:=by
  unfold exH
  rw [putBoxes_or ks as bs _ (thawH ow base h 0 rs),putBoxes_or ks as bs _ (thawH ow base (fun _=>none) 0 rs),thawH_or ow base h]
  cases putBoxes ks as bs ((thawL ow base 0 rs).drop (shapeLen shape)) (fun _=>none) r <;> rfl
theorem exX_mem {ci:CInfo} {as:List V} {bs:List Nat} {base:Nat} {rs:List V} {r:Nat} {row:Row} (hl:rs.length≤128) (h:exX ci as bs base rs r=some row):r ∈ bs∨(base≤r∧r<base+128):=by
  unfold exX at h
  cases hp:ci.pb
  · rw [hp] at h;exact exH_mem hl h
  · rw [hp] at h
    simp only [cond_true] at h
    by_cases hr:r=base
    · subst hr;exact .inr ⟨Nat.le_refl _,by omega⟩
    · rw [upd_other _ _ _ _ hr] at h;cases h
theorem exX_own {ci:CInfo} {as:List V} {bs:List Nat} {base:Nat} {rs:List V} {r:Nat} {row:Row} (hl:rs.length≤128) (h:exX ci as bs base rs r=some row):row.m= .own:=by
  unfold exX at h
  cases hp:ci.pb
  · rw [hp] at h;exact exH_own hl h
  · rw [hp] at h
    simp only [cond_true] at h
    by_cases hr:r=base
    · subst hr;rw [upd_same] at h;cases h;rfl
    · rw [upd_other _ _ _ _ hr] at h;cases h
theorem exX_or (ci:CInfo) (as:List V) (bs:List Nat) (base:Nat) (rs:List V) (h:Nat→Option Row) (r:Nat):
    hpX ci as bs base rs h r=match exX ci as bs base rs r with | some x=>some x | none=>h r:=by
  unfold exX hpX
  cases hp:ci.pb
  · exact exH_or _ _ _ _ _ _ _ _ _
  · simp only [cond_true]
    by_cases hr:r=base
    · subst hr;rw [upd_same,upd_same]
    · rw [upd_other _ _ _ _ hr,upd_other _ _ _ _ hr]
def LessH (h' h:Nat→Option Row):Prop:=∀ r row',h' r=some row'→∃ row,h r=some row∧row.c=row'.c∧(row'.m.isRo=false→row.m.isRo=false)
theorem LessH.refl (h:Nat→Option Row):LessH h h:=fun _ row' h=>⟨row',h,rfl,id⟩
theorem LessH.trans {a b c:Nat→Option Row} (h:LessH a b) (k:LessH b c):LessH a c:=fun r row' hr=>by
  obtain ⟨row,h1,h2,h3⟩:=h r row' hr
  obtain ⟨row2,k1,k2,k3⟩:=k r row h1
  exact ⟨row2,k1,k2.trans h2,fun h=>k3 (h3 h)⟩
theorem less_kill (h:Nat→Option Row) (r:Nat):LessH (upd h r none) h:=fun q row' hq=>by
  by_cases hqr:q=r
  · subst hqr;rw [upd_same] at hq;cases hq
  · rw [upd_other _ _ _ _ hqr] at hq;exact ⟨row',hq,rfl,id⟩
theorem takeLeaves_less (ow:List Nat):∀ (cs:List V) (p:Nat) (h:Nat→Option Row) (x:List V × (Nat→Option Row)),takeLeaves ow p cs h=some x→LessH x.2 h
  | [],p,h,x,ht=>by simp [takeLeaves] at ht;subst ht;exact LessH.refl h
  | c :: cs,p,h,x,ht=>by
    simp only [takeLeaves] at ht
    cases hb:ow.any (Nat.beq p)
    · simp only [hb,cond_false] at ht
      split at ht
      case h_2=>cases ht
      split at ht
      case h_2=>cases ht
      rename_i hr
      cases ht
      exact (takeLeaves_less ow cs _ _ _ hr).trans (markRo_less h _)
    · simp only [hb,cond_true] at ht
      split at ht
      · split at ht
        case h_2=>cases ht
        split at ht
        case h_2=>cases ht
        rename_i hr
        cases ht
        exact (takeLeaves_less ow cs _ _ _ hr).trans (less_kill h _)
      · split at ht
        case h_2=>cases ht
        rename_i hr
        cases ht
        have:=takeLeaves_less ow cs _ _ _ hr
        exact this
      · cases ht
theorem takeArgs_less:∀ (ks:List ArgK) (as:List V) (h:Nat→Option Row) (x:List V × (Nat→Option Row) × List Nat),takeArgs ks as h=some x→LessH x.2.1 h
  | [],[],h,x,ht=>by simp [takeArgs] at ht;subst ht;exact LessH.refl h
  | [],_ :: _,h,x,ht=>by simp [takeArgs] at ht
  | .plain :: ks,[],h,x,ht=>by simp [takeArgs] at ht
  | .ptr _ :: ks,[],h,x,ht=>by simp [takeArgs] at ht
  | .mv _ :: ks,[],h,x,ht=>by simp [takeArgs] at ht
  | .mv ow :: ks,v :: vs,h,x,ht=>by
    obtain ⟨cs,rfl⟩:=takeArgs_mv ht
    simp only [takeArgs] at ht
    cases hb:Nat.ble cs.length 127
    case false=>simp [hb] at ht
    simp only [hb,cond_true] at ht
    split at ht
    · cases ht
    rename_i hl
    split at ht
    · cases ht
    rename_i hr
    cases ht
    exact (takeArgs_less ks vs _ _ hr).trans (takeLeaves_less _ _ _ _ _ hl)
  | .plain :: ks,v :: vs,h,x,ht=>by
    simp only [takeArgs] at ht
    split at ht
    · cases ht
    split at ht
    · cases ht
    rename_i hr
    cases ht
    exact (takeArgs_less ks vs _ _ hr).trans (markRo_less h _)
  | .ptr ow :: ks,v :: vs,h,x,ht=>by
    obtain ⟨r,rfl⟩:=takeArgs_ptr ht
    simp only [takeArgs] at ht
    split at ht
    case h_2=>cases ht
    rename_i cs _
    cases hb:Nat.ble cs.length 127
    case false=>simp [hb] at ht
    simp only [hb,cond_true] at ht
    split at ht
    · cases ht
    rename_i hl
    split at ht
    · cases ht
    rename_i hr
    cases ht
    exact (takeArgs_less ks vs _ _ hr).trans ((takeLeaves_less _ _ _ _ _ hl).trans (less_kill h r))
section
variable {C:Cx} {w0:World} {outer own:Nat→Prop} {ρ:Nat→Option RI} {st st':St} {a:Act} {w:World} {h:Nat→Option Row}
theorem HRel.sub (hh:HRel w0 outer own ρ h w) {w1:World} {outer' own':Nat→Prop} {e:Nat→Option Row} {ρe:Nat→Option RI} (φ:Nat→Nat) (hwx:Wx w1 w)
    (hold:∀ b,b<w1.heap.size→¬ own' b→w.heap[b]?=w1.heap[b]?) (hout:∀ b,outer' b→b<w1.heap.size∧¬ own' b)
    (hrow:∀ q row,e q=some row→∃ row' ri,h (φ q)=some row'∧ρe q=some ri∧ρ (φ q)=some ri∧RowOk w ρe (Bad outer' ρe e) ri row.c∧(ri.nl=false→¬ outer' ri.b∧(row.m.isRo=false→w1.heap.size≤ri.b∨own' ri.b)))
    (hinj:∀ q q' row row',e q=some row→e q'=some row'→φ q=φ q'→q=q'):HRel w1 outer' own' ρe e w:=by
  refine ⟨hwx,hold,hout,fun q row hq=>?_,fun q q' row row' qi qi' h1 h2 h3 h4 h5 h6 h7=>?_⟩
  · obtain ⟨row',ri,h1,h2,h3,h4,h5⟩:=hrow q row hq
    obtain ⟨ri',k1,_,k2⟩:=hh.rows _ _ h1
    rw [h3] at k1;cases k1
    exact ⟨ri,h2,h4,fun hn=>⟨h5 hn,(k2 hn).2⟩⟩
  · obtain ⟨r1,ri1,g1,g2,g3,_,_⟩:=hrow q row h1
    obtain ⟨r2,ri2,g4,g5,g6,_,_⟩:=hrow q' row' h2
    rw [h3] at g2;cases g2;rw [h4] at g5;cases g5
    exact hinj q q' row row' h1 h2 (hh.inj _ _ _ _ _ _ g1 g4 g3 g6 h5 h6 h7)
variable {bad:Nat→Prop} {g:Nat→Option Row} {N0:Nat}
theorem EntOk.row {ks:List ArgK} {k:Nat} {as:List V} {bs:List Nat} {u:Nat→Value} (he:EntOk w ρ bad g N0 ks k as bs u):∀ {q:Nat} {row:Row},entH ks k as q=some row→
    128 *k≤q∧q<128 *(k+ks.length)∧
    ((∃ b ow k' cs ri,boxOf ks k bs q=some b∧q=128 *k'+127∧k≤k'∧k'<k+ks.length∧row=⟨.box (thawL ow (128 *k') 0 cs), .own⟩∧g b=some ⟨.box (thawL ow (N0+128 *k') 0 cs), .own⟩∧ρ b=some ri∧ri.nl=false∧
      cs.length≤127∧(∀ j (hj:j<cs.length),NoRef cs[j])∧b<N0∧∀ p t l,cs[p]?=some (.sl t l)→ow.any (Nat.beq p)=true→entH ks k as (128 *k'+p)=some ⟨.arr t l, .own⟩)∨
    (∃ t l,row=⟨.arr t l, .own⟩∧g (N0+q)=some row∧q % 128≠127)):=by
  induction he with
  | nil=>intro q row h;simp [entH] at h
  | plain hv hn hr ih=>
    rename_i ks k v as bs u
    intro q row h
    simp only [entH] at h
    obtain ⟨h1,h2,h3⟩:=ih h
    refine ⟨by omega,by simp;omega,?_⟩
    rcases h3 with ⟨b,ow,k',cs,ri,e1,e2,e3,e4,e5,e6,e7,e8,e9,e10,e11,e12⟩ | h3
    · exact .inl ⟨b,ow,k',cs,ri,e1,e2,by omega,by simp;omega,e5,e6,e7,e8,e9,e10,e11,fun p t l h4 h5=>by simp only [entH];exact e12 p t l h4 h5⟩
    · exact .inr h3
  | ptr ri hρ hnl hu hg hl hq hc hb hr ih=>
    rename_i ow ks k b cs as bs u
    intro q row h
    simp only [entH] at h
    by_cases hq63:q=128 *k+127
    · subst hq63
      rw [upd_same] at h;cases h
      exact ⟨by omega,by simp;omega, .inl ⟨b,ow,k,cs,ri,by simp [boxOf],rfl,Nat.le_refl _,by simp,rfl,hg,hρ,hnl,hl,fun j hj=>(hc j hj).1,hb,fun p t l h4 h5=>by
        have hp:p<cs.length:=by
          rcases Nat.lt_or_ge p cs.length with h | h
          · exact h
          · rw [List.getElem?_eq_none h] at h4;cases h4
        simp only [entH]
        rw [upd_other _ _ _ _ (by omega),thawH_or,thawH_some ow (128 *k) cs 0 p t l (Nat.zero_le _) h4 h5]⟩⟩
    · rw [upd_other _ _ _ _ hq63,thawH_or] at h
      split at h
      · rename_i x hx
        cases h
        obtain ⟨t,l,e1,e2,e3⟩:=thawH_arr _ _ _ _ _ _ hx
        refine ⟨by omega,by simp;omega, .inr ⟨t,l,e1,?_,by omega⟩⟩
        have h1:=hq (q - 128 *k) (by omega)
        have h2:=thawH_shift ow (128 *k) (N0+128 *k) cs 0 (q - 128 *k)
        rw [show 128 *k+(q - 128 *k)=q by omega,hx] at h2
        rw [show N0+128 *k+(q - 128 *k)=N0+q by omega] at h1 h2
        rw [h1, ← h2]
      · obtain ⟨h1,h2,h3⟩:=ih h
        refine ⟨by omega,by simp;omega,?_⟩
        rcases h3 with ⟨b',ow',k',cs',ri',e1,e2,e3,e4,e5,e6,e7,e8,e9,e10,e11,e12⟩ | h3
        · refine .inl ⟨b',ow',k',cs',ri',?_,e2,by omega,by simp;omega,e5,e6,e7,e8,e9,e10,e11,fun p t l h4 h5=>?_⟩
          · simp only [boxOf];rw [if_neg hq63];exact e1
          · have hp:p<cs'.length:=by
              rcases Nat.lt_or_ge p cs'.length with h | h
              · exact h
              · rw [List.getElem?_eq_none h] at h4;cases h4
            simp only [entH]
            rw [upd_other _ _ _ _ (by omega),thawH_or,thawH_none _ _ _ _ _ (by omega)]
            exact e12 p t l h4 h5
        · exact .inr h3
  | mv hv hl hq hc hr ih=>
    rename_i ow ks k cs as bs u
    intro q row h
    simp only [entH] at h
    rw [thawH_or] at h
    split at h
    · rename_i x hx
      cases h
      obtain ⟨t,l,e1,e2,e3⟩:=thawH_arr _ _ _ _ _ _ hx
      refine ⟨by omega,by simp;omega, .inr ⟨t,l,e1,?_,by omega⟩⟩
      have h1:=hq (q - 128 *k) (by omega)
      have h2:=thawH_shift ow (128 *k) (N0+128 *k) cs 0 (q - 128 *k)
      rw [show 128 *k+(q - 128 *k)=q by omega,hx] at h2
      rw [show N0+128 *k+(q - 128 *k)=N0+q by omega] at h1 h2
      rw [h1, ← h2]
    · obtain ⟨h1,h2,h3⟩:=ih h
      refine ⟨by omega,by simp;omega,?_⟩
      rcases h3 with ⟨b',ow',k',cs',ri',e1,e2,e3,e4,e5,e6,e7,e8,e9,e10,e11,e12⟩ | h3
      · refine .inl ⟨b',ow',k',cs',ri',e1,e2,by omega,by simp;omega,e5,e6,e7,e8,e9,e10,e11,fun p t l h4 h5=>?_⟩
        have hp:p<cs'.length:=by
          rcases Nat.lt_or_ge p cs'.length with h | h
          · exact h
          · rw [List.getElem?_eq_none h] at h4;cases h4
        simp only [entH]
        rw [thawH_or,thawH_none _ _ _ _ _ (by omega)]
        exact e12 p t l h4 h5
      · exact .inr h3
theorem EntOk.vals {ks:List ArgK} {k:Nat} {as:List V} {bs:List Nat} {u:Nat→Value} (he:EntOk w ρ bad g N0 ks k as bs u) {ρc:Nat→Option RI} {badc:Nat→Prop}
    (hb:∀ b,badc b→bad b) (hρ:∀ q b,boxOf ks k bs q=some b→ρc q=ρ b) (hρ2:∀ q row,entH ks k as q=some row→q % 128≠127→ρc q=ρ (N0+q)):
    (entS ks k as).length=ks.length∧∀ j (hj:j<(entS ks k as).length),VR w ρc badc (u j) (entS ks k as)[j]:=by
  induction he with
  | nil=>exact ⟨rfl,fun j hj=>by simp [entS] at hj⟩
  | plain hv hn hr ih=>
    rename_i ks k v as bs u
    obtain ⟨h1,h2⟩:=ih (fun q b h=>hρ q b h) fun q row h=>hρ2 q row h
    refine ⟨by simp [entS,h1],fun j hj=>?_⟩
    cases j with
    | zero=>exact (hv.noRef hn ρc).mono (fun _ _ h=>h) (fun _ _ _=>rfl) fun b h=> .inl (hb b h)
    | succ j=>exact h2 j (by simpa [entS] using hj)
  | ptr ri hρb hnl hu hg hl hq hc hb0 hr ih=>
    rename_i ow ks k b cs as bs u
    obtain ⟨h1,h2⟩:=ih (fun q b' h=>hρ q b' (by
      obtain ⟨h3,_⟩:=boxOf_ge _ _ _ _ _ h
      simp only [boxOf];rw [if_neg (by omega)];exact h)) fun q row h h3=>hρ2 q row (by
      have:=(hr.row h).1
      simp only [entH]
      rw [upd_other _ _ _ _ (by omega),thawH_or,thawH_none _ _ _ _ _ (by omega)];exact h) h3
    refine ⟨by simp [entS,h1],fun j hj=>?_⟩
    cases j with
    | zero=>
      show VR w ρc badc (u 0) (.bp (128 *k+127) 0)
      rw [hu]
      exact .bp _ _ ri (by rw [hρ (128 *k+127) b (by simp [boxOf])];exact hρb) hnl
    | succ j=>exact h2 j (by simpa [entS] using hj)
  | mv hv hl hq hc hr ih=>
    rename_i ow ks k cs as bs u
    obtain ⟨h1,h2⟩:=ih (fun q b h=>hρ q b h) fun q row h h3=>hρ2 q row (by
      have:=(hr.row h).1
      simp only [entH]
      rw [thawH_or,thawH_none _ _ _ _ _ (by omega)];exact h) h3
    refine ⟨by simp [entS,h1],fun j hj=>?_⟩
    cases j with
    | zero=>
      show VR w ρc badc (u 0) (.agg (thawL ow (128 *k) 0 cs))
      generalize u 0=u0 at hv
      cases hv with
      | agg _ vs hs hvs=>
      refine .agg _ vs (by rw [thawL_len];rw [thawL_len] at hs;exact hs) ?_
      refine thawL_shift ow (N0+128 *k) (128 *k) cs 0 (fun j=>vs.getD j undef) (fun q' h3 h4 h5 h6=>?_) (fun j hj=>(hc j hj).1) hb (fun j hj=>hvs j hj)
      obtain ⟨t,l,h6⟩:=h6
      have h0:entH (.mv ow :: ks) k (.agg cs :: as) (128 *k+q')=some ⟨.arr t l, .own⟩:=by
        simp only [entH]
        rw [thawH_or,thawH_some ow (128 *k) cs 0 q' t l (Nat.zero_le _) h6 h5]
      have:=hρ2 _ _ h0 (by omega)
      rw [this];congr 1;omega
    | succ j=>exact h2 j (by simpa [entS] using hj)
theorem EntOk.found {ks:List ArgK} {k:Nat} {as:List V} {bs:List Nat} {u:Nat→Value} (he:EntOk w ρ bad g N0 ks k as bs u):∀ {q b:Nat},boxOf ks k bs q=some b→∃ row,entH ks k as q=some row:=by
  induction he with
  | nil=>intro q b h;simp [boxOf] at h
  | plain hv hn hr ih=>intro q b h;simp only [boxOf] at h;simp only [entH];exact ih h
  | ptr ri hρ hnl hu hg hl hq hc hb hr ih=>
    rename_i ow ks k b0 cs as bs u
    intro q b h
    simp only [boxOf] at h
    simp only [entH]
    by_cases hq63:q=128 *k+127
    · subst hq63;exact ⟨_,upd_same _ _ _⟩
    · rw [if_neg hq63] at h
      obtain ⟨row,h1⟩:=ih h
      have:=(boxOf_ge _ _ _ _ _ h).1
      rw [upd_other _ _ _ _ hq63,thawH_or,thawH_none _ _ _ _ _ (by omega)]
      exact ⟨row,h1⟩
  | mv hv hl hq hc hr ih=>
    rename_i ow ks k cs as bs u
    intro q b h
    simp only [boxOf] at h
    simp only [entH]
    obtain ⟨row,h1⟩:=ih h
    have:=(boxOf_ge _ _ _ _ _ h).1
    rw [thawH_or,thawH_none _ _ _ _ _ (by omega)]
    exact ⟨row,h1⟩
theorem EntOk.surj {ks:List ArgK} {k:Nat} {as:List V} {bs:List Nat} {u:Nat→Value} (he:EntOk w ρ bad g N0 ks k as bs u):∀ b ∈ bs,∃ q,boxOf ks k bs q=some b:=by
  induction he with
  | nil=>intro b hb;simp at hb
  | plain hv hn hr ih=>intro b hb;obtain ⟨q,h⟩:=ih b hb;exact ⟨q,h⟩
  | mv hv hl hq hc hr ih=>intro b hb;obtain ⟨q,h⟩:=ih b hb;exact ⟨q,h⟩
  | ptr ri hρb hnl hu hg hl hq hc hb0 hr ih=>
    rename_i ow ks k b cs as bs u
    intro b' hb'
    rcases List.mem_cons.1 hb' with rfl | hb'
    · exact ⟨128 *k+127,by simp [boxOf]⟩
    · obtain ⟨q,h⟩:=ih b' hb'
      refine ⟨q,?_⟩
      have:=(boxOf_ge _ _ _ _ _ h).1
      simp only [boxOf];rw [if_neg (by omega)];exact h
theorem rowOk_closed {bad2:Nat→Prop} {ri:RI} {t:TN} {l:List (El t)} (hr:RowOk w ρ bad ri (.arr t l)) (hb:∀ b,bad2 b→bad b) (ρ2:Nat→Option RI):RowOk w ρ2 bad2 ri (.arr t l):=by
  refine ⟨hr.1,?_⟩
  rcases hr.2 with h | ⟨h1,h2,h3,h4,h5⟩
  · exact .inl h
  · refine .inr ⟨h1,h2,h3,h4,fun i hi j hj=>?_⟩
    obtain ⟨u,h6,h7⟩:=h5 i hi j hj
    exact ⟨u,h6,(h7.noRef (fun S=>rin_enc S t _ j) ρ2).mono (fun _ _ h=>h) (fun _ _ _=>rfl) fun b h=> .inl (hb b h)⟩
end
end Go.D
namespace Go.D
structure PhiOk (C:Cx):Prop where
  ok:∀ k ci,C.Φ k=some ci→Contract C.P (k % 1048576) ci C.g
section
variable {C:Cx} {w0:World} {outer own:Nat→Prop} {ρ:Nat→Option RI} {st st':St} {a:Act} {w:World} {h:Nat→Option Row}
theorem Rel.grow (hr:Rel C w0 outer own ρ st a w) {w1:World} (hx:Wx w w1) (ho:∀ b,b<w.heap.size→w1.heap[b]?=w.heap[b]?):Rel C w0 outer own ρ st a w1:=by
  have hv:∀ u d,VR w ρ (Bad outer ρ st.h) u d→VR w1 ρ (Bad outer ρ st.h) u d:=fun u d hu=>hu.mono (fun _ _ h=>h) (fun b _ hb=>ho b hb) fun b hb=> .inl hb
  refine ⟨⟨hr.heap.wx.trans hx,fun b hb hn=>(ho b (Nat.lt_of_lt_of_le hb hr.heap.wx.size)).trans (hr.heap.old b hb hn),hr.heap.outLt,fun r row h=>?_,hr.heap.inj⟩,fun i=>hv _ _ (hr.slots i),hr.size,hr.defers,hr.glob⟩
  obtain ⟨ri,h1,h2,h3⟩:=hr.heap.rows r row h
  exact ⟨ri,h1,h2.keep (fun hn=>ho _ (h3 hn).2) hv,fun hn=>⟨(h3 hn).1,Nat.lt_of_lt_of_le (h3 hn).2 hx.size⟩⟩
inductive Sc:V→Prop where
  | undef:Sc .undef
  | bool (b:Bool):Sc (.bool b)
  | int (k:IntKind) (n:Int):Sc (.int k n)
  | str (s:List UInt8):Sc (.str s)
  | nil:Sc .nil
  | ow (r:Nat):Sc (.ow r)
  | agg (cs:List V) (h:∀ c ∈ cs,Sc c):Sc (.agg cs)
  | tup (cs:List V) (h:∀ c ∈ cs,Sc c):Sc (.tup cs)
theorem VR.sc {ρ':Nat→Option RI} {bad bad':Nat→Prop} {w':World} {v:Value} {d:V} (h:VR w ρ bad v d) (hs:Sc d) (hρ:∀ r ri,ρ r=some ri→ρ' r=some ri):VR w' ρ' bad' v d:=by
  induction h with
  | undef=>exact .undef _
  | bool=>exact .bool _
  | int k n h=>exact .int _ _ h
  | str s h=>exact .str _ h
  | nil=>exact .nil
  | ow r ri h h1 h2 h3=>exact .ow _ _ (hρ _ _ h) h1 h2 h3
  | owN r ri ao h h1 h2=>exact .owN _ _ _ (hρ _ _ h) h1 h2
  | agg cs vs hsz hv ih=>
    cases hs with
    | agg _ hs=>exact .agg _ _ hsz fun j hj=>ih j hj (hs _ (List.getElem_mem hj))
  | tup cs vs hsz hv ih=>
    cases hs with
    | tup _ hs=>exact .tup _ _ hsz fun j hj=>ih j hj (hs _ (List.getElem_mem hj))
  | _=>cases hs
theorem sc_of {v:V} (h:scalarV v=true):Sc v:=by
  cases v <;> simp [scalarV] at h
  · exact .bool _
  · exact .int _ _
  · exact .str _
theorem sc_enc {t:TN} (h:t.flat=true) (x:El t) (j:Nat):Sc ((enc t x).getD j .undef):=by
  have hall:∀ c ∈ enc t x,Sc c:=by
    cases t <;> simp [TN.flat] at h <;> intro c hc <;> simp [enc] at hc <;> (try subst hc) <;> (try exact sc_of rfl) <;> (repeat' (rcases hc with rfl | hc)) <;> (try subst hc) <;> first | exact sc_of rfl | skip
    all_goals (simp [encAddr,encCredit,encTimer,encForm] at hc;repeat' (rcases hc with rfl | hc)) <;> (try subst hc) <;> exact sc_of rfl
  rw [List.getD_eq_getElem?_getD]
  by_cases hj:j<(enc t x).length
  · rw [List.getElem?_eq_getElem hj];exact hall _ (List.getElem_mem hj)
  · rw [List.getElem?_eq_none (by omega)];exact .undef
theorem sc_packs:∀ (sh:List (Bool × Nat)) (vs:List V),(∀ v ∈ vs,Sc v)→∀ v ∈ packs sh vs,Sc v
  | [],vs,h,v,hv=>by simp [packs] at hv
  | (ag,n) :: sh,vs,h,v,hv=>by
    simp only [packs] at hv
    rcases List.mem_cons.1 hv with rfl | hv
    · cases ag
      · cases vs with
        | nil=>exact .undef
        | cons x vs=>exact h x (by simp)
      · exact .agg _ fun c hc=>h c (List.mem_of_mem_take hc)
    · exact sc_packs sh (vs.drop n) (fun v hv=>h v (List.mem_of_mem_drop hv)) v hv
theorem sc_pack (sh:List (Bool × Nat)) (vs:List V) (h:∀ v ∈ vs,Sc v):Sc (pack sh vs):=by
  have:=sc_packs sh vs h
  unfold pack
  split
  · rename_i v hv;exact this v (by rw [hv];simp)
  · exact .tup _ this
theorem sc_thaw (ow:List Nat) (base:Nat):∀ (vs:List V) (p:Nat),pureR ow p vs=true→(∀ v ∈ thawL ow base p vs,Sc v)∧∀ q t l,thawH ow base (fun _=>none) p vs q=some ⟨.arr t l, .own⟩→t.flat=true
  | [],p,h=>⟨fun v hv=>by simp [thawL] at hv,fun q t l hq=>by simp [thawH] at hq⟩
  | v :: vs,p,h=>by
    cases v <;> simp only [pureR,Bool.and_eq_true] at h
    case sl t l=>
      obtain ⟨⟨h1,h2⟩,h3⟩:=h
      obtain ⟨i1,i2⟩:=sc_thaw ow base vs (p+1) h3
      simp only [thawL,thawH,h1,cond_true]
      refine ⟨fun v hv=>?_,fun q t' l' hq=>?_⟩
      · rcases List.mem_cons.1 hv with rfl | hv
        · exact .ow _
        · exact i1 v hv
      · by_cases hqb:q=base+p
        · subst hqb;rw [upd_same] at hq;cases hq;exact h2
        · rw [upd_other _ _ _ _ hqb] at hq;exact i2 q t' l' hq
    all_goals
      obtain ⟨h1,h3⟩:=h
      obtain ⟨i1,i2⟩:=sc_thaw ow base vs (p+1) h3
      simp only [thawL,thawH]
      refine ⟨fun v hv=>?_,i2⟩
      rcases List.mem_cons.1 hv with rfl | hv
      · exact sc_of h1
      · exact i1 v hv
theorem putBoxes_plain:∀ (ks:List ArgK) (as:List V) (bs:List Nat) (vs:List V) (h:Nat→Option Row),ks.all ArgK.isPlain=true→putBoxes ks as bs vs h=h
  | [],as,bs,vs,h,hp=>by cases as <;> rfl
  | .plain :: ks,[],bs,vs,h,hp=>rfl
  | .plain :: ks,a :: as,bs,vs,h,hp=>by
    simp only [List.all_cons,Bool.and_eq_true] at hp
    show putBoxes ks as bs vs h=h
    exact putBoxes_plain ks as bs vs h hp.2
  | .ptr _ :: ks,as,bs,vs,h,hp=>by simp [ArgK.isPlain] at hp
  | .mv _ :: ks,as,bs,vs,h,hp=>by simp [ArgK.isPlain] at hp
theorem entH_plain0:∀ (ks:List ArgK) (k:Nat) (as:List V),ks.all ArgK.isPlain=true→entH ks k as=fun _=>none
  | [],k,as,h=>by cases as <;> rfl
  | .plain :: ks,k,[],h=>rfl
  | .plain :: ks,k,a :: as,h=>by
    simp only [List.all_cons,Bool.and_eq_true] at h
    show entH ks (k+1) as=_
    exact entH_plain0 ks (k+1) as h.2
  | .ptr _ :: ks,k,as,h=>by simp [ArgK.isPlain] at h
  | .mv _ :: ks,k,as,h=>by simp [ArgK.isPlain] at h
theorem free_less (h:Nat→Option Row):LessH (freeH h) h:=fun r row' hr=>by
  unfold freeH at hr
  split at hr
  · rename_i c h1;cases hr;exact ⟨_,h1,rfl,fun _=>rfl⟩
  · exact ⟨row',hr,rfl,id⟩
theorem free_more (h:Nat→Option Row):LessH h (freeH h):=fun r row hr=>by
  unfold freeH
  obtain ⟨c,m⟩:=row
  cases m
  · exact ⟨_,by rw [hr],rfl,fun _=>rfl⟩
  · exact ⟨_,by rw [hr],rfl,fun h=>h⟩
  · exact ⟨⟨c, .own⟩,by rw [hr],rfl,fun _=>rfl⟩
theorem Rel.less (hr:Rel C w0 outer own ρ st a w) {h':Nat→Option Row} (hl:LessH h' st.h):Rel C w0 outer own ρ { st with h:=h' } a w:=
  ⟨(hr.heap.less hl).1,fun i=>(hr.heap.less hl).2 _ _ (hr.slots i),hr.size,hr.defers,hr.glob⟩
variable {o:Oper} {i:Nat} (hr:Rel C w0 outer own ρ st a w)
include hr
theorem ok_callT (hfin:∃ N,∀ r,N≤r→ρ r=none) (hfr:∀ q,q<128→ρ (i+q)=none) (f:Nat) (args:Array Value) (as:List V) (hsz:args.size=as.length)
    (hargs:∀ j (hj:j<as.length),VR w ρ (Bad outer ρ st.h) (args.getD j undef) as[j]) (hexec:(execOp a.eval o).run C.P w=(callFunc f args).run C.P w)
    {ci:CInfo} (hci:Contract C.P f ci C.g) {as':List V} {h':Nat→Option Row} {bs:List Nat} (hta:takeArgs ci.ks as st.h=some (as',h',bs)) {x:ci.A} (hdA:ci.dA as'=some x) {r:ci.R} (hF:ci.F x=some r)
    (hle:(ci.eR r).length≤128) (hk:putK C o.dst { st with h:=hpX ci as' bs i (ci.eR r) (bif pureC ci (ci.eR r) then st.h else h') } (resX ci i (ci.eR r)) some=some st'):
    Does C.P o a w (After C w0 outer own i ρ st'):=by
  obtain ⟨N,hN⟩:=hfin
  -- the arguments
  have hhN:∀ q,N≤q→st.h q=none:=fun q hq=>by
    cases hg:st.h q with
    | none=>rfl
    | some row=>obtain ⟨ri,h3,_⟩:=hr.heap.rows _ _ hg;rw [hN q hq] at h3;cases h3
  obtain ⟨ρ',g',c1,c2,c3,c4,c5,c6,c7,c8,c9,c10,c11⟩:=take_args N ci.ks as st.h h' as' bs 0 ρ st.h (fun j=>args.getD j undef) hta hr.heap hargs (fun _ _ h=>h) (fun r hr=>hN r (by omega)) hhN
  have hless:=takeArgs_less _ _ _ _ hta
  simp only at hless
  let φ:Nat→Nat:=fun q=>(boxOf ci.ks 0 bs q).getD (N+q)
  let E:=entH ci.ks 0 as'
  let ρc:Nat→Option RI:=fun q=>if (E q).isSome=true then ρ' (φ q) else none
  let ownc:Nat→Prop:=fun b=>∃ q row ri,E q=some row∧ρc q=some ri∧ri.nl=false∧ri.b=b
  let outc:Nat→Prop:=Bad outer ρ' h'
  have hbN:∀ b ∈ bs,b<N:=fun b hb=>by
    rcases Nat.lt_or_ge b N with h3 | h3
    · exact h3
    · exact absurd (hhN b h3) (c8 b hb).2
  have hφbox:∀ q b,boxOf ci.ks 0 bs q=some b→φ q=b:=fun q b h=>by simp [φ,h]
  have hφarr:∀ q,q % 128≠127→φ q=N+q:=fun q hq=>by
    have:boxOf ci.ks 0 bs q=none:=by
      cases hb:boxOf ci.ks 0 bs q with
      | none=>rfl
      | some b=>exact absurd (boxOf_ge _ _ _ _ _ hb).2.1 hq
    simp [φ,this]
  -- the rows of the entry
  have hE:∀ q row,E q=some row→∃ row' ri,g' (φ q)=some row'∧row'.m= .own∧h' (φ q)=none∧ρc q=some ri∧ρ' (φ q)=some ri:=fun q row hq=>by
    obtain ⟨h1,h2,h3⟩:=c7.row hq
    have hlt:(E q).isSome=true:=by show (entH ci.ks 0 as' q).isSome=true;have h0:entH ci.ks 0 as' q=some row:=hq;rw [h0];rfl
    rcases h3 with ⟨b,ow,k',cs,ri,e1,e2,e3,e4,e5,e6,e7,e8⟩ | ⟨t,l,e1,e2,e3⟩
    · refine ⟨_,ri,by rw [hφbox q b e1];exact e6,rfl,by rw [hφbox q b e1];exact (c8 b (boxOf_ge _ _ _ _ _ e1).2.2).1,?_,by rw [hφbox q b e1];exact e7⟩
      simp only [ρc,hlt,if_true,hφbox q b e1,e7]
    · obtain ⟨ri,f1,_⟩:=c1.rows _ _ e2
      subst e1
      refine ⟨_,ri,by rw [hφarr q e3];exact e2,rfl,by rw [hφarr q e3];exact c3 _ (hhN _ (by omega)),?_,by rw [hφarr q e3];exact f1⟩
      simp only [ρc,hlt,if_true,hφarr q e3,f1]
  have hown:∀ b,ownc b→∃ q row ri,g' q=some row∧row.m= .own∧h' q=none∧ρ' q=some ri∧ri.nl=false∧ri.b=b:=by
    rintro b ⟨q,row,ri,h1,h2,h3,h4⟩
    obtain ⟨row',ri',f1,f2,f3,f4,f5⟩:=hE q row h1
    rw [h2] at f4;cases f4
    exact ⟨_,row',ri,f1,f2,f3,f5,h3,h4⟩
  have hrest:∀ q row,h' q=some row→∃ ri,ρ' q=some ri∧(ri.nl=false→¬ ownc ri.b∧ri.b<w.heap.size∧(¬ outer ri.b∧(row.m.isRo=false→w0.heap.size≤ri.b∨own ri.b))):=fun q row hq=>by
    obtain ⟨ri,f1,_,f2⟩:=c1.rows q row (c2 q row hq)
    refine ⟨ri,f1,fun hn=>⟨fun ho=>?_,(f2 hn).2,(f2 hn).1⟩⟩
    obtain ⟨q',row',ri',e1,e2,e3,e4,e5,e6⟩:=hown _ ho
    have:=c1.inj q q' row row' ri ri' (c2 q row hq) e1 f1 e4 hn e5 e6.symm
    subst this;rw [hq] at e3;cases e3
  have hownlt:∀ b,ownc b→b<w.heap.size∧(w0.heap.size≤b∨own b):=fun b hb=>by
    obtain ⟨q',row',ri',e1,e2,e3,e4,e5,e6⟩:=hown _ hb
    obtain ⟨ri2,f1,_,f2⟩:=c1.rows q' row' e1
    rw [e4] at f1;cases f1
    rw [← e6];exact ⟨(f2 e5).2,(f2 e5).1.2 (by rw [e2];rfl)⟩
  have hout:∀ b,outc b→b<w.heap.size∧¬ ownc b:=by
    rintro b (hb | ⟨q,row,ri,f1,f2,f3,f4,f5⟩)
    · obtain ⟨g1,g2⟩:=c1.outLt b hb
      refine ⟨Nat.lt_of_lt_of_le g1 c1.wx.size,fun ho=>?_⟩
      rcases (hownlt b ho).2 with h3 | h3
      · omega
      · exact g2 h3
    · obtain ⟨ri',k1,k2⟩:=hrest q row f1
      rw [f3] at k1;cases k1
      rw [← f5];exact ⟨(k2 f4).2.1,(k2 f4).1⟩
  have hbadc:∀ b,Bad outc ρc E b→Bad outer ρ' g' b:=by
    rintro b (hb | ⟨q,row,ri,f1,f2,f3,f4,f5⟩)
    · exact hb.mono fun q row h1 h2=>⟨row,c2 q row h1,h2⟩
    · obtain ⟨row',ri',k1,k2,k3,k4,k5⟩:=hE q row f1
      rw [f3] at k4;cases k4
      exact .inr ⟨_,row',ri,k1,by rw [k2];rfl,k5,f4,f5⟩
  have hρcbox:∀ q b,boxOf ci.ks 0 bs q=some b→q<128 *ci.ks.length→ρc q=ρ' b:=fun q b h _=>by
    obtain ⟨row,h0⟩:=c7.found h
    have hlt:(E q).isSome=true:=by show (entH ci.ks 0 as' q).isSome=true;rw [h0];rfl
    simp only [ρc,hlt,if_true,hφbox q b h]
  have hboxlt:∀ q b,boxOf ci.ks 0 bs q=some b→q<128 *ci.ks.length:=fun q b h=>by have:=boxOf_lt _ _ _ _ _ h;omega
  have hent:HRel w outc ownc ρc E w:=by
    refine c1.sub φ (Wx.refl _) (fun _ _ _=>rfl) hout (fun q row hq=>?_) (fun q q' row row' h1 h2 h3=>?_)
    · obtain ⟨h1,h2,h3⟩:=c7.row hq
      obtain ⟨row',ri,f1,f2,f3,f4,f5⟩:=hE q row hq
      refine ⟨row',ri,f1,f4,f5,?_,fun hn=>⟨fun ho=>(hout _ ho).2 ⟨q,row,ri,hq,f4,hn,rfl⟩,fun _=> .inr ⟨q,row,ri,hq,f4,hn,rfl⟩⟩⟩
      obtain ⟨ri2,k1,k2,_⟩:=c1.rows _ _ f1
      rw [f5] at k1;cases k1
      rcases h3 with ⟨b,ow,k',cs,ri',e1,e2,e3,e4,e5,e6,e7,e8,e9,e10,e11,e12⟩ | ⟨t,l,e1,e2,e3⟩
      · rw [hφbox q b e1,e6] at f1;cases f1
        subst e5
        refine ⟨k2.1,fun j hj=>?_⟩
        rw [thawL_len] at hj
        obtain ⟨g1,x,g2,g3⟩:=k2.2 j (by rw [thawL_len];exact hj)
        refine ⟨g1,x,g2,?_⟩
        have:=thawL_shift (w:=w) (ρ:=ρ') (ρ2:=ρc) (bad:=Bad outer ρ' g') (bad2:=Bad outc ρc E) ow (N+128 *k') (128 *k') cs 0 (fun j=>(w.cell? (at_ ri.b j)).getD undef) (fun q' _ h4 h5 h6=>by
            obtain ⟨t,l,h6⟩:=h6
            have h0:=e12 q' t l (by simpa using h6) h5
            have hlt:(E (128 *k'+q')).isSome=true:=by show (entH ci.ks 0 as' (128 *k'+q')).isSome=true;rw [h0];rfl
            simp only [ρc,hlt,if_true]
            rw [hφarr _ (by omega)];congr 1;omega) e10 hbadc (fun j hj=>by
            obtain ⟨_,x,g2,g3⟩:=k2.2 j hj
            rw [g2];exact g3) j (by rw [thawL_len];exact hj)
        rw [g2] at this;exact this
      · subst e1
        rw [hφarr q e3,e2] at f1;cases f1
        exact rowOk_closed k2 hbadc ρc
    · obtain ⟨_,_,h4⟩:=c7.row h1
      obtain ⟨_,_,h5⟩:=c7.row h2
      rcases h4 with ⟨b,_,_,_,_,e1,_⟩ | ⟨_,_,_,_,e3⟩ <;> rcases h5 with ⟨b',_,_,_,_,e1',_⟩ | ⟨_,_,_,_,e3'⟩
      · rw [hφbox q b e1,hφbox q' b' e1'] at h3
        subst h3;exact boxOf_inj _ _ _ _ _ _ c9 e1 e1'
      · rw [hφbox q b e1,hφarr q' e3'] at h3
        have:=hbN b (boxOf_ge _ _ _ _ _ e1).2.2;omega
      · rw [hφbox q' b' e1',hφarr q e3] at h3
        have:=hbN b' (boxOf_ge _ _ _ _ _ e1').2.2;omega
      · rw [hφarr q e3,hφarr q' e3'] at h3;omega
  obtain ⟨hv1,hv2⟩:=c7.vals hbadc (fun q b h=>hρcbox q b h (hboxlt q b h)) fun q row h h3=>by
    have hlt:(E q).isSome=true:=by show (entH ci.ks 0 as' q).isSome=true;rw [h];rfl
    simp only [ρc,hlt,if_true,hφarr q h3]
  have hrange:∀ q,ρ q≠none→Out i 128 q:=fun q hq h3=>hq (by
    have:=hfr (q - i) (by omega)
    rwa [show i+(q - i)=q by omega] at this)
  have hsthρ:∀ q row,st.h q=some row→ρ q≠none:=fun q row hq=>by
    obtain ⟨ri,h3,_⟩:=hr.heap.rows _ _ hq;rw [h3];simp
  have hbsρ:∀ b ∈ bs,ρ b≠none:=fun b hb=>by
    cases hq:st.h b with
    | none=>exact absurd hq (c8 b hb).2
    | some row=>exact hsthρ b row hq
  have G:=hci w args as' outc ownc ρc x r i bs (by rw [hsz,c10]) hv1 hent hv2 (fun q hq=>by simp only [ρc];rw [if_neg];show ¬ (entH ci.ks 0 as' q).isSome=true;rw [hq];simp) c9 (fun b hb=>hrange b (hbsρ b hb)) hdA hF hle
    ⟨C.g.stay w0 w (fun c hc=>hr.heap.old c (Nat.lt_of_lt_of_le hc (C.g.lt _ hr.glob.p)) (hr.glob.own c hc)) hr.glob.p,fun c hc ho=>by
      have:=Nat.lt_of_lt_of_le hc (C.g.lt _ hr.glob.p)
      rcases (hownlt c ho).2 with h | h
      · omega
      · exact hr.glob.own c hc h⟩
  -- a call that leaves all as it is
  cases hpure:pureC ci (ci.eR r)
  case true=>
    simp only [hpure,cond_true] at hk
    simp only [pureC,Bool.and_eq_true,Bool.not_eq_true'] at hpure
    obtain ⟨⟨hpb,hpl⟩,hsc⟩:=hpure
    have hE0:E=fun _=>none:=entH_plain0 _ _ _ hpl
    have hno:∀ b,¬ ownc b:=by
      rintro b ⟨q,row,ri,h1,_⟩
      rw [hE0] at h1;cases h1
    obtain ⟨s1,s2⟩:=sc_thaw ci.own i (ci.eR r) 0 hsc
    have hres:Sc (resX ci i (ci.eR r)):=by
      unfold resX
      rw [hpb,cond_false]
      exact sc_pack _ _ s1
    have hXt:exX ci as' bs i (ci.eR r)=thawH ci.own i (fun _=>none) 0 (ci.eR r):=by
      unfold exX exH
      rw [hpb,cond_false,putBoxes_plain _ _ _ _ _ hpl]
    have fin0:∀ v w1,(∃ ρx,HRel w outc ownc ρx (exX ci as' bs i (ci.eR r)) w1∧
        VR w1 ρx (Bad outc ρx (exX ci as' bs i (ci.eR r))) v (resX ci i (ci.eR r))∧
        (∀ q b,boxOf ci.ks 0 bs q=some b→ρx b=ρc q)∧(∀ r,ρx r≠none→(i≤r∧r<i+128)∨r ∈ bs))→After C w0 outer own i ρ st' (a.put o.dst v) w1:=by
      rintro v w1 ⟨ρx,hX,hV,_,hdom⟩
      have hg:=hr.grow hX.wx fun b hb=>hX.old b hb (hno b)
      have hor:∀ q,hpX ci as' bs i (ci.eR r) st.h q=match exX ci as' bs i (ci.eR r) q with | some x=>some x | none=>st.h q:=fun q=>by
        rw [exX_or]
        all_goals (cases exX ci as' bs i (ci.eR r) q <;> rfl)
      generalize hXe:exX ci as' bs i (ci.eR r)=X at hX hV hor hXt
      generalize hpX ci as' bs i (ci.eR r) st.h=hnew at hk hor
      let ρn:Nat→Option RI:=fun q=>if i≤q∧q<i+128 then ρx q else ρ q
      have hrange:∀ q,ρ q≠none→¬ (i≤q∧q<i+128):=fun q hq h3=>hq (by
        have:=hfr (q - i) (by omega)
        rwa [show i+(q - i)=q by omega] at this)
      have hXin:∀ q row,X q=some row→i≤q∧q<i+128:=fun q row hq=>by
        rw [hXt] at hq
        obtain ⟨_,_,_,e1,e2⟩:=thawH_arr _ _ _ _ _ _ hq
        omega
      have hρo:∀ q ri,ρ q=some ri→ρn q=some ri:=fun q ri hq=>by
        simp only [ρn,hrange q (by rw [hq];simp),if_false];exact hq
      have hρX:∀ q row ri,X q=some row→ρx q=some ri→ρn q=some ri:=fun q row ri hq h3=>by
        simp only [ρn,hXin q row hq,and_self,if_true];exact h3
      have hXrow:∀ q row,X q=some row→∃ ri t l,row=⟨.arr t l, .own⟩∧t.flat=true∧ρx q=some ri∧RowOk w1 ρx (Bad outc ρx X) ri (.arr t l)∧(ri.nl=false→w.heap.size≤ri.b∧ri.b<w1.heap.size):=fun q row hq=>by
        obtain ⟨ri,k1,k2,k3⟩:=hX.rows q row hq
        have hq':=hq
        rw [hXt] at hq'
        obtain ⟨t,l,e0,_,_⟩:=thawH_arr _ _ _ _ _ _ hq'
        subst e0
        refine ⟨ri,t,l,rfl,s2 q t l hq',k1,k2,fun hn=>⟨?_,(k3 hn).2⟩⟩
        rcases (k3 hn).1.2 rfl with h | h
        · exact h
        · exact absurd h (hno _)
      have hcases:∀ q row,hnew q=some row→X q=some row∨(X q=none∧st.h q=some row):=fun q row hq=>by
        rw [hor] at hq
        cases hx:X q with
        | some y=>rw [hx] at hq;exact .inl hq
        | none=>rw [hx] at hq;exact .inr ⟨rfl,hq⟩
      have hstlt:∀ q row ri,st.h q=some row→ρ q=some ri→ri.nl=false→ri.b<w.heap.size:=fun q row ri hq h3 hn=>by
        obtain ⟨ri',k1,_,k3⟩:=hr.heap.rows q row hq
        rw [h3] at k1;cases k1;exact (k3 hn).2
      have hstρ:∀ q row,st.h q=some row→∃ ri,ρ q=some ri:=fun q row hq=>by
        obtain ⟨ri,k1,_⟩:=hr.heap.rows q row hq;exact ⟨ri,k1⟩
      have hbad1:∀ b,Bad outer ρn hnew b→Bad outer ρ st.h b∨w.heap.size≤b:=by
        rintro b (hb | ⟨q,row,ri,f1,f2,f3,f4,f5⟩)
        · exact .inl (.inl hb)
        · rcases hcases q row f1 with h3 | ⟨_,h3⟩
          · obtain ⟨ri',t,l,_,_,k1,_,k2⟩:=hXrow q row h3
            rw [hρX q row ri' h3 k1] at f3;cases f3
            exact .inr (by rw [← f5];exact (k2 f4).1)
          · obtain ⟨ri',k1⟩:=hstρ q row h3
            rw [hρo q ri' k1] at f3;cases f3
            exact .inl (.inr ⟨q,row,_,h3,f2,k1,f4,f5⟩)
      have keepAll:∀ u d,VR w ρ (Bad outer ρ st.h) u d→VR w1 ρn (Bad outer ρn hnew) u d:=fun u d hu=>
        hu.mono hρo (fun b _ hlt=>hX.old b hlt (hno b)) hbad1
      have hnewH:HRel w0 outer own ρn hnew w1:=by
        refine ⟨hg.heap.wx,hg.heap.old,hg.heap.outLt,fun q row hq=>?_,fun q q' row row' qi qi' h1 h2 h3 h4 h5 h6 h7=>?_⟩
        · rcases hcases q row hq with h3 | ⟨_,h3⟩
          · obtain ⟨ri,t,l,rfl,ht,k1,k2,k3⟩:=hXrow q row h3
            refine ⟨ri,hρX q _ ri h3 k1,⟨k2.1,?_⟩,fun hn=>⟨⟨fun ho=>?_,fun _=> .inl (Nat.le_trans hr.heap.wx.size (k3 hn).1)⟩,(k3 hn).2⟩⟩
            · rcases k2.2 with h4 | ⟨e1,e2,e3,e4,e5⟩
              · exact .inl h4
              · refine .inr ⟨e1,e2,e3,e4,fun a ha j hj=>?_⟩
                obtain ⟨u,f1,f2⟩:=e5 a ha j hj
                exact ⟨u,f1,f2.noRef (fun S=>rin_enc S t _ j) ρn |>.sc (sc_enc ht _ j) fun _ _ h=>h⟩
            · have:=(hr.heap.outLt _ ho).1
              have:=hr.heap.wx.size
              have:=(k3 hn).1
              omega
          · obtain ⟨ri,k1,k2,k3⟩:=hr.heap.rows q row h3
            exact ⟨ri,hρo q ri k1,k2.keep (fun hn=>hX.old _ (k3 hn).2 (hno _)) keepAll,fun hn=>⟨(k3 hn).1,Nat.lt_of_lt_of_le (k3 hn).2 hX.wx.size⟩⟩
        · rcases hcases q row h1 with k1 | ⟨_,k1⟩ <;> rcases hcases q' row' h2 with k2 | ⟨_,k2⟩
          · obtain ⟨r1,_,_,_,_,e1,_⟩:=hXrow q row k1
            obtain ⟨r2,_,_,_,_,e2,_⟩:=hXrow q' row' k2
            rw [hρX q row r1 k1 e1] at h3;cases h3;rw [hρX q' row' r2 k2 e2] at h4;cases h4
            exact hX.inj q q' row row' _ _ k1 k2 e1 e2 h5 h6 h7
          · obtain ⟨r1,_,_,_,_,e1,_,e2⟩:=hXrow q row k1
            obtain ⟨r2,e3⟩:=hstρ q' row' k2
            rw [hρX q row r1 k1 e1] at h3;cases h3;rw [hρo q' r2 e3] at h4;cases h4
            have h8:=(e2 h5).1
            have h9:=hstlt q' row' _ k2 e3 h6
            omega
          · obtain ⟨r1,_,_,_,_,e1,_,e2⟩:=hXrow q' row' k2
            obtain ⟨r2,e3⟩:=hstρ q row k1
            rw [hρX q' row' r1 k2 e1] at h4;cases h4;rw [hρo q r2 e3] at h3;cases h3
            have h8:=(e2 h6).1
            have h9:=hstlt q row _ k1 e3 h5
            omega
          · obtain ⟨r1,e1⟩:=hstρ q row k1
            obtain ⟨r2,e2⟩:=hstρ q' row' k2
            rw [hρo q r1 e1] at h3;cases h3;rw [hρo q' r2 e2] at h4;cases h4
            exact hr.heap.inj q q' row row' _ _ k1 k2 e1 e2 h5 h6 h7
      have hr1:Rel C w0 outer own ρn { st with h:=hnew } a w1:=hr.turn hnewH keepAll
      refine ⟨ρn,(hr1.put (hV.sc hres fun q ri hq=>?_) hk).1,fun q hq=>?_,hρo⟩
      · have:i≤q∧q<i+128:=by
          rcases hdom q (by rw [hq];simp) with h | h
          · exact h
          · exact absurd h (by
              have:bs=[]:=by
                cases bs with
                | nil=>rfl
                | cons b bs'=>
                  obtain ⟨q',hq'⟩:=c7.surj b (by simp)
                  obtain ⟨row,hrow⟩:=c7.found hq'
                  have:entH ci.ks 0 as'=fun _=>none:=hE0
                  rw [this] at hrow;cases hrow
              rw [this];simp)
        simp only [ρn,this,and_self,if_true];exact hq
      · simp only [ρn,hq,if_false]
    intro next Q hn
    unfold Oper.wp
    rw [hexec]
    rcases G with ⟨G1,G2⟩ | ⟨v,w1,G1,G2⟩
    · rw [G1,Oper.upon_enter]
      refine Calls.mono' G2 ?_
      rintro e w1 ⟨v,rfl,h3⟩
      exact hn _ _ (fin0 v w1 h3)
    · rw [G1,Oper.upon_value];exact hn _ _ (fin0 v w1 G2)
  simp only [hpure,cond_false] at hk
  -- behind the call
  have fin:∀ v w1,(∃ ρx,HRel w outc ownc ρx (exX ci as' bs i (ci.eR r)) w1∧
      VR w1 ρx (Bad outc ρx (exX ci as' bs i (ci.eR r))) v (resX ci i (ci.eR r))∧
      (∀ q b,boxOf ci.ks 0 bs q=some b→ρx b=ρc q)∧(∀ r,ρx r≠none→(i≤r∧r<i+128)∨r ∈ bs))→After C w0 outer own i ρ st' (a.put o.dst v) w1:=by
    rintro v w1 ⟨ρx,hX,hV,hbox,hdom⟩
    generalize hXe:exX ci as' bs i (ci.eR r)=X at hX hV
    have hor:∀ q,hpX ci as' bs i (ci.eR r) h' q=match X q with | some x=>some x | none=>h' q:=fun q=>by
      rw [exX_or,hXe]
      all_goals (cases X q <;> rfl)
    generalize hne:hpX ci as' bs i (ci.eR r) h'=hnew at hk hor
    let ρn:Nat→Option RI:=fun q=>if i≤q∧q<i+128 then ρx q else ρ q
    have hρbs:∀ b ∈ bs,ρx b=ρ b:=fun b hb=>by
      obtain ⟨q,hq⟩:=c7.surj b hb
      rw [hbox q b hq,hρcbox q b hq (hboxlt q b hq),c11 b (hbN b hb)]
    have hρx:∀ q,ρx q≠none→ρn q=ρx q:=fun q hq=>by
      by_cases hin:i≤q∧q<i+128
      · simp only [ρn,hin,and_self,if_true]
      · simp only [ρn,hin,if_false]
        rcases hdom q hq with h3 | h3
        · exact absurd h3 hin
        · exact (hρbs q h3).symm
    have hρo:∀ q,ρ q≠none→ρn q=ρ q:=fun q hq=>by
      have:¬ (i≤q∧q<i+128):=hrange q hq
      simp only [ρn,this,if_false]
    have hρ':∀ q ri,ρ q≠none→ρ' q=some ri→ρ q=some ri:=fun q ri hq h3=>by
      cases h4:ρ q with
      | none=>exact absurd h4 hq
      | some ri'=>have:=c5 _ _ h4;rw [h3] at this;rw [this]
    have hcases:∀ q row,hnew q=some row→X q=some row∨(X q=none∧h' q=some row):=fun q row hq=>by
      rw [hor] at hq
      cases hx:X q with
      | some y=>rw [hx] at hq;exact .inl hq
      | none=>rw [hx] at hq;exact .inr ⟨rfl,hq⟩
    have hh'ρ:∀ q row,h' q=some row→ρ q≠none:=fun q row hq=>by
      obtain ⟨row',h3,_⟩:=hless q row hq;exact hsthρ q row' h3
    have hXρ:∀ q row,X q=some row→ρn q=ρx q:=fun q row hq=>by
      obtain ⟨ri,h3,_⟩:=hX.rows q row hq
      exact hρx q (by rw [h3];simp)
    have hbad1:∀ b,Bad outer ρn hnew b→Bad outc ρx X b:=by
      rintro b (hb | ⟨q,row,ri,f1,f2,f3,f4,f5⟩)
      · exact .inl (.inl hb)
      · rcases hcases q row f1 with h3 | ⟨_,h3⟩
        · rw [hXρ q row h3] at f3;exact .inr ⟨q,row,ri,h3,f2,f3,f4,f5⟩
        · refine .inl (.inr ⟨q,row,ri,h3,f2,?_,f4,f5⟩)
          rw [hρo q (hh'ρ q row h3)] at f3;exact c5 _ _ f3
    have hownbad:∀ b,ownc b→Bad outer ρ' g' b:=fun b hb=>by
      obtain ⟨q,row,ri,e1,e2,e3,e4,e5,e6⟩:=hown b hb
      exact .inr ⟨q,row,ri,e1,by rw [e2];rfl,e4,e5,e6⟩
    have hbad2:∀ b,Bad outc ρx X b→Bad outer ρ' g' b∨w.heap.size≤b:=by
      rintro b (hb | ⟨q,row,ri,f1,f2,f3,f4,f5⟩)
      · exact .inl (hb.mono fun q row h1 h2=>⟨row,c2 q row h1,h2⟩)
      · obtain ⟨ri',k1,_,k2⟩:=hX.rows q row f1
        rw [f3] at k1;cases k1
        rcases (k2 f4).1.2 f2 with h3 | h3
        · exact .inr (by omega)
        · exact .inl (by rw [← f5];exact hownbad _ h3)
    have keepAll:∀ u d,VR w ρ (Bad outer ρ st.h) u d→VR w1 ρn (Bad outer ρn hnew) u d:=fun u d hu=>
      (c6 _ _ hu).keep hu.refs (fun q ri hq h3=>by rw [hρo q hq];exact hρ' q ri hq h3) (fun b hb hlt=>hX.old b hlt fun ho=>hb (hownbad b ho)) fun b hb=>hbad2 b (hbad1 b hb)
    have keepX:∀ u d,VR w1 ρx (Bad outc ρx X) u d→VR w1 ρn (Bad outer ρn hnew) u d:=fun u d hu=>
      hu.keep hu.refs (fun q ri hq h3=>by rw [hρx q hq];exact h3) (fun _ _ _=>rfl) fun b hb=> .inl (hbad1 b hb)
    have hXrow:∀ q row,X q=some row→∃ ri,ρn q=some ri∧ρx q=some ri∧RowOk w1 ρx (Bad outc ρx X) ri row.c∧(ri.nl=false→(w.heap.size≤ri.b∨ownc ri.b)∧ri.b<w1.heap.size):=fun q row hq=>by
      obtain ⟨ri,k1,k2,k3⟩:=hX.rows q row hq
      exact ⟨ri,by rw [hXρ q row hq];exact k1,k1,k2,fun hn=>⟨(k3 hn).1.2 (by rw [exX_own hle (by rw [← hXe] at hq;exact hq)];rfl),(k3 hn).2⟩⟩
    have hRrow:∀ q row,h' q=some row→∃ ri,ρn q=some ri∧ρ q=some ri∧ρ' q=some ri∧RowOk w ρ (Bad outer ρ st.h) ri row.c∧(ri.nl=false→¬ ownc ri.b∧ri.b<w.heap.size∧(¬ outer ri.b∧(row.m.isRo=false→w0.heap.size≤ri.b∨own ri.b))):=fun q row hq=>by
      obtain ⟨row',h3,h4,_⟩:=hless q row hq
      obtain ⟨ri,k1,k2,_⟩:=hr.heap.rows q row' h3
      obtain ⟨ri',k3,k4⟩:=hrest q row hq
      have:=c5 _ _ k1
      rw [k3] at this;cases this
      exact ⟨ri,by rw [hρo q (hh'ρ q row hq)];exact k1,k1,k3,by rw [← h4];exact k2,k4⟩
    have hnewH:HRel w0 outer own ρn hnew w1:=by
      refine ⟨hr.heap.wx.trans hX.wx,fun b hb ho=>?_,hr.heap.outLt,fun q row hq=>?_,fun q q' row row' qi qi' h1 h2 h3 h4 h5 h6 h7=>?_⟩
      · rw [← hr.heap.old b hb ho]
        refine hX.old b (Nat.lt_of_lt_of_le hb hr.heap.wx.size) fun hoc=>?_
        rcases (hownlt b hoc).2 with h3 | h3
        · omega
        · exact ho h3
      · rcases hcases q row hq with h3 | ⟨_,h3⟩
        · obtain ⟨ri,k1,k2,k3,k4⟩:=hXrow q row h3
          refine ⟨ri,k1,k3.keep (fun _=>rfl) keepX,fun hn=>⟨?_,(k4 hn).2⟩⟩
          have hx:w0.heap.size≤ri.b∨own ri.b:=by
            rcases (k4 hn).1 with h4 | h4
            · exact .inl (Nat.le_trans hr.heap.wx.size h4)
            · exact (hownlt _ h4).2
          refine ⟨fun ho=>?_,fun _=>hx⟩
          obtain ⟨g1,g2⟩:=hr.heap.outLt _ ho
          rcases hx with hx | hx
          · omega
          · exact g2 hx
        · obtain ⟨ri,k1,k2,k3,k4,k5⟩:=hRrow q row h3
          refine ⟨ri,k1,k4.keep (fun hn=>hX.old _ (k5 hn).2.1 (k5 hn).1) keepAll,fun hn=>⟨(k5 hn).2.2,Nat.lt_of_lt_of_le (k5 hn).2.1 hX.wx.size⟩⟩
      · rcases hcases q row h1 with k1 | ⟨_,k1⟩ <;> rcases hcases q' row' h2 with k2 | ⟨_,k2⟩
        · obtain ⟨r1,e1,e2,_⟩:=hXrow q row k1
          obtain ⟨r2,e3,e4,_⟩:=hXrow q' row' k2
          rw [h3] at e1;cases e1;rw [h4] at e3;cases e3
          exact hX.inj q q' row row' qi qi' k1 k2 e2 e4 h5 h6 h7
        · obtain ⟨r1,e1,e2,_,e5⟩:=hXrow q row k1
          obtain ⟨r2,e3,e4,e6,_,e7⟩:=hRrow q' row' k2
          rw [h3] at e1;cases e1;rw [h4] at e3;cases e3
          rcases (e5 h5).1 with h8 | h8
          · have:=(e7 h6).2.1;omega
          · rw [h7] at h8;exact absurd h8 (e7 h6).1
        · obtain ⟨r1,e1,e2,_,e5⟩:=hXrow q' row' k2
          obtain ⟨r2,e3,e4,e6,_,e7⟩:=hRrow q row k1
          rw [h4] at e1;cases e1;rw [h3] at e3;cases e3
          rcases (e5 h6).1 with h8 | h8
          · have:=(e7 h5).2.1;omega
          · rw [← h7] at h8;exact absurd h8 (e7 h5).1
        · obtain ⟨r1,e1,e2,e2',_⟩:=hRrow q row k1
          obtain ⟨r2,e3,e4,e4',_⟩:=hRrow q' row' k2
          rw [h3] at e1;cases e1;rw [h4] at e3;cases e3
          exact c1.inj q q' row row' qi qi' (c2 q row k1) (c2 q' row' k2) e2' e4' h5 h6 h7
    have hr1:Rel C w0 outer own ρn { st with h:=hnew } a w1:=hr.turn hnewH keepAll
    refine ⟨ρn,(hr1.put (keepX _ _ hV) hk).1,fun q hq=>?_,fun q ri hq=>?_⟩
    · simp only [ρn,hq,if_false]
    · rw [hρo q (by rw [hq];simp)];exact hq
  intro next Q hn
  unfold Oper.wp
  rw [hexec]
  rcases G with ⟨G1,G2⟩ | ⟨v,w1,G1,G2⟩
  · rw [G1,Oper.upon_enter]
    refine Calls.mono' G2 ?_
    rintro e w1 ⟨v,rfl,h3⟩
    exact hn _ _ (fin v w1 h3)
  · rw [G1,Oper.upon_value];exact hn _ _ (fin v w1 G2)
omit hr in
theorem hp_less {ci:CInfo} {as:List V} {bs:List Nat} {i:Nat} {rs:List V} {h h':Nat→Option Row} (hl:LessH h h'):LessH (hpX ci as bs i rs h) (hpX ci as bs i rs h'):=fun r row hr=>by
  rw [exX_or] at hr ⊢
  split at hr
  · rename_i x hx
    cases hr
    exact ⟨_,rfl,rfl,id⟩
  · exact hl r row hr
omit hr in
theorem putK_h {dst:Option Nat} {st st':St} {v:V} {h:Nat→Option Row} (hk:putK C dst st v some=some st'):putK C dst { st with h:=h } v some=some { st' with h:=h }:=by
  cases dst with
  | none=>simp only [putK,Option.some.injEq] at hk ⊢;subst hk;rfl
  | some d=>
    simp only [putK] at hk ⊢
    cases hb:Nat.blt d C.nt
    · simp [hb] at hk
    · simp only [hb,gd_true,Option.some.injEq] at hk ⊢;subst hk;rfl
omit hr in
theorem putK_heap {dst:Option Nat} {st st':St} {v:V} (hk:putK C dst st v some=some st'):st'.h=st.h:=by
  cases dst with
  | none=>simp only [putK,Option.some.injEq] at hk;subst hk;rfl
  | some d=>
    simp only [putK] at hk
    cases hb:Nat.blt d C.nt
    · simp [hb] at hk
    · simp only [hb,gd_true,Option.some.injEq] at hk;subst hk;rfl
theorem ok_callK (hΦ:PhiOk C) (hfin:∃ N,∀ r,N≤r→ρ r=none) (hfr:∀ q,q<128→ρ (i+q)=none) (f:Nat) (args:Array Value) (as:List V) (hsz:args.size=as.length)
    (hargs:∀ j (hj:j<as.length),VR w ρ (Bad outer ρ st.h) (args.getD j undef) as[j]) (hexec:(execOp a.eval o).run C.P w=(callFunc f args).run C.P w)
    (hk:callK C i o.dst st f as some=some st'):Does C.P o a w (After C w0 outer own i ρ st'):=by
  unfold callK at hk
  split at hk
  · cases hk
  rename_i ci hci0
  have hci:Contract C.P f ci C.g:=by
    cases hlt:Nat.blt f 1048576
    · simp [hlt] at hci0
    · simp only [hlt,cond_true] at hci0
      have:=hΦ.ok _ _ hci0
      rwa [keyOf_mod f as (by simpa using hlt)] at this
  split at hk
  · split at hk
    · cases hk
    rename_i as' h' bs hta
    obtain ⟨x,hdA,hk⟩:=Option.bind_eq_some_iff.1 ((bnd_eq _ _).symm.trans hk)
    obtain ⟨r,hF,hk⟩:=Option.bind_eq_some_iff.1 hk
    cases hle:(Nat.ble (ci.eR r).length 128&&pureC ci (ci.eR r))
    case false=>simp [hle] at hk
    simp only [hle,gd_true] at hk
    simp only [Bool.and_eq_true] at hle
    have hr2:Rel C w0 outer own ρ { st with h:=freeH st.h } a w:=hr.less (free_less _)
    have D:=ok_callT (o:=o) hr2 hfin hfr f args as hsz (fun j hj=>(hr.heap.less (free_less st.h)).2 _ _ (hargs j hj)) hexec hci hta hdA hF (Nat.le_of_ble_eq_true hle.1)
      (st':= { st' with h:=hpX ci as' bs i (ci.eR r) (freeH st.h) }) (by
        rw [hle.2,cond_true]
        exact putK_h (st:= { st with h:=hpX ci as' bs i (ci.eR r) st.h }) hk)
    refine fun next Q hn=>D next Q fun a' w' ⟨ρ',h1,h2,h3⟩=>hn a' w' ⟨ρ',?_,h2,h3⟩
    have e:st'.h=hpX ci as' bs i (ci.eR r) st.h:=putK_heap hk
    have:=h1.less (h':=st'.h) (by rw [e];exact hp_less (free_more _))
    exact this
  · rename_i as' h' bs hta
    obtain ⟨x,hdA,hk⟩:=Option.bind_eq_some_iff.1 ((bnd_eq _ _).symm.trans hk)
    obtain ⟨r,hF,hk⟩:=Option.bind_eq_some_iff.1 hk
    cases hle:Nat.ble (ci.eR r).length 128
    case false=>simp [hle] at hk
    simp only [hle,gd_true] at hk
    exact ok_callT hr hfin hfr f args as hsz hargs hexec hci hta hdA hF (Nat.le_of_ble_eq_true hle) hk
end
end Go.D
namespace Go.D
section
variable {C:Cx} {w0:World} {outer own:Nat→Prop} {ρ:Nat→Option RI} {st st':St} {a:Act} {w:World} {h:Nat→Option Row}
variable {o:Oper} {i:Nat} (hr:Rel C w0 outer own ρ st a w)
include hr
theorem ok_call (hΦ:PhiOk C) (hfin:∃ N,∀ r,N≤r→ρ r=none) (hfr:∀ q,q<128→ρ (i+q)=none) (x:Operand) (args:Array Operand) (argTypes:Array TypeId)
    (ho:o.op= .call { callee:= .value x,args,argTypes }) (hk:stepK C i o st some=some st'):Does C.P o a w (After C w0 outer own i ρ st'):=by
  simp only [stepK,ho] at hk
  split at hk
  case h_2=>cases hk
  rename_i f cs hop
  have hx:=hr.opd x
  rw [hop] at hx
  generalize hv:a.eval x=v at hx
  cases hx with
  | fn _ _ caps hs hvc=>
  refine ok_callK hr hΦ hfin hfr f (args.map a.eval++caps) _ (by simp [hs]) (fun j hj=>?_) ?_ hk
  · by_cases hj1:j<args.size
    · rw [List.getElem_append_left (by simpa using hj1),Array.getD_eq_getD_getElem?,Array.getElem?_append_left (by simpa using hj1)]
      simp only [Array.getElem?_map,Array.getElem?_eq_getElem hj1,Option.map_some,Option.getD_some,List.getElem_map,Array.getElem_toList]
      exact hr.opd _
    · have hj2:j - args.size<cs.length:=by simp at hj;omega
      rw [List.getElem_append_right (by simp;omega),Array.getD_eq_getD_getElem?,Array.getElem?_append_right (by simp;omega)]
      have:=hvc (j - args.size) hj2
      rw [Array.getD_eq_getD_getElem?] at this
      simpa using this
  · simp [execOp,ho,resolve,Deferred.ofValue,hv,invoke]
theorem ok_pick2 (c x y:Operand) (ho:o.op= .pick c x y) (t:Bool) (hc:opd st.s c= .bool t) (hk:putK C o.dst st (cond t (opd st.s x) (opd st.s y)) some=some st'):
    Does C.P o a w (After C w0 outer own i ρ st'):=by
  have h1:=hr.opd c;rw [hc] at h1
  generalize hec:a.eval c=vc at h1
  cases h1
  refine does_value (v:=if t then a.eval x else a.eval y) (w':=w) ?_ (hr.after ?_ hk)
  · cases t <;> simp [execOp,ho,hec,asBool]
  · cases t
    · exact hr.opd y
    · exact hr.opd x
theorem step_ok (hC:TnOk C) (hΦ:PhiOk C) (hfin:∃ N,∀ r,N≤r→ρ r=none) (hfr:∀ q,q<128→ρ (i+q)=none) (hk:stepK C i o st some=some st'):
    Does C.P o a w (After C w0 outer own i ρ st'):=by
  have hi:ρ i=none:=hfr 0 (by omega)
  have none_of:∀ {p:Prop},stepK C i o st some=none→p:=fun h=>by rw [h] at hk;cases hk
  cases ho:o.op with
  | move x=>exact ok_move hr x (.inl ho) (by simpa only [stepK,ho] using hk)
  | assign x=>exact ok_move hr x (.inr ho) (by simpa only [stepK,ho] using hk)
  | pick c x y=>
    simp only [stepK,ho] at hk
    split at hk
    case h_2=>cases hk
    rename_i t hc
    split at hk
    · rename_i p q hx hy
      exact ok_pick hr c x y ho t p q hc hx hy hk
    · exact ok_pick2 hr c x y ho t hc hk
  | alloc e=>
    simp only [stepK,ho] at hk
    split at hk
    case h_2=>cases hk
    rename_i cs hz
    exact ok_alloc hr e ho hi cs hz hk
  | box e x=>
    simp only [stepK,ho] at hk
    cases hb:leafs (cellsOf (opd st.s x))
    case false=>simp [hb] at hk
    simp only [hb,gd_true] at hk
    exact ok_box hr e x ho hi hb hk
  | build t parts=>exact ok_build hr t parts ho hk
  | buildSlice t len parts=>exact ok_buildSlice hr hC t len parts ho hi hk
  | load t x=>exact ok_load hr t x ho hk
  | store t x y=>exact ok_store hr t x y ho hk
  | nilCheck x=>exact ok_nilCheck hr x ho hk
  | binOp op t x y t'=>exact ok_binOp hr op t t' x y ho hk
  | unOp op t x=>exact ok_unOp hr op t x ho hk
  | convert s d x=>exact ok_convert hr hC s d x ho hi hk
  | makeFunc fn first captured=>
    cases fn with
    | func f=>exact ok_makeFunc hr f first captured ho hk
    | _=>exact none_of (by simp only [stepK,ho])
  | makeSlice t x y=>exact ok_makeSlice hr hC t x y ho hi hk
  | slice t x lo hi mx=>exact ok_slice hr hC t x lo hi mx ho hk
  | fieldAddr t x f=>exact ok_fieldAddr hr t x f ho hk
  | field t x f=>exact ok_field hr t x f ho hk
  | indexAddr t x y=>exact ok_indexAddr hr hC t x y ho hk
  | index t x y=>exact ok_index hr t x y ho hk
  | extract x ix=>exact ok_extract hr x ix ho hk
  | call c=>
    obtain ⟨callee,args,argTypes⟩:=c
    cases callee with
    | value x=>exact ok_call hr hΦ hfin hfr x args argTypes ho hk
    | invoke r m=>exact none_of (by simp only [stepK,ho])
    | builtin b=>
      cases b with
      | len=>exact ok_len hr args argTypes ho hk
      | append=>exact ok_append hr hC args argTypes ho hi hk
      | min=>exact ok_min hr args argTypes ho hk
      | max=>exact ok_max hr args argTypes ho hk
      | _=>exact none_of (by simp only [stepK,ho])
  | _=>exact none_of (by simp only [stepK,ho])
end
end Go.D
namespace Go.D
section
variable {C:Cx} {R:Type} {st:St} {K:St→Option R}
theorem putK_nat (dst:Option Nat) (st:St) (v:V) (K:St→Option R):putK C dst st v K=(putK C dst st v some).bind K:=by
  cases dst with
  | none=>rfl
  | some d=>simp only [putK];cases Nat.blt d C.nt <;> rfl
theorem newK_nat (dst:Option Nat) (st:St) (r:Nat) (c:RowC) (v:V) (K:St→Option R):newK C dst st r c v K=(newK C dst st r c v some).bind K:=putK_nat _ _ _ _
theorem loadCells_nat {K1:V→Option St} {K2:V→Option R} (h:∀ v,K2 v=(K1 v).bind K) (ag:Bool) (n:Nat) (cs:List V) (off:Nat):loadCells ag n cs off K2=(loadCells ag n cs off K1).bind K:=by
  cases ag <;> simp only [loadCells,gd_true,gd_false]
  · split
    · exact h _
    · rfl
  · cases Nat.ble (off+n) cs.length
    · rfl
    · exact h _
theorem binK_nat {K1:V→Option St} {K2:V→Option R} (h:∀ v,K2 v=(K1 v).bind K) (op:BinOp) (x y:V):binK op x y K2=(binK op x y K1).bind K:=by
  have hb:∀ (b:Bool) (v:V),(bif b then none else K2 v)=(bif b then none else K1 v:Option St).bind K:=fun b v=>by cases b;exact h v;rfl
  have hb':∀ (b:Bool) (v:V),(bif b then K2 v else none)=(bif b then K1 v else none:Option St).bind K:=fun b v=>by cases b;rfl;exact h v
  unfold binK
  split
  · rename_i k a k' b
    cases decide (k=k')
    · rfl
    · exact hb _ _
  · rename_i k a k' b
    cases decide (k=k')
    · rfl
    · exact hb _ _
  · exact hb _ _
  · exact hb _ _
  · exact hb' _ _
  · split
    · exact h _
    · rfl
theorem chainK_nat {f1:Nat→Option St} {f2:Nat→Option R} (h:∀ k,f2 k=(f1 k).bind K) (i:Int):∀ (n k:Nat),chainK f2 i k n=(chainK f1 i k n).bind K
  | 0,k=>rfl
  | n+1,k=>by
    simp only [chainK]
    cases i==(k:Int)
    · exact chainK_nat h i n (k+1)
    · exact h k
theorem cutV_nat {K1:V→Option St} {K2:V→Option R} (h:∀ v,K2 v=(K1 v).bind K) (d:TypeDesc) (tk:TypeId→TN→Bool) (hp:Nat→Option Row) (x:V) (lo hi:Option V):
    cutV d tk hp x lo hi K2=(cutV d tk hp x lo hi K1).bind K:=by
  have hb':∀ (b:Bool) (v:V),(bif b then K2 v else none)=(bif b then K1 v else none:Option St).bind K:=fun b v=>by cases b;rfl;exact h v
  unfold cutV
  split
  · rfl
  split
  case h_2=>rfl
  rename_i len _ _ _ a b _ _
  cases decide (0≤a)&&decide (a≤b)&&decide (b≤(len:Int))
  · rfl
  simp only [cond_true]
  split
  · exact hb' _ _
  · exact h _
  · split
    · exact hb' _ _
    · rfl
  · exact hb' _ _
  · rfl
theorem bind_nat {α:Type} (x:Option α) {f1:α→Option St} {f2:α→Option R} (h:∀ v,f2 v=(f1 v).bind K):Option.bind x f2=(Option.bind x f1).bind K:=by
  cases x with
  | none=>rfl
  | some v=>exact h v
theorem cond_nat (b:Bool) {x1:Option St} {x2:Option R} (h:x2=x1.bind K):(bif b then x2 else none)=(bif b then x1 else none:Option St).bind K:=by
  cases b
  · rfl
  · exact h
theorem ncond_nat (b:Bool) {x1:Option St} {x2:Option R} (h:x2=x1.bind K):(bif b then none else x2)=(bif b then none else x1:Option St).bind K:=by
  cases b
  · exact h
  · rfl
theorem gd_nat (b:Bool) {x1:Option St} {x2:Option R} (h:x2=x1.bind K):gd b x2 none=(gd b x1 none:Option St).bind K:=by
  cases b
  · rfl
  · exact h
theorem ngd_nat (b:Bool) {x1:Option St} {x2:Option R} (h:x2=x1.bind K):gd b none x2=(gd b none x1:Option St).bind K:=by
  cases b
  · exact h
  · rfl
theorem bnd_nat {α:Type} (x:Option α) {f1:α→Option St} {f2:α→Option R} (h:∀ v,f2 v=(f1 v).bind K):bnd x f2=(bnd x f1).bind K:=by
  cases x with
  | none=>rfl
  | some v=>exact h v
theorem callK_nat (i:Nat) (dst:Option Nat) (f:Nat) (as:List V):callK C i dst st f as K=(callK C i dst st f as some).bind K:=by
  unfold callK
  split
  · rfl
  split
  · split
    · rfl
    exact bnd_nat _ fun _=>bind_nat _ fun _=>gd_nat _ (putK_nat _ _ _ _)
  exact bnd_nat _ fun _=>bind_nat _ fun _=>gd_nat _ (putK_nat _ _ _ _)
theorem stepK_nat (i:Nat) (o:Oper):stepK C i o st K=(stepK C i o st some).bind K:=by
  unfold stepK
  repeat' first
    | rfl
    | exact putK_nat _ _ _ _
    | exact newK_nat _ _ _ _ _ _
    | exact callK_nat _ _ _ _
    | refine loadCells_nat (fun _=>?_) _ _ _ _
    | refine binK_nat (fun _=>?_) _ _ _
    | refine chainK_nat (fun _=>?_) _ _ _
    | refine cutV_nat (fun _=>?_) _ _ _ _ _ _
    | refine cond_nat _ ?_
    | refine ncond_nat _ ?_
    | refine gd_nat _ ?_
    | refine ngd_nat _ ?_
    | refine bnd_nat _ (fun _=>?_)
    | refine bind_nat _ (fun _=>?_)
    | split
end
end Go.D
namespace Go.D
def KeepP (π:Nat→Prop) (h h':Nat→Option Row):Prop:=∀ r row,π r→h r=some row→row.m.isOwn=false→h' r=some row
theorem KeepP.refl (π:Nat→Prop) (h:Nat→Option Row):KeepP π h h:=fun _ _ _ h _=>h
theorem KeepP.trans {π:Nat→Prop} {a b c:Nat→Option Row} (h:KeepP π a b) (k:KeepP π b c):KeepP π a c:=fun r row hn hr hm=>k r row hn (h r row hn hr hm) hm
theorem keeps_upd {π:Nat→Prop} {h h':Nat→Option Row} (k:KeepP π h h') (r:Nat) (x:Option Row) (hr:¬ π r∨∃ row,h r=some row∧row.m.isOwn=true):KeepP π h (upd h' r x):=fun q row hn hq hm=>by
  rw [upd_other]
  · exact k q row hn hq hm
  · rintro rfl
    rcases hr with hr | ⟨row',h1,h2⟩
    · exact hr hn
    · rw [hq] at h1;cases h1;rw [hm] at h2;cases h2
theorem keeps_mark {π:Nat→Prop} {h:Nat→Option Row} (ids:List Nat) (hl:∀ r ∈ ids,∀ row,h r=some row→row.m.isLock=false):KeepP π h (markRo h ids):=fun q row hn hq hm=>by
  rw [markRo_get]
  by_cases hi:q ∈ ids
  · have:=hl q hi row hq
    obtain ⟨c,m⟩:=row
    cases m
    · cases hm
    · simp [hi,hq]
    · cases this
  · simp [hi,hq]
def NoLock (h:Nat→Option Row) (ids:List Nat):Prop:=∀ r ∈ ids,∀ row,h r=some row→row.m.isLock=false
theorem noLock_nil (h:Nat→Option Row):NoLock h []:=fun r hr=>by simp at hr
theorem noLock_app {h:Nat→Option Row} {i j:List Nat} (a:NoLock h i) (b:NoLock h j):NoLock h (i++j):=fun r hr=>by
  rcases List.mem_append.1 hr with hr | hr
  · exact a r hr
  · exact b r hr
theorem noLock_cons {h:Nat→Option Row} {r:Nat} {j:List Nat} (a:∀ row,h r=some row→row.m.isLock=false) (b:NoLock h j):NoLock h (r :: j):=fun q hq=>by
  rcases List.mem_cons.1 hq with rfl | hq
  · exact a
  · exact b q hq
theorem frzLeaf_noLock {h:Nat→Option Row} {v:V} {x:V × List Nat} (hf:frzLeaf h v=some x):NoLock h x.2:=by
  unfold frzLeaf at hf
  split at hf
  · split at hf
    · rename_i t l m hr
      cases hm:m.isLock <;> simp [hm] at hf
      subst hf
      exact noLock_cons (fun row h1=>by rw [hr] at h1;cases h1;exact hm) (noLock_nil _)
    · cases hf
  · split at hf
    · rename_i t' l m hr
      cases hm:m.isLock
      · simp only [hm,cond_false] at hf
        split at hf
        · simp at hf;subst hf
          exact noLock_cons (fun row h1=>by rw [hr] at h1;cases h1;exact hm) (noLock_nil _)
        · cases hf
      · simp [hm] at hf
    · cases hf
  · cases hb:noRefN 8 v <;> simp [hb] at hf
    subst hf;exact noLock_nil _
theorem frzList_noLock {h:Nat→Option Row}:∀ {vs:List V} {x:List V × List Nat},frzList h vs=some x→NoLock h x.2
  | [],x,hf=>by simp [frzList] at hf;subst hf;exact noLock_nil _
  | v :: vs,x,hf=>by
    simp only [frzList] at hf
    split at hf
    · cases hf
    rename_i h1
    split at hf
    · cases hf
    rename_i h2
    cases hf
    exact noLock_app (frzLeaf_noLock h1) (frzList_noLock h2)
theorem frz_noLock {h:Nat→Option Row} {v:V} {x:V × List Nat} (hf:frz h v=some x):NoLock h x.2:=by
  unfold frz at hf
  split at hf
  · split at hf
    · rename_i h1
      cases hf;exact (frzList_noLock h1:_)
    · cases hf
  · split at hf
    · rename_i cs m hr
      cases hb:(m.isLock||cs.isEmpty)
      case true=>simp [hb] at hf
      simp only [hb,cond_false] at hf
      split at hf
      · rename_i h1
        cases hf
        refine noLock_cons (fun row h2=>?_) (frzList_noLock h1)
        rw [hr] at h2;cases h2
        simp only [Bool.or_eq_false_iff] at hb;exact hb.1
      · cases hf
    · cases hf
  · exact frzLeaf_noLock hf
theorem frzArgs_noLock {h:Nat→Option Row}:∀ {vs:List V} {x:List V × List Nat},frzArgs h vs=some x→NoLock h x.2
  | [],x,hf=>by simp [frzArgs] at hf;subst hf;exact noLock_nil _
  | v :: vs,x,hf=>by
    simp only [frzArgs] at hf
    split at hf
    · cases hf
    rename_i h1
    split at hf
    · cases hf
    rename_i h2
    cases hf
    exact noLock_app (frz_noLock h1) (frzArgs_noLock h2)
theorem keeps_kill {π:Nat→Prop} {h:Nat→Option Row} {t:TN} {v:V} {l:List (El t)} {r:Option Nat} (ht:takenOf h t v=some (l,r)):KeepP π h (killO h r):=by
  cases r with
  | none=>exact KeepP.refl _ _
  | some r=>
    refine keeps_upd (KeepP.refl _ _) r none (.inr ?_)
    unfold takenOf at ht
    split at ht
    · cases ht
    · split at ht
      · rename_i hr
        split at ht
        · cases ht;exact ⟨_,hr,rfl⟩
        · cases ht
      · cases ht
    · split at ht
      · rename_i hr
        split at ht
        · cases ht;exact ⟨_,hr,rfl⟩
        · cases ht
      · cases ht
    · cases ht
theorem takeLeaves_keeps (π:Nat→Prop) (ow:List Nat):∀ (cs:List V) (p:Nat) (h:Nat→Option Row) (x:List V × (Nat→Option Row)),takeLeaves ow p cs h=some x→KeepP π h x.2
  | [],p,h,x,ht=>by simp [takeLeaves] at ht;subst ht;exact KeepP.refl π h
  | c :: cs,p,h,x,ht=>by
    simp only [takeLeaves] at ht
    cases hb:ow.any (Nat.beq p)
    · simp only [hb,cond_false] at ht
      split at ht
      case h_2=>cases ht
      rename_i hf
      split at ht
      case h_2=>cases ht
      rename_i hr
      cases ht
      have k:=takeLeaves_keeps π ow cs (p+1) _ _ hr
      exact (keeps_mark _ (frzLeaf_noLock hf)).trans k
    · simp only [hb,cond_true] at ht
      split at ht
      · split at ht
        case h_2=>cases ht
        rename_i hrow
        split at ht
        case h_2=>cases ht
        rename_i hr
        cases ht
        have k:=takeLeaves_keeps π ow cs (p+1) _ _ hr
        exact (keeps_upd (KeepP.refl π h) _ none (.inr ⟨_,hrow,rfl⟩)).trans k
      · split at ht
        case h_2=>cases ht
        rename_i hr
        cases ht
        have:=takeLeaves_keeps π ow cs _ _ _ hr
        exact this
      · cases ht
theorem takeArgs_keeps (π:Nat→Prop):∀ (ks:List ArgK) (as:List V) (h:Nat→Option Row) (x:List V × (Nat→Option Row) × List Nat),takeArgs ks as h=some x→
    KeepP π h x.2.1∧∀ b ∈ x.2.2,∃ row,h b=some row∧row.m.isOwn=true
  | [],[],h,x,ht=>by simp [takeArgs] at ht;subst ht;exact ⟨KeepP.refl π h,fun b hb=>by simp at hb⟩
  | [],_ :: _,h,x,ht=>by simp [takeArgs] at ht
  | .plain :: ks,[],h,x,ht=>by simp [takeArgs] at ht
  | .ptr _ :: ks,[],h,x,ht=>by simp [takeArgs] at ht
  | .mv _ :: ks,[],h,x,ht=>by simp [takeArgs] at ht
  | .mv ow :: ks,v :: vs,h,x,ht=>by
    obtain ⟨cs,rfl⟩:=takeArgs_mv ht
    simp only [takeArgs] at ht
    cases hb:Nat.ble cs.length 127
    case false=>simp [hb] at ht
    simp only [hb,cond_true] at ht
    split at ht
    · cases ht
    rename_i hl
    split at ht
    · cases ht
    rename_i hr
    cases ht
    obtain ⟨k1,k2⟩:=takeArgs_keeps π ks vs _ _ hr
    refine ⟨(takeLeaves_keeps π _ _ _ _ _ hl).trans k1,fun b hb=>?_⟩
    obtain ⟨row,h1,h2⟩:=k2 b hb
    obtain ⟨row2,h3,h4,h5⟩:=takeLeaves_less _ _ _ _ _ hl b row h1
    refine ⟨row2,h3,?_⟩
    cases ho:row2.m.isOwn with
    | true=>rfl
    | false=>
      have:=takeLeaves_keeps (fun _=>True) _ _ _ _ _ hl b row2 trivial h3 ho
      have this:=this.symm.trans h1;cases this;rw [h2] at ho;cases ho
  | .plain :: ks,v :: vs,h,x,ht=>by
    simp only [takeArgs] at ht
    split at ht
    · cases ht
    rename_i v' ids hf
    split at ht
    · cases ht
    rename_i hr
    cases ht
    obtain ⟨k1,k2⟩:=takeArgs_keeps π ks vs _ _ hr
    refine ⟨(keeps_mark _ (frz_noLock hf)).trans k1,fun b hb=>?_⟩
    obtain ⟨row,h1,h2⟩:=k2 b hb
    obtain ⟨row',h3,h4,h5⟩:=markRo_less h ids b row h1
    rw [markRo_get] at h1
    by_cases hm:b ∈ ids
    · simp [hm,h3] at h1;subst h1;cases h2
    · simp [hm] at h1;exact ⟨row,h1,h2⟩
  | .ptr ow :: ks,v :: vs,h,x,ht=>by
    obtain ⟨r,rfl⟩:=takeArgs_ptr ht
    simp only [takeArgs] at ht
    split at ht
    case h_2=>cases ht
    rename_i cs hrow
    cases hb:Nat.ble cs.length 127
    case false=>simp [hb] at ht
    simp only [hb,cond_true] at ht
    split at ht
    · cases ht
    rename_i hl
    split at ht
    · cases ht
    rename_i hr
    cases ht
    obtain ⟨k1,k2⟩:=takeArgs_keeps π ks vs _ _ hr
    refine ⟨(keeps_upd (KeepP.refl π h) _ none (.inr ⟨_,hrow,rfl⟩)).trans ((takeLeaves_keeps π _ _ _ _ _ hl).trans k1),fun b hb=>?_⟩
    rcases List.mem_cons.1 hb with rfl | hb
    · exact ⟨_,hrow,rfl⟩
    · obtain ⟨row,h1,h2⟩:=k2 b hb
      obtain ⟨row2,h3,h4,h5⟩:=takeLeaves_less _ _ _ _ _ hl b row h1
      have hbr:b≠r:=by rintro rfl;rw [upd_same] at h3;cases h3
      rw [upd_other _ _ _ _ hbr] at h3
      refine ⟨row2,h3,?_⟩
      cases ho:row2.m.isOwn with
      | true=>rfl
      | false=>
        have:=takeLeaves_keeps (fun _=>True) _ _ _ _ _ hl b row2 trivial (by rw [upd_other _ _ _ _ hbr];exact h3) ho
        have this:=this.symm.trans h1;cases this;rw [h2] at ho;cases ho
def All {α:Type} (p:α→Prop) (x:Option α):Prop:=∀ y,x=some y→p y
structure Left (π:Nat→Prop) (dst:Option Nat) (st st':St):Prop where
  slots:∀ s,dst≠some s→st'.s s=st.s s
  rows:KeepP π st.h st'.h
  nx:st'.nx=st.nx
section
variable {C:Cx} {st:St} {π:Nat→Prop} {dst:Option Nat}
theorem all_none {α:Type} {p:α→Prop}:All p none:=fun _ h=>by cases h
theorem all_put {h':Nat→Option Row} (hk:KeepP π st.h h') (v:V):All (Left π dst st) (putK C dst { st with h:=h' } v some):=by
  intro st' h
  cases dst with
  | none=>simp [putK] at h;subst h;exact ⟨fun _ _=>rfl,hk,rfl⟩
  | some d=>
    simp only [putK] at h
    cases hb:Nat.blt d C.nt <;> simp [hb] at h
    subst h
    exact ⟨fun s hs=>upd_other _ _ _ _ (fun e=>hs (by rw [e])),hk,rfl⟩
theorem all_put0 (v:V):All (Left π dst st) (putK C dst st v some):=all_put (KeepP.refl π st.h) v
theorem all_new {h':Nat→Option Row} (hk:KeepP π st.h h') {i:Nat} (hi:∀ q,q<128→¬ π (i+q)) (c:RowC) (v:V):All (Left π dst st) (newK C dst { st with h:=h' } i c v some):=all_put (keeps_upd hk i _ (.inl (hi 0 (by omega)))) v
theorem all_new0 {i:Nat} (hi:∀ q,q<128→¬ π (i+q)) (c:RowC) (v:V):All (Left π dst st) (newK C dst st i c v some):=all_put (keeps_upd (KeepP.refl π st.h) i _ (.inl (hi 0 (by omega)))) v
theorem all_cond {α:Type} {p:α→Prop} (b:Bool) {x:Option α} (h:b=true→All p x):All p (bif b then x else none):=by
  cases b
  · exact all_none
  · exact h rfl
theorem all_ncond {α:Type} {p:α→Prop} (b:Bool) {x:Option α} (h:b=false→All p x):All p (bif b then none else x):=by
  cases b
  · exact h rfl
  · exact all_none
theorem all_bind {α β:Type} {p:β→Prop} (x:Option α) {f:α→Option β} (h:∀ v,x=some v→All p (f v)):All p (Option.bind x f):=by
  cases x with
  | none=>exact all_none
  | some v=>exact h v rfl
theorem all_gd {α:Type} {p:α→Prop} (b:Bool) {x:Option α} (h:b=true→All p x):All p (gd b x none):=by
  cases b
  · exact all_none
  · exact h rfl
theorem all_ngd {α:Type} {p:α→Prop} (b:Bool) {x:Option α} (h:b=false→All p x):All p (gd b none x):=by
  cases b
  · exact h rfl
  · exact all_none
theorem all_bnd {α β:Type} {p:β→Prop} (x:Option α) {f:α→Option β} (h:∀ v,x=some v→All p (f v)):All p (bnd x f):=by
  cases x with
  | none=>exact all_none
  | some v=>exact h v rfl
theorem all_load {p:St→Prop} {K:V→Option St} (h:∀ v,All p (K v)) (ag:Bool) (m:Nat) (cs:List V) (off:Nat):All p (loadCells ag m cs off K):=by
  cases ag <;> simp only [loadCells,gd_true,gd_false]
  · split
    · exact h _
    · exact all_none
  · exact all_gd _ fun _=>h _
theorem all_bin {p:St→Prop} {K:V→Option St} (h:∀ v,All p (K v)) (op:BinOp) (x y:V):All p (binK op x y K):=by
  unfold binK
  split
  · exact all_cond _ fun _=>all_ncond _ fun _=>h _
  · exact all_cond _ fun _=>all_ncond _ fun _=>h _
  · exact all_ncond _ fun _=>h _
  · exact all_ncond _ fun _=>h _
  · exact all_cond _ fun _=>h _
  · split
    · exact h _
    · exact all_none
theorem all_chain {p:St→Prop} {f:Nat→Option St} (h:∀ k,All p (f k)) (i:Int):∀ (m k:Nat),All p (chainK f i k m)
  | 0,k=>all_none
  | m+1,k=>by
    simp only [chainK]
    cases i==(k:Int)
    · exact all_chain h i m (k+1)
    · exact h k
theorem all_cut {p:St→Prop} {K:V→Option St} (h:∀ v,All p (K v)) (d:TypeDesc) (tk:TypeId→TN→Bool) (hp:Nat→Option Row) (x:V) (lo hi:Option V):All p (cutV d tk hp x lo hi K):=by
  unfold cutV
  split
  · exact all_none
  split
  case h_2=>exact all_none
  refine all_cond _ fun _=>?_
  split
  · exact all_gd _ fun _=>h _
  · exact h _
  · split
    · exact all_gd _ fun _=>h _
    · exact all_none
  · exact all_gd _ fun _=>h _
  · exact all_none
theorem takeArgs_pl:∀ (ks:List ArgK) (as:List V) (h:Nat→Option Row) (x:List V × (Nat→Option Row) × List Nat),ks.all ArgK.isPlain=true→takeArgs ks as h=some x→x.2.2=[]
  | [],[],h,x,_,ht=>by simp [takeArgs] at ht;subst ht;rfl
  | [],_ :: _,h,x,_,ht=>by simp [takeArgs] at ht
  | .plain :: ks,[],h,x,_,ht=>by simp [takeArgs] at ht
  | .plain :: ks,v :: vs,h,x,hp,ht=>by
    simp only [List.all_cons,Bool.and_eq_true] at hp
    simp only [takeArgs] at ht
    split at ht
    · cases ht
    split at ht
    · cases ht
    rename_i hr
    cases ht
    have:=takeArgs_pl ks vs _ _ hp.2 hr
    exact this
  | .ptr _ :: ks,as,h,x,hp,ht=>by simp [ArgK.isPlain] at hp
  | .mv _ :: ks,as,h,x,hp,ht=>by simp [ArgK.isPlain] at hp
theorem all_call {i:Nat} (hi:∀ q,q<128→¬ π (i+q)) (f:Nat) (as:List V):All (Left π dst st) (callK C i dst st f as some):=by
  unfold callK
  split
  · exact all_none
  rename_i ci _
  split
  · split
    · exact all_none
    rename_i as' h' bs hta
    refine all_bnd _ fun x _=>all_bind _ fun r _=>all_gd _ fun hlen=>all_put ?_ _
    simp only [Bool.and_eq_true] at hlen
    intro q row hq hrow hm
    rw [exX_or]
    have hno:exX ci as' bs i (ci.eR r) q=none:=by
      cases hx:exX ci as' bs i (ci.eR r) q with
      | none=>rfl
      | some y=>
        rcases exX_mem (Nat.le_of_ble_eq_true hlen.1) hx with h1 | h1
        · have hp:=hlen.2
          simp only [pureC,Bool.and_eq_true] at hp
          have hb:bs=[]:=takeArgs_pl ci.ks as _ _ hp.1.2 hta
          rw [hb] at h1;cases h1
        · exact absurd hq (by have:=hi (q - i) (by omega);rwa [show i+(q - i)=q by omega] at this)
    rw [hno]
    exact hrow
  rename_i as' h' bs hta
  refine all_bnd _ fun x _=>all_bind _ fun r _=>all_gd _ fun hlen=>all_put ?_ _
  obtain ⟨k1,k2⟩:=takeArgs_keeps π _ _ _ _ hta
  intro q row hq hrow hm
  have hlen:=Nat.le_of_ble_eq_true hlen
  rw [exX_or]
  have hno:exX ci as' bs i (ci.eR r) q=none:=by
    cases hx:exX ci as' bs i (ci.eR r) q with
    | none=>rfl
    | some y=>
      rcases exX_mem hlen hx with h1 | h1
      · obtain ⟨row',h2,h3⟩:=k2 q h1
        rw [hrow] at h2;cases h2;rw [h3] at hm;cases hm
      · exact absurd hq (by have:=hi (q - i) (by omega);rwa [show i+(q - i)=q by omega] at this)
  rw [hno]
  cases pureC ci (ci.eR r)
  · exact k1 q row hq hrow hm
  · exact hrow
theorem stepK_leftP {i:Nat} (hi:∀ q,q<128→¬ π (i+q)) (o:Oper):All (Left π o.dst st) (stepK C i o st some):=by
  unfold stepK
  repeat' first
    | exact all_none
    | exact all_put0 _
    | exact all_new0 hi _ _
    | exact all_call hi _ _
    | exact all_put (keeps_mark _ (frzArgs_noLock ‹_›)) _
    | exact all_new (keeps_mark _ (frzArgs_noLock ‹_›)) hi _ _
    | exact all_new (keeps_kill ‹_›) hi _ _
    | exact all_put (keeps_upd (KeepP.refl π st.h) _ _ (.inr ⟨_, ‹_›,rfl⟩)) _
    | exact all_put (keeps_upd (keeps_mark _ (frzList_noLock ‹_›)) _ _ (.inr ⟨_, ‹_›,rfl⟩)) _
    | refine all_load (fun _=>?_) _ _ _ _
    | refine all_bin (fun _=>?_) _ _ _
    | refine all_chain (fun _=>?_) _ _ _
    | refine all_cut (fun _=>?_) _ _ _ _ _ _
    | refine all_cond _ (fun _=>?_)
    | refine all_ncond _ (fun _=>?_)
    | refine all_gd _ (fun _=>?_)
    | refine all_ngd _ (fun _=>?_)
    | refine all_bnd _ (fun _ _=>?_)
    | refine all_bind _ (fun _ _=>?_)
    | split
end
abbrev Keeps (n:Nat) (h h':Nat→Option Row):Prop:=KeepP (fun r=>r<n) h h'
theorem Keeps.refl (n:Nat) (h:Nat→Option Row):Keeps n h h:=KeepP.refl _ h
theorem Keeps.trans {n:Nat} {a b c:Nat→Option Row} (h:Keeps n a b) (k:Keeps n b c):Keeps n a c:=KeepP.trans h k
theorem Keeps.le {n m:Nat} {a b:Nat→Option Row} (h:Keeps n a b) (hm:m≤n):Keeps m a b:=fun r row hr=>h r row (by have:r<m:=hr;show r<n;omega)
theorem stepK_left {C:Cx} {st:St} {n:Nat} {i:Nat} (hi:n≤i) (o:Oper):All (Left (fun r=>r<n) o.dst st) (stepK C i o st some):=stepK_leftP (fun q _ h=>by omega) o
end Go.D

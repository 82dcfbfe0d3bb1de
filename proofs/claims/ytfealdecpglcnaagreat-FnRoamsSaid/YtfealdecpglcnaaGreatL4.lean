/-
 One operation, continued: conversions, closures, what is made.
-/
import Derived.Test.YtfealdecpglcnaaGreatL3
import Derived.Laws.IdiomStrings
import Derived.Laws.BytesArg
import Derived.Laws.MakeOwn
set_option linter.all false
namespace Go.D
variable [iA]
omit [iA]in
def zdX(t:TN):sz t≤128:=by cases t<;>simp[sz]
section
variable {C:Cx} {w0:World} {outer own:Nat→Prop} {ρ:Nat→Option RI} {st st':St} {a:Act} {w:World} {h:Nat→Option rA}
omit [iA]in
def ziH:∀(parts:List (Nat×Operand)) (k:Nat) (vs:List V),eV st.s k parts=some vs→vs.length=parts.length∧
  ∀j (hj:j<parts.length),(parts[j]).1=k+j∧∃(h:j<vs.length),vs[j]=opd st.s (parts[j]).2
 | [],k,vs,h=>by simp[eV]at h;subst h;exact⟨rfl,λj hj=>by simp at hj⟩
 | (j,x) :: r,k,vs,h=>by
  simp only[eV]at h;cases hb:Nat.beq k j
  case false=>simp[hb]at h
  have hkj:=Nat.eq_of_beq_eq_true hb;simp only[hb,cond_true]at h;split at h
  ·cases h
  rename_i vs' hv;cases h;obtain⟨h1,h2⟩:=ziH r (k+1) vs' hv;refine⟨by simp[h1],λq hq=>?_⟩;cases q with
  | zero=>exact⟨by simp[hkj],by simp,rfl⟩
  | succ q=>
   grind
omit [iA]in
def zk5(off:Nat):∀(l:List (Value×Nat)) (k:Nat) (cs:Array Value),(∀j (hj:j<l.length),(l[j]).2=k+j)→
  (l.foldl (λcs (c,j)=>cs.setIfInBounds (off+j) c) cs).size=cs.size∧
  ∀p,p<cs.size→(l.foldl (λcs (c,j)=>cs.setIfInBounds (off+j) c) cs).getD p undef=if h:off+k≤p∧p<off+k+l.length then(l[p - (off+k)]'(by omega)).1 else cs.getD p undef
 | [],k,cs,_=>⟨rfl,λp hp=>by simp;omega⟩
 | (c,j) :: l,k,cs,hl=>by
  have hj:j=k:=hl 0 (by simp);subst hj;obtain⟨h1,h2⟩:=zk5 off l (j+1) (cs.setIfInBounds (off+j) c) (λq hq=>by have:=hl (q+1) (by simp;omega);simp at this;omega);refine⟨by simp only[List.foldl_cons];rw[h1];simp,λp hp=>?_⟩;simp only[List.foldl_cons];rw[h2 p (by simpa using hp)]
  by_cases oW:off+(j+1)≤p∧p<off+(j+1)+l.length
  ·grind
  ·rw[dif_neg oW]
   by_cases he:p=off+j
   ·subst he;rw[dif_pos ⟨Nat.le_refl _,by simp⟩];rw[Array.getD_eq_getD_getElem?,Array.getElem?_setIfInBounds];simp[hp]
   ·rw[dif_neg (by simp;omega)];rw[Array.getD_eq_getD_getElem?,Array.getElem?_setIfInBounds,if_neg (by omega),Array.getD_eq_getD_getElem?]
omit [iA]in
def zjM(v:Value)(off:Nat)(cs:Array Value):(v.cells.zipIdx.foldl (λcs (c,j)=>cs.setIfInBounds (off+j) c) cs).size=cs.size∧
  ∀p,p<cs.size→(v.cells.zipIdx.foldl (λcs (c,j)=>cs.setIfInBounds (off+j) c) cs).getD p undef=if off≤p∧p<off+v.cells.size then v.cells.getD (p - off) undef else cs.getD p undef:=by
 rw[←Array.foldl_toList];obtain⟨h1,h2⟩:=zk5 off v.cells.zipIdx.toList 0 cs (λj hj=>by simp);refine⟨h1,λp hp=>?_⟩;rw[h2 p hp]
 by_cases oW:off≤p∧p<off+v.cells.size
 ·rw[if_pos oW,dif_pos (by simpa using oW)];rw[Array.getD_eq_getD_getElem?,Array.getElem?_eq_getElem (by omega)];simp
 ·grind
omit [iA]in
def zk2(size:Nat):∀(parts:List (Nat×Value)) (k:Nat) (cs:Array Value),(∀j (hj:j<parts.length),(parts[j]).1=k+j∧(parts[j]).2.cells.size=size)→
  (k+parts.length) *size≤cs.size→∃ cs',Instr.fill (fun i=>some (i *size,size)) cs parts=some cs'∧cs'.size=cs.size∧
   (∀j (hj:j<parts.length) q,q<size→cs'.getD ((k+j) *size+q) undef=(parts[j]).2.cells.getD q undef)∧∀p,p<k *size→cs'.getD p undef=cs.getD p undef
 | [],k,cs,_,_=>⟨cs,rfl,rfl,λj hj=>by simp at hj,λ_ _=>rfl⟩
 | (i,v) :: r,k,cs,hp,hs=>by
  obtain⟨h1,h2⟩:=hp 0 (by simp);simp only[List.getElem_cons_zero,Nat.add_zero]at h1 h2;subst h1;simp only[List.length_cons]at hs;have Y1:(i+1+r.length) *size=i *size+size+r.length *size:=by rw[Nat.add_mul,Nat.add_mul,Nat.one_mul]
  have hs3:(i+(r.length+1)) *size=i *size+size+r.length *size:=by rw[Nat.add_mul,Nat.add_mul,Nat.one_mul];omega
  obtain⟨h3,h4⟩:=zjM v (i *size) cs;obtain⟨cs',h5,h6,h7,h8⟩:=zk2 size r (i+1) _ (λj hj=>by have:=hp (j+1) (by simp;omega);simpa[Nat.add_assoc,Nat.add_comm 1 j]using this) (by rw[h3];omega);have KV:∀j,j<r.length→(i+1+j) *size≥i *size+size:=λj _=>by rw[Nat.add_mul,Nat.add_mul,Nat.one_mul];omega
  refine⟨cs',?_,by rw[h6,h3],λj hj q hq=>?_,λp hp'=>?_⟩
  ·simp only[Instr.fill]
   grind
  ·cases j with
   | zero=>
    grind
   | succ j=>
    grind
  grind
omit [iA]in
def zj5(t:TN):∀(css:List (List V)) (l:List (El t)),zan t css=some l→l.length=css.length∧∀j (hj:j<css.length) (ZW:j<l.length),OB css[j] (enc t l[j])
 | [],l,h=>by simp[zan]at h;subst h;exact⟨rfl,λj hj=>by simp at hj⟩
 | cs :: css,l,h=>by
  simp only[zan]at h;split at h
  ·cases h
  rename_i x hx;split at h
  ·cases h
  rename_i l' hl;cases h;obtain⟨h1,h2⟩:=zj5 t css l' hl;refine⟨by simp[h1],λj hj ZW=>?_⟩;cases j with
  | zero=>exact IF t hx
  | succ j=>simpa using h2 j (by simpa using hj) (by simpa using ZW)
variable {o:Oper} {i:Nat} (hr:bB C w0 outer own ρ st a w)
include hr
def zqZ(xs:List Operand):∀j (hj:j<(xs.map (opd st.s)).length),VR w ρ (qA outer ρ st.h) ((xs.map a.eval).getD j undef) (xs.map (opd st.s))[j]:=λj hj=>by
 have ZW:j<xs.length:=by simpa using hj
 rw[List.getD_eq_getElem?_getD,List.getElem?_map,List.getElem?_eq_getElem ZW,List.getElem_map];exact hr.opd xs[j]
def zqY(f:Nat)(first captured:Array Operand)(ho:o.op= .makeFunc (.func f) first captured)(hk:oB C i o st some=some st'):EC C.P o a w (yC C w0 outer own i ρ st'):=by
 simp only[oB,ho]at hk;cases he:first.isEmpty
 case false=>simp[he]at hk
 simp only[he,VC]at hk;split at hk
 case h_2=>cases hk
 rename_i cs ids dZ;have he:first= #[]:=by simpa using he
 subst he;obtain⟨h1,h2⟩:=hr.heap.mark ids;obtain⟨h3,h4⟩:=zff hr.heap (zqZ hr captured.toList) dZ;have LV:bB C w0 outer own ρ {st with h:=sC st.h ids} a w:=hr.turn h1 h2;refine kC (v:= .func (.func f) #[] (captured.map a.eval)) (w':=w) (by simp[execOp,ho,Instr.makeFunc]) (LV.after (.fn f cs _ (by simp[h3]) λj hj=>?_) hk);have:=(h4 j hj).1;rw[Array.getD_eq_getD_getElem?]
 grind
def zqe(hC:TF C)(t:TypeId)(len:Nat)(parts:Array (Nat×Operand))(ho:o.op= .buildSlice t len parts)(hi:ρ i=none)(hk:oB C i o st some=some st'):
  EC C.P o a w (yC C w0 outer own i ρ st'):=by
 simp only[oB,ho]at hk;split at hk
 ·cases hk
 rename_i tn KW;obtain⟨e,he,z3⟩:=Option.bind_eq_some_iff.1 KW
 have hu:C.P.underlying t=some (.slice e):=by
  unfold VO at he
  grind
 obtain⟨info,z,NY,hi2,U8,A4,o6⟩:=hC.ok e tn z3;split at hk
 ·cases hk
 rename_i vs D4;cases hb:(Nat.beq vs.length len&&Nat.ble len 1000)
 case false=>simp[hb]at hk
 simp only[hb,VC]at hk;simp only[Bool.and_eq_true]at hb;have DV:=Nat.eq_of_beq_eq_true hb.1;have fW:=Nat.le_of_ble_eq_true hb.2;split at hk
 ·cases hk
 rename_i vs' ids dZ;obtain⟨l,hl,hk⟩:=Option.bind_eq_some_iff.1 ((oT _ _).symm.trans hk);obtain⟨t6,hp2⟩:=ziH parts.toList 0 vs D4;have BZ:parts.toList.length=len:=by omega
 have hps:parts.size=len:=by rw[←Array.length_toList];exact BZ
 have rX:∀j (hj:j<vs.length),VR w ρ (qA outer ρ st.h) (a.eval ((parts.toList.map (·.2)).getD j (.const undef))) vs[j]:=λj hj=>by
  obtain⟨_,h4,h5⟩:=hp2 j (by omega);rw[h5,List.getD_eq_getElem?_getD,List.getElem?_map,List.getElem?_eq_getElem (by omega)];exact hr.opd _
 obtain⟨h1,h2⟩:=hr.heap.mark ids;obtain⟨h3,h4⟩:=zff hr.heap rX dZ;obtain⟨h5,h6⟩:=zj5 tn _ l hl;have LV:bB C w0 outer own ρ {st with h:=sC st.h ids} a w:=hr.turn h1 h2
 -- the cells
 let pv:List (Nat×Value):=parts.toList.map λp=>(p.1,a.eval p.2);have hpvl:pv.length=len:=by simp[pv];omega
 have Y8:l.length=len:=by rw[h5,List.length_map];omega
 have hpv:∀j (hj:j<pv.length),(pv[j]).1=0+j∧(pv[j]).2.cells.size=sz tn∧∀q,q<sz tn→∃(ZW:j<l.length),VR w ρ (qA outer ρ (sC st.h ids)) ((pv[j]).2.cells.getD q undef) ((enc tn l[j]).getD q .undef):=λj hj=>by
  have hjv:j<vs'.length:=by omega
  have LZ:j<l.length:=by omega
  obtain⟨e1,e2,e3⟩:=hp2 j (by omega);obtain⟨g1,g2⟩:=h4 j hjv
  have SY:(parts.toList.map (·.2)).getD j (.const undef)=(parts.toList[j]'(by omega)).2:=by
   grind
  rw[SY]at g1;have dW:=h6 j (by simpa using hjv) LZ;rw[List.getElem_map]at dW;have eY:(cellsOf vs'[j]).length=sz tn:=by rw[dW.len,cD]
  have hpj:pv[j]=((parts.toList[j]'(by omega)).1,a.eval (parts.toList[j]'(by omega)).2):=by simp[pv]
  rw[hpj]
  have v6:lH (cellsOf vs'[j])=true:=by
   rw[lH,List.all_eq_true];intro c hc;obtain⟨q,hq,rfl⟩:=List.mem_iff_getElem.1 hc;have hs:=dW.get q hq (by rw[←dW.len];exact hq);have LY:=zif tn l[j] q (by omega);rw[cT _ _ _ (by rw[cD];omega)]at LY;generalize (cellsOf vs'[j])[q]=c at hs;generalize (enc tn l[j])[q]'_=d at hs LY;cases hs<;>first|exact LY|rfl
  obtain⟨f1,f2,f3⟩:=zcu g1 v6;refine⟨e1,by rw[f1,eY],λq hq=>⟨LZ,?_⟩⟩;have:=VR.sub (dW.get q (by omega) (by rw[cD];exact hq)) (f2 q (by omega))
  grind
 obtain⟨cs',c1,c2,c3,_⟩:=zk2 (sz tn) pv 0 ((Array.range (len *sz tn)).map (λk=>(if len *sz tn=0 then(#[]:Array Value)else z.cells)[k % (if len *sz tn=0 then(#[]:Array Value)else z.cells).size]!))
  (λj hj=>⟨(hpv j hj).1,(hpv j hj).2.1⟩) (by simp[hpvl])
 have hcsz:cs'.size=len *sz tn:=by rw[c2];simp
 have hbig:¬(2^24<len *sz tn):=by
  have h1:=zdX tn;have:len *sz tn≤1000 *128:=Nat.mul_le_mul fW h1;omega
 have zV:(execOp a.eval o).run C.P w= .ok (.value (.slice (some ⟨w.heap.size,0,none⟩) len len)) (w.alloc (.cells cs' e)):=by
  have hpm:(parts.map λx=>(x.1,a.eval x.2)).toList=pv:=by simp[pv]
  simp only[execOp,ho,Instr.buildSlice,Sem.run_bind,yF hu,Result.andThen_ok,sizeOf,typeInfo,run_program,NY,Sem.run_pure,hi2,gt_iff_lt,hbig,if_false]
  by_cases h0:len *sz tn=0
  ·simp only[h0,if_true]at c1⊢;simp only[Sem.run_bind,Sem.run_pure,Result.andThen_ok,hpm,c1];rfl
  ·simp only[h0,if_false]at c1⊢;simp only[Sem.run_bind,Sem.run_pure,Result.andThen_ok,zeroValue,typeInfo,run_program,NY,A4,hpm,c1];rfl
 refine kC zV (LV.newRow hi ⟨w.heap.size,len,len,false⟩ (λ_=>rfl) _ (qV _ _) (λb hb=>qU _ _ _ hb) (λ_=>by simp) (c:= .arr tn l) (λbad BV=>?_) (λbad=>?_) hk)
 ·refine⟨Y8.symm, .inr ⟨rfl,zfP (hC.tys e tn z3),Nat.le_refl _,by unfold maxLen;simp;omega,λj hj=>⟨World.frozen?_alloc_new _ _ _ _,?_⟩,λi' ZV j hj=>?_⟩⟩
  ·have ZW:j<len *sz tn:=hj;rw[nO w cs' e j (by omega)];rfl
  ·have hip:i'<pv.length:=by omega
   have FV:i' *sz tn+j<cs'.size:=by
    rw[hcsz];have:(i'+1) *sz tn≤len *sz tn:=Nat.mul_le_mul_right _ (by omega)
    grind
   obtain⟨_,_,g3⟩:=hpv i' hip;obtain⟨_,g4⟩:=g3 j hj;refine⟨_,nO w cs' e _ FV,?_⟩
   grind
 ·exact .ow i ⟨w.heap.size,len,len,false⟩ (MA _ _ _) (Nat.le_refl _) (by unfold maxLen;simp;omega) rfl
end
end Go.D
namespace Go.D
variable [iA]
section
variable {C:Cx} {w0:World} {outer own:Nat→Prop} {ρ:Nat→Option RI} {st st':St} {a:Act} {w:World}
def zjC(hr:bB C w0 outer own ρ st a w)(pl:List (Nat×Nat)):∀(parts:List (Nat×Operand)) (cs cs':List V) (vs:Array Value),
  xV pl st.s cs parts=some cs'→vs.size=cs.length→(∀j (hj:j<cs.length),VR w ρ (qA outer ρ st.h) (vs.getD j undef) cs[j])→
  ∃vs',Instr.fill (λi=>pl[i]?) vs (parts.map λp=>(p.1,a.eval p.2))=some vs'∧vs'.size=cs'.length∧∀j (hj:j<cs'.length),VR w ρ (qA outer ρ st.h) (vs'.getD j undef) cs'[j]
 | [],cs,cs',vs,hf,hs,hv=>by simp[xV]at hf;subst hf;exact⟨vs,rfl,hs,hv⟩
 | (f,x) :: r,cs,cs',vs,hf,hs,hv=>by
  simp only[xV]at hf;split at hf
  ·cases hf
  rename_i off n hp;cases hb:(Nat.beq n (cellsOf (opd st.s x)).length&&lH (cellsOf (opd st.s x))&&Nat.ble (off+n) cs.length)
  case false=>simp[hb]at hf
  simp only[hb,cond_true]at hf;simp only[Bool.and_eq_true]at hb;obtain⟨⟨C3,z0⟩,hb3⟩:=hb;have hn:=Nat.eq_of_beq_eq_true C3;have fW:=Nat.le_of_ble_eq_true hb3;obtain⟨g1,g2,_⟩:=zcu (hr.opd x) z0;obtain⟨k1,k2⟩:=zjM (a.eval x) off vs;obtain⟨s1,s2⟩:=zft cs off (cellsOf (opd st.s x)) (by omega)
  obtain⟨vs',h1,h2,h3⟩:=zjC hr pl r _ cs' _ hf (by rw[k1,s1,hs]) (λj hj=>by
   rw[s2 j (by omega) hj,k2 j (by omega)]
   by_cases oW:off≤j∧j<off+(cellsOf (opd st.s x)).length
   ·rw[dif_pos oW,if_pos (by omega)];exact g2 _ (by omega)
   ·rw[dif_neg oW,if_neg (by omega)];exact hv j (by omega))
  refine⟨vs',?_,h2,h3⟩;simp only[List.map_cons,Instr.fill,hp];rw[if_neg]
  ·exact h1
  ·simp;omega
omit [iA]in
def zkg{f g:Nat→Option (Nat×Nat)}(hfg:∀k p,f k=some p→g k=some p):∀(cs:Array Value) (l:List (Nat×Value)) (r:Array Value),Instr.fill f cs l=some r→Instr.fill g cs l=some r
 | cs,[],r,h=>h
 | cs,(i,v) :: l,r,h=>by
  simp only[Instr.fill]at h⊢;cases hf:f i with
  | none=>rw[hf]at h;cases h
  | some p=>
   obtain⟨off,n⟩:=p;rw[hf]at h;rw[hfg i _ hf];simp only at h⊢;split at h
   ·cases h
   ·rename_i hc;rw[if_neg hc];exact zkg hfg _ l r h
variable {o:Oper} {i:Nat} (hr:bB C w0 outer own ρ st a w)
include hr
def ztY(t:TypeId)(parts:Array (Nat×Operand))(ho:o.op= .build t parts)(hk:oB C i o st some=some st'):EC C.P o a w (yC C w0 outer own i ρ st'):=by
 simp only[oB,ho]at hk;split at hk
 case h_2=>cases hk
 rename_i cs pl hz BZ;obtain⟨cs',hf,BV⟩:=Option.bind_eq_some_iff.1 ((oT _ _).symm.trans hk);unfold zeroCells at hz;split at hz
 case h_2=>cases hz
 rename_i z MX;cases hb:lH (z.cells.toList.map jP)<;>simp[hb]at hz
 subst hz;obtain⟨info,NY,hi2⟩:=Option.bind_eq_some_iff.1 MX
 obtain⟨vs',h1,h2,h3⟩:=zjC hr pl parts.toList _ cs' z.cells hf (by simp) (λj hj=>by
  rw[List.getElem_map];have ZW:j<z.cells.size:=by simpa using hj
  rw[Array.getD_eq_getD_getElem?,Array.getElem?_eq_getElem ZW];exact zdn _)
 have E4:C.P.built t (parts.map λ(i,x)=>(i,a.eval x)).toList=some vs':=by
  unfold zlP at BZ;split at BZ
  ·rename_i fs hu;simp only[Program.built,NY,hu,hi2,BZ,Array.toList_map];simpa using h1
  ·rename_i n e hu;split at BZ
   case h_2=>cases BZ
   rename_i ie F4;cases hb:Nat.ble n 128<;>simp[hb]at BZ
   subst BZ;simp only[Program.built,NY,hu,hi2,F4,Array.toList_map];refine zkg (λk p hp=>?_) _ _ _ h1;simp only[List.getElem?_map]at hp;cases hk:(List.range n)[k]? with
   | none=>simp[hk]at hp
   | some y=>
    simp[hk]at hp
    have:y=k:=by
     obtain⟨FV,hy⟩:=List.getElem?_eq_some_iff.1 hk;simpa using hy.symm
    subst this;rw[←hp]
  ·cases BZ
 refine kC (v:= .agg vs') (w':=w) ?_ (hr.after (.agg cs' vs' h2 h3) BV);simp only[execOp,ho,Sem.run_bind,run_build w t _ vs' E4,Result.andThen_ok];rfl
def zqv(hC:TF C)(t:TypeId)(x y:Operand)(ho:o.op= .makeSlice t x y)(hi:ρ i=none)(hk:oB C i o st some=some st'):EC C.P o a w (yC C w0 outer own i ρ st'):=by
 simp only[oB,ho]at hk;split at hk
 case h_2=>cases hk
 rename_i tn z KW hz;obtain⟨e,he,z3⟩:=Option.bind_eq_some_iff.1 KW
 have hu:C.P.underlying t=some (.slice e):=by
  unfold VO at he;split at he
  ·rename_i h1;cases he;exact h1
  ·cases he
 obtain⟨info,z',NY,hi2,U8,A4,o6⟩:=hC.ok e tn z3;rw[he,Option.bind_some]at hz;unfold zeroCells at hz;rw[NY,Option.bind_some,A4]at hz;simp only at hz;cases hb:lH (z'.cells.toList.map jP)<;>simp[hb]at hz
 subst hz;split at hk
 case h_2=>cases hk
 rename_i n c hn hc;cases gZ:(decide (0≤n)&&decide (n≤(bA:Int))&&(n==c))
 case false=>simp[gZ]at hk
 simp only[gZ,cond_true]at hk;simp only[Bool.and_eq_true,decide_eq_true_eq,beq_iff_eq]at gZ;obtain⟨⟨h0,zW⟩,rfl⟩:=gZ;obtain⟨x0,PX,hk⟩:=Option.bind_eq_some_iff.1 ((oT _ _).symm.trans hk);have hx:=hr.opd x;rw[hn]at hx;have hy:=hr.opd y;rw[hc]at hy;generalize MZ:a.eval x=vx at hx;generalize NZ:a.eval y=vy at hy;cases hx;cases hy
 have zV:=run_make (P:=C.P) w t e info z' hu NY A4 .i64 .i64 n n h0 (Int.le_refl _) (by
  have h1:info.bytes *n≤1024 *n:=Int.mul_le_mul_of_nonneg_right (by omega) h0;unfold bA at zW;omega) (by unfold bA at zW;omega)
 have z6:(execOp a.eval o).run C.P w= .ok (.value (.slice (some ⟨w.heap.size,0,none⟩) n.toNat n.toNat)) (w.alloc (.cells (madeCells z'.cells (n.toNat *info.size)) e)):=by
  simp only[execOp,ho,MZ,NZ,Sem.run_bind,zV,Result.andThen_ok];rfl
 have G4:n.toNat≤maxLen:=by unfold maxLen;unfold bA at zW;omega
 have KV:(madeCells z'.cells (n.toNat *info.size)).size=n.toNat *sz tn:=by rw[size_madeCells,hi2]
 refine kC z6 (hr.newRow hi ⟨w.heap.size,n.toNat,n.toNat,false⟩ (λ_=>rfl) _ (qV _ _) (λb hb=>qU _ _ _ hb) (λ_=>by simp) (c:= .arr tn (List.replicate n.toNat x0)) (λbad BV=>?_) (λbad=>?_) hk)
 ·refine⟨by simp, .inr ⟨rfl,zfP (hC.tys e tn z3),Nat.le_refl _,G4,λj hj=>⟨World.frozen?_alloc_new _ _ _ _,?_⟩,λi' ZV j hj=>?_⟩⟩
  ·have ZW:j<n.toNat *sz tn:=hj;rw[nO w _ e j (by omega)];rfl
  ·have oW:i'<n.toNat:=by simpa using ZV
   have FV:i' *sz tn+j<(madeCells z'.cells (n.toNat *info.size)).size:=by
    rw[KV];have:(i'+1) *sz tn≤n.toNat *sz tn:=Nat.mul_le_mul_right _ oW;rw[Nat.add_mul,Nat.one_mul]at this;omega
   refine⟨_,nO w _ e _ FV,?_⟩;have GW:j<z'.cells.size:=by omega
   have SY:(madeCells z'.cells (n.toNat *info.size)).getD (i' *sz tn+j) undef=z'.cells.getD j undef:=by
    rw[Array.getD_eq_getD_getElem?,Array.getElem?_eq_getElem FV,Array.getD_eq_getD_getElem?,Array.getElem?_eq_getElem GW];simp only[madeCells,Array.getElem_map,Array.getElem_range,Option.getD_some]
    have hmod:(i' *sz tn+j) % z'.cells.size=j:=by
     rw[o6,Nat.add_comm,Nat.mul_comm,Nat.add_mul_mod_self_left,Nat.mod_eq_of_lt hj]
    rw[hmod,getElem!_pos z'.cells j GW]
   rw[SY,List.getElem_replicate];have hs:=IF tn PX;have Y1:=hs.get j (by simpa using GW) (by rw[cD];exact hj);rw[cT _ _ _ (by rw[cD];exact hj)];refine BV _ _ (VR.sub Y1 ?_);rw[List.getElem_map,Array.getD_eq_getD_getElem?,Array.getElem?_eq_getElem GW];simpa using zdn z'.cells[j]
 ·exact .ow i ⟨w.heap.size,n.toNat,n.toNat,false⟩ (MA _ _ _) (Nat.le_refl _) G4 rfl
def zsh(hC:TF C)(src d:TypeId)(x:Operand)(ho:o.op= .convert src d x)(hi:ρ i=none)(hk:oB C i o st some=some st'):EC C.P o a w (yC C w0 outer own i ρ st'):=by
 simp only[oB,ho]at hk;have hx:=hr.opd x
 have QV:∀v w',(convert src d (a.eval x)).run C.P w= .ok v w'→(execOp a.eval o).run C.P w= .ok (.value v) w':=λv w' h1=>by
  simp[execOp,ho,h1]
 split at hk
 ·rename_i k0 k k1 n h1 h2 h3;rw[h3]at hx;generalize hv:a.eval x=v at hx QV;cases hx;refine kC (QV (.int k (k.wrap n)) w ?_) (hr.after (.int _ _ (mS _ _)) hk);simp[convert,run_underlying h1,run_underlying h2,Conv.intToInt]
 ·rename_i e s h1 h2 h3;split at hk
  case h_2=>cases hk
  rename_i h4 h5;rw[h3]at hx;cases zW:Nat.ble s.length bA
  case false=>simp[zW]at hk
  simp only[zW,cond_true]at hk;have zW:=Nat.le_of_ble_eq_true zW;generalize hv:a.eval x=v at hx QV;cases hx with
  | str _ hs=>
  obtain⟨info,z,NY,hi2,U8,A4,o6⟩:=hC.ok e .byte h4;have zV:=run_bytes_of_string (P:=C.P) w src d e ⟨s.toArray⟩ h1 h2 h5;have hss:(ByteArray.mk s.toArray).size=s.length:=by simp[ByteArray.size]
  rw[hss]at zV;have sX:=grownCap_ge w s.length 0 e;have J5:grownCap w s.length 0 e≤maxLen:=grownCap_le_maxLen w s.length 0 e hs;generalize XZ:grownCap w s.length 0 e=cap at zV sX J5;have I4:(bytesRow ⟨s.toArray⟩ cap).size=cap:=by simp[bytesRow,hss];omega
  refine kC (QV _ _ zV) (hr.newRow hi ⟨w.heap.size,s.length,cap,false⟩ (λ_=>rfl) _ (Wx.trans (zlA w) (qV _ _))
   (λb hb=>qU w.drew _ b hb) (λ_=>by simp) (c:= .arr .byte s) (λbad BV=>?_) (λbad=>?_) hk)
  ·have PV:∀j,j<cap→(w.drew.alloc (.cells (bytesRow ⟨s.toArray⟩ cap) e ((bytesRow ⟨s.toArray⟩ cap).size,(bytesRow ⟨s.toArray⟩ cap).size+1))).cell? (at_ w.heap.size j)=(bytesRow ⟨s.toArray⟩ cap)[j]?:=λj hj=>by
    have hh:(w.drew.alloc (.cells (bytesRow ⟨s.toArray⟩ cap) e ((bytesRow ⟨s.toArray⟩ cap).size,(bytesRow ⟨s.toArray⟩ cap).size+1))).heap[w.heap.size]?=some (.cells (bytesRow ⟨s.toArray⟩ cap) e ((bytesRow ⟨s.toArray⟩ cap).size,(bytesRow ⟨s.toArray⟩ cap).size+1)):=by
     show(w.heap.push _)[w.heap.size]?=_
     simp
    unfold World.cell? at_;rw[hh];rfl
   refine⟨rfl, .inr ⟨rfl,⟨_,e,_,by show(w.heap.push _)[w.heap.size]?=_;rw[Array.getElem?_push_size],hC.tys e .byte h4⟩,sX,J5,λj hj=>?_,λi' ZV j hj=>?_⟩⟩
   ·have ZW:j<cap:=by simpa[sz]using hj
    refine⟨?_,?_⟩
    ·have:=World.frozen?_alloc_mark w.drew (bytesRow ⟨s.toArray⟩ cap) e (bytesRow ⟨s.toArray⟩ cap).size ((bytesRow ⟨s.toArray⟩ cap).size+1) j;rw[World.size_drew]at this;show World.frozen? _ ⟨w.heap.size,j,none⟩=false
     rw[this,I4];simp;omega
    ·rw[PV j ZW,Array.getElem?_eq_getElem (by omega)];rfl
   ·have A2:j=0:=by simp[sz]at hj;exact hj
    subst A2;have PY:i'<s.length:=ZV;refine⟨.int .u8 (s[i'].toNat:Int),?_,?_⟩
    ·simp only[sz,Nat.mul_one,Nat.add_zero];rw[PV i' (by omega),bytesRow_at _ _ _ (by simpa using PY)];simp
    ·have:=s[i'].toNat_lt;exact .int _ _ ⟨by simp[IntKind.min,IntKind.signed],by simp[IntKind.max,IntKind.signed,IntKind.bits];omega⟩
  ·exact .ow i ⟨w.heap.size,s.length,cap,false⟩ (MA _ _ _) sX J5 rfl
 ·rename_i e h1 h2;split at hk
  case h_2=>cases hk
  rename_i l h5 h4;cases zW:Nat.ble l.length bA
  case false=>simp[zW]at hk
  simp only[zW,cond_true]at hk;have zW:=Nat.le_of_ble_eq_true zW;obtain⟨ao,cap,hv,A0⟩:=zkW hr hx h4;refine kC (QV (.string ⟨l.toArray⟩) w ?_) (hr.after (.str l (by unfold bA at zW;unfold maxLen;omega)) hk);rw[hv]
  have empty:∀(ao:Option Addr) (c:Nat),(convert src d (.slice ao 0 c)).run C.P w= .ok (.string ⟨#[]⟩) w:=λao c=>by
   cases ao with
   | none=>exact run_convert_bytes_nil w src e h1 h5 0 c d h2
   | some ad=>exact run_convert_bytes_back w src d e ad c [] h1 h5 h2 (λj hj=>by simp at hj)
  rcases A0 with rfl|⟨b,off,rfl,hc⟩
  ·exact empty ao cap
  ·refine run_convert_bytes_back w src d e (at_ b off) cap l h1 h5 h2 λj hj=>?_;obtain⟨u,c1,c2⟩:=hc j hj 0 (by simp[sz]);simp only[sz,Nat.mul_one,Nat.add_zero]at c1;rw[BG,c1];have:(enc .byte l[j]).getD 0 .undef= .int .u8 (l[j].toNat:Int):=rfl;rw[this]at c2;cases c2;rfl
 ·rename_i e0 e r h1 h2 h3;split at hk
  case h_2=>cases hk
  rename_i y l hsd h5 h4;have hsd:=Nat.eq_of_beq_eq_true hsd;subst hsd;have he:e0=e:=by rw[h1]at h2;cases h2;rfl
  subst he;rw[h3]at hx;obtain⟨ri,hρ,JV,V3⟩:=hr.heap.rows r _ h4;obtain⟨DV,A0⟩:=JV;generalize hv:a.eval x=v at hx QV;cases hx with
  | owN _ ri' ao NX hn UV=>
   rw[hρ]at NX;cases NX;rw[hn]at DV;simp at DV
  | ow _ ri' NX hn hc UV=>
  rw[hρ]at NX;cases NX
  rcases A0 with⟨A6,_⟩|⟨_,ce,_,_,zX,AX⟩
  ·rw[UV]at A6;cases A6
  have A3:0<ri.cap *sz .byte:=by
   have:0<ri.n:=by rw[DV];simp
   simp[sz];omega
  obtain⟨c,elem,lo,ZV,C2⟩:∃c elem lo ZV,w.heap[ri.b]?=some (.cells c elem (lo,ZV)):=by
   have:=(zX 0 A3).2;unfold World.cell? at_ at this;simp only at this;split at this
   ·rename_i c elem fr hb;exact⟨c,elem,fr.1,fr.2,hb⟩
   ·cases this
  have PW:(w.freeze ⟨ri.b,c.size,none⟩ 1).heap=w.heap.modify ri.b fun
    | .cells c' elem (lo,hi)=> .cells c' elem (if lo==hi then(c.size,c.size+1)else(min lo c.size,max hi (c.size+1)))
    | o=>o:=by
   unfold World.freeze;rw[if_neg (by decide)];rfl
  generalize hW:w.freeze ⟨ri.b,c.size,none⟩ 1=W at PW
  have J4:∀b,b≠ri.b→W.heap[b]?=w.heap[b]?:=λb hb=>by
   rw[PW,Array.getElem?_modify,if_neg (Ne.symm hb)]
  have PV:∀j,W.cell? (at_ ri.b j)=w.cell? (at_ ri.b j):=λj=>by
   unfold World.cell? at_;simp only[PW,Array.getElem?_modify,C2,if_true,Option.map_some]
  have ceW:LF W ri.b .byte:=by
   obtain⟨c',e',z',k1,k2⟩:=ce;rw[C2]at k1;cases k1;exact⟨c,elem,_,by rw[PW,Array.getElem?_modify,if_pos rfl,C2];rfl,k2⟩
  have zV:(convert src src (.slice (some (at_ ri.b 0)) ri.n ri.cap)).run C.P w= .ok (.slice (some (at_ ri.b 0)) ri.n ri.cap) W:=by
   have hsh:w.shape? ri.b=some (elem,c.size):=by simp[World.shape?,C2]
   simp[convert,run_underlying h1,run_underlying h5,markStringish,at_,hsh];exact hW
  have cZ:Wx w W:=by
   rw[←hW];unfold World.freeze;rw[if_neg (by decide)];exact⟨rfl,rfl,rfl,by simp⟩
  have JW:=hr.heap.write h4 hρ UV W cZ (by rw[PW];simp) J4 (.box []) (λ_=>⟨UV,λj hj=>by simp at hj⟩)
  have RV:=JW.1.less (h':=zA st.h r none) (λq row' hq=>by
   by_cases VV:q=r
   ·subst VV;rw[MA]at hq;cases hq
   ·rw[AA _ _ _ _ VV]at hq;exact⟨row',by rw[AA _ _ _ _ VV];exact hq,rfl,λh=>h⟩)
  have TY:=hr.turn RV.1 (λu d hu=>RV.2 _ _ (JW.2 u d hu))
  have Z8:¬qA outer ρ (zA st.h r none) ri.b:=by
   rintro(hb|⟨q,row,qi,q1,q2,q3,q4,q5⟩)
   ·exact(V3 UV).1.1 hb
   ·by_cases VV:q=r
    ·subst VV;rw[MA]at q1;cases q1
    ·rw[AA _ _ _ _ VV]at q1;exact VV (hr.heap.inj q r row _ qi ri q1 h4 q3 hρ q4 UV q5)
  refine kC (QV _ _ zV) (TY.after ?_ hk);have K4:ri.n=(y :: l).length:=DV;rw[K4];rw[K4]at hn;refine .slC .byte (y :: l) ri.b 0 ri.cap (λi _=> .int .u8 ((((y :: l).getD i 0:UInt8).toNat:Nat):Int)) Z8 hn hc (λ_=> .inr ceW) (λi hi j hj=>?_) (λi hi j hj=>?_)
  ·have A2:j=0:=by simp[sz]at hj;exact hj
   subst A2;obtain⟨u,c1,c2⟩:=AX i hi 0 (by simp[sz]);rw[PV];simp only[Nat.zero_add];rw[c1];have e2:(enc .byte (y :: l)[i]).getD 0 .undef= .int .u8 ((y :: l)[i].toNat:Int):=rfl;rw[e2]at c2;cases c2;have e3:(y :: l).getD i (0:UInt8)=(y :: l)[i]:=by rw[List.getD_eq_getElem?_getD,List.getElem?_eq_getElem hi];rfl
   rw[e3]
  ·have A2:j=0:=by simp[sz]at hj;exact hj
   subst A2;have e3:(y :: l).getD i (0:UInt8)=(y :: l)[i]:=by rw[List.getD_eq_getElem?_getD,List.getElem?_eq_getElem hi];rfl
   rw[e3];have:=UInt8.toNat_lt (y :: l)[i];show VR _ _ _ _ (.int .u8 ((((y :: l)[i]:UInt8).toNat:Nat):Int))
   exact .int _ _ ⟨by simp[IntKind.min,IntKind.signed],by simp[IntKind.max,IntKind.signed,IntKind.bits];omega⟩
 ·cases hk
end
end Go.D
namespace Go.D
variable [iA]
section
variable {C:Cx} {w0:World} {outer own:Nat→Prop} {ρ:Nat→Option RI} {st st':St} {a:Act} {w:World} {h:Nat→Option rA}
def Out(base N r:Nat):Prop:=¬(base≤r∧r<base+N)
omit [iA]in
def BB(ow:List Nat)(base:Nat)(h:Nat→Option rA):∀(es:List V) (p r:Nat),aB ow base h p es r=match aB ow base (λ_=>none) p es r with|some x=>some x|none=>h r
 | [],p,r=>rfl
 | e :: es,p,r=>by
  have ih:=BB ow base h es (p+1) r;cases e<;>simp only[aB]<;>try exact ih
  cases hb:ow.any (Nat.beq p)
  ·simpa using ih
  ·simp only[cond_true]
   by_cases hr:r=base+p
   ·subst hr;simp[MA]
   ·simp only[AA _ _ _ _ hr];exact ih
omit [iA]in
def PC(ow:List Nat)(base:Nat):∀(es:List V) (p r:Nat),(r<base+p∨base+p+es.length≤r)→aB ow base (λ_=>none) p es r=none
 | [],p,r,_=>rfl
 | e :: es,p,r,hr=>by
  have ih:=PC ow base es (p+1) r (by simp at hr;omega);cases e<;>simp only[aB]<;>try exact ih
  cases hb:ow.any (Nat.beq p)
  ·simpa using ih
  ·simp only[cond_true];rw[AA _ _ _ _ (by simp at hr;omega)];exact ih
omit [iA]in
def wE(ow:List Nat)(base:Nat):∀(es:List V) (p:Nat),(OA ow base p es).length=es.length
 | [],p=>rfl
 | e :: es,p=>by cases e<;>simp[OA,wE ow base es (p+1)]
def oH(h g:Nat→Option rA):Prop:=∀r row,h r=some row→g r=some row
omit [iA]in
def zeN{c:V}{h g:Nat→Option rA}{x:V×List Nat}(hg:oH h g)(hf:QG h c=some x):QG g c=some x∧∀r∈x.2,∃row,h r=some row:=by
 unfold QG at hf;split at hf
 ·rename_i r;split at hf
  ·rename_i t l m hr;refine⟨by simp only[QG,hg _ _ hr];exact hf,?_⟩;cases hm:m.isLock<;>simp[hm]at hf
   subst hf;intro q hq;simp at hq;subst hq;exact⟨_,hr⟩
  ·cases hf
 ·rename_i r t off len;split at hf
  ·rename_i t' l m hr;refine⟨by simp only[QG,hg _ _ hr];exact hf,?_⟩;cases hm:m.isLock
   ·simp only[hm,cond_false]at hf;split at hf
    ·simp at hf;subst hf;intro q hq;simp at hq;subst hq;exact⟨_,hr⟩
    ·cases hf
   ·simp[hm]at hf
  ·cases hf
 ·cases hb:CG 8 c<;>simp[hb]at hf
  subst hf;refine⟨?_,by simp⟩;unfold QG;split
  ·simp[CG]at hb
  ·simp[CG]at hb
  ·simp[hb]
omit [iA]in
def zeQ{h g:Nat→Option rA}(hg:oH h g):∀{cs:List V} {x:List V×List Nat},eG h cs=some x→eG g cs=some x∧∀r∈x.2,∃row,h r=some row
 | [],x,hf=>by simp[eG]at hf;subst hf;simp[eG]
 | c :: cs,x,hf=>by
  simp only[eG]at hf;split at hf
  ·cases hf
  rename_i c' i h1;split at hf
  ·cases hf
  rename_i cs' j h2;cases hf;obtain⟨k1,k2⟩:=zeN hg h1;obtain⟨k3,k4⟩:=zeQ hg h2;refine⟨by simp[eG,k1,k3],λr hr=>?_⟩
  rcases List.mem_append.1 hr with hr|hr
  ·exact k2 r hr
  ·exact k4 r hr
omit [iA]in
def zkO{c:V}{h g:Nat→Option rA}{x:V×List Nat}(hg:oH h g)(hf:sH h c=some x):sH g c=some x∧∀r∈x.2,∃row,h r=some row:=by
 unfold sH at hf;split at hf
 ·split at hf
  ·rename_i cs cs' i h1;cases hf;obtain⟨k1,k2⟩:=zeQ hg h1;exact⟨by simp[sH,k1],k2⟩
  ·cases hf
 ·rename_i r off;split at hf
  ·rename_i cs m hr;cases hb:(m.isLock||cs.isEmpty)
   case true=>simp[hb]at hf
   simp only[hb,cond_false]at hf;split at hf
   ·rename_i cs' i h1;cases hf;obtain⟨k1,k2⟩:=zeQ hg h1;refine⟨by simp[sH,hg _ _ hr,hb,k1],λq hq=>?_⟩
    rcases List.mem_cons.1 hq with rfl|hq
    ·exact⟨_,hr⟩
    ·exact k2 q hq
   ·cases hf
  ·cases hf
 ·rename_i h1 h2;obtain⟨k1,k2⟩:=zeN hg hf;refine⟨?_,k2⟩;unfold sH;split
  ·exact absurd rfl (h1 _)
  ·exact absurd rfl (h2 _ _)
  ·exact k1
omit [iA]in
def zfI{h g:Nat→Option rA}(hg:oH h g)(ids:List Nat):oH (sC h ids) (sC g ids):=by
 intro r row hr;rw[DF]at hr⊢
 by_cases hm:r∈ids
 ·simp only[hm,if_true,Option.map_eq_some_iff]at hr⊢;obtain⟨row',h1,rfl⟩:=hr;exact⟨row',hg _ _ h1,rfl⟩
 ·simp only[hm,if_false]at hr⊢;exact hg _ _ hr
def zfC{bad bad':Nat→Prop}{ri:RI}{ρ':Nat→Option RI}{t:TN}{l:List (El t)}(hr:aE w ρ bad ri (.arr t l))
  (hv:∀u d,VR w ρ bad u d→VR w ρ' bad' u d):aE w ρ' bad' ri (.arr t l):=hr.keep (λ_=>rfl) hv
def pB.rename(hh:pB w0 outer own ρ h w){r i:Nat}{t:TN}{l:List (El t)}{ri:RI}(hr:h r=some ⟨.arr t l, .own⟩)(hρ:ρ r=some ri)(hi:ρ i=none):
  pB w0 outer own (zA ρ i (some ri)) (zA (zA h r none) i (some ⟨.arr t l, .own⟩)) w∧
   ∀u d,VR w ρ (qA outer ρ h) u d→VR w (zA ρ i (some ri)) (qA outer (zA ρ i (some ri)) (zA (zA h r none) i (some ⟨.arr t l, .own⟩))) u d:=by
 obtain⟨ri',h1,h2,h3⟩:=hh.rows r _ hr;rw[hρ]at h1;cases h1;cases hn:ri.nl
 ·exact hh.move hr hρ hn hi rfl hn w (Wx.refl _) rfl (λ_ _=>rfl) _ λbad hv=>zfC h2 hv
 ·obtain⟨k1,k2⟩:=hh.less (h':=zA h r none) (λq row' hq=>by
   by_cases VV:q=r
   ·subst VV;rw[MA]at hq;cases hq
   ·rw[AA _ _ _ _ VV]at hq;exact⟨row',hq,rfl,id⟩)
  obtain⟨k3,k4⟩:=k1.alloc i hi ri (λh=>by rw[hn]at h;cases h) w (Wx.refl _) (λ_ _=>rfl) (λh=>by rw[hn]at h;cases h) (.arr t l)
   λhv=>zfC (zfC h2 k2) hv
  exact⟨k3,λu d hu=>k4 _ _ (k2 _ _ hu)⟩
def pB.empty(hh:pB w0 outer own ρ h w){i:Nat}(t:TN)(hi:ρ i=none):
  pB w0 outer own (zA ρ i (some ⟨0,0,0,true⟩)) (zA h i (some ⟨.arr t [], .own⟩)) w∧
   ∀u d,VR w ρ (qA outer ρ h) u d→VR w (zA ρ i (some ⟨0,0,0,true⟩)) (qA outer (zA ρ i (some ⟨0,0,0,true⟩)) (zA h i (some ⟨.arr t [], .own⟩))) u d:=
 hh.alloc i hi ⟨0,0,0,true⟩ (λh=>by cases h) w (Wx.refl _) (λ_ _=>rfl) (λh=>by cases h) (.arr t []) λ_=>⟨rfl, .inl ⟨rfl,rfl⟩⟩
def pB.cut(hh:pB w0 outer own ρ h w){r i len:Nat}{t:TN}{l:List (El t)}{v:Value}(hr:h r=some ⟨.arr t l, .own⟩)(hi:ρ i=none)(hv:VR w ρ (qA outer ρ h) v (.ov r t 0 len)):
  ∃ri',pB w0 outer own (zA ρ i (some ri')) (zA (zA h r none) i (some ⟨.arr t (l.take len), .own⟩)) w∧
   (∀u d,VR w ρ (qA outer ρ h) u d→VR w (zA ρ i (some ri')) (qA outer (zA ρ i (some ri')) (zA (zA h r none) i (some ⟨.arr t (l.take len), .own⟩))) u d)∧
   VR w (zA ρ i (some ri')) (qA outer (zA ρ i (some ri')) (zA (zA h r none) i (some ⟨.arr t (l.take len), .own⟩))) v (.ow i):=by
 obtain⟨ri,hρq,JV,_⟩:=hh.rows r _ hr;have JY:ri.n=l.length:=JV.1;obtain⟨ao,cap,h1,h2,h3,h4,h5⟩:=hv.ov_inv hρq
 rcases h3 with⟨rfl,rfl⟩|⟨rfl,UV,hc⟩
 ·obtain⟨k1,k2⟩:=hh.less (h':=zA h r none) (λq row' hq=>by
   by_cases VV:q=r
   ·subst VV;rw[MA]at hq;cases hq
   ·rw[AA _ _ _ _ VV]at hq;exact⟨row',hq,rfl,id⟩)
  obtain⟨n1,n2⟩:=k1.empty t hi;rw[List.take_zero];exact⟨⟨0,0,0,true⟩,n1,λu d hu=>n2 _ _ (k2 _ _ hu),by rw[h1];exact .owN _ ⟨0,0,0,true⟩ ao (MA _ _ _) rfl rfl⟩
 ·rw[Nat.zero_mul]at h1
  rcases JV.2 with h6|⟨_,ce,c1,c2,c3,c4⟩
  ·rw[UV]at h6;cases h6.1
  obtain⟨n1,n2⟩:=hh.move hr hρq UV hi (ri':=⟨ri.b,len,cap,false⟩) rfl rfl w (Wx.refl _) rfl (λ_ _=>rfl) (.arr t (l.take len)) λbad BV=>by
   refine⟨by simp;omega, .inr ⟨rfl,ce,h4,h5,λj hj=>c3 j ?_,λi hi j hj=>?_⟩⟩
   ·have:cap *sz t≤ri.cap *sz t:=Nat.mul_le_mul_right _ (by omega);have hj:j<cap *sz t:=hj;omega
   ·obtain⟨u,f1,f2⟩:=c4 i (by simp at hi;omega) j hj;refine⟨u,f1,?_⟩;rw[List.getElem_take];exact BV _ _ f2
  exact⟨_,n1,n2,by rw[h1];exact .ow _ ⟨ri.b,len,cap,false⟩ (MA _ _ _) h4 h5 rfl⟩
structure zmp(w0:World)(outer own:Nat→Prop)(w:World)(ow:List Nat)(base N p:Nat)(ρ:Nat→Option RI)(g h h':Nat→Option rA)(es:List V)(u:Nat→Value)
  (ρ':Nat→Option RI) (g':Nat→Option rA):Prop where
 heap:pB w0 outer own ρ' g' w
 lies:oH h' g'
 out:∀r,Out base N r→ρ' r=ρ r∧(h r=none→g' r=g r)
 less:∀r,h r=none→h' r=none
 before:∀q,q<p→g' (base+q)=g (base+q)∧ρ' (base+q)=ρ (base+q)
 new:∀q,p≤q→q<N→g' (base+q)=aB ow base (λ_=>none) p es (base+q)
 ext:∀r ri,ρ r=some ri→ρ' r=some ri
 keep:∀v d,VR w ρ (qA outer ρ g) v d→VR w ρ' (qA outer ρ' g') v d
 vals:∀j (hj:j<(OA ow base p es).length),VR w ρ' (qA outer ρ' g') (u j) (OA ow base p es)[j]
 closed:∀j (hj:j<es.length),XC es[j]∧(es[j]).leaf=true
omit [iA]in
def OB.closed1{c e:V}(hs:dI c e)(h:XC c∧c.leaf=true):XC e∧e.leaf=true:=by
 cases hs with
 | refl=>exact h
 | byte n=>exact⟨λ_=> .int _ _,rfl⟩
 | nil t=>exact⟨KM _ _,rfl⟩
def wS(ow:List Nat)(base N:Nat):∀(cs:List V) (p:Nat) (h h':Nat→Option rA) (cs' es:List V) (ρ:Nat→Option RI) (g:Nat→Option rA) (u:Nat→Value),
  QD ow p cs h=some (cs',h')→OB cs' es→p+cs.length≤N→pB w0 outer own ρ g w→
  (∀j (hj:j<cs.length),VR w ρ (qA outer ρ g) (u j) cs[j])→oH h g→(∀q,q<N→h (base+q)=none)→
  (∀q,p≤q→q<N→ρ (base+q)=none)→∃ρ' g',zmp w0 outer own w ow base N p ρ g h h' es u ρ' g'∧es.length=cs.length
 | [],p,h,h',cs',es,ρ,g,u,ht,hs,hN,hh,hv,hg,wW,hf=>by
  simp only[QD,Option.some.injEq,Prod.mk.injEq]at ht;obtain⟨rfl,rfl⟩:=ht;cases hs;refine⟨ρ,g,⟨hh,hg,λr hr=>⟨rfl,λ_=>rfl⟩,λ_ h=>h,λq hq=>⟨rfl,rfl⟩,λq h1 h2=>?_,λ_ _ h=>h,λ_ _ h=>h,λj hj=>by simp[OA]at hj,λj hj=>by simp at hj⟩,rfl⟩;cases K5:g (base+q)with
  | none=>rfl
  | some row=>obtain⟨ri,h3,_⟩:=hh.rows _ _ K5;rw[hf q h1 h2]at h3;cases h3
 | c :: cs,p,h,h',cs',es,ρ,g,u,ht,hs,hN,hh,hv,hg,wW,hf=>by
  simp only[List.length_cons]at hN;have oW:¬Out base N (base+p):=λho=>ho ⟨by omega,by omega⟩
  have B0:∀r row,h r=some row→Out base N r:=λr row hr=>by
   rintro⟨h1,h2⟩;have:=wW (r - base) (by omega);rw[show base+(r - base)=r by omega,hr]at this;cases this
  -- behind a step
  have go:∀(ρ1:Nat→Option RI) (g1 h1:Nat→Option rA) (cs1 es1:List V) (e:V),QD ow (p+1) cs h1=some (cs1,h')→OB cs1 es1→es=e :: es1→pB w0 outer own ρ1 g1 w→
    (∀v d,VR w ρ (qA outer ρ g) v d→VR w ρ1 (qA outer ρ1 g1) v d)→oH h1 g1→(∀r,Out base N r→ρ1 r=ρ r∧(h r=none→g1 r=g r))→(∀r,h r=none→h1 r=none)→(∀q,q<p→g1 (base+q)=g (base+q)∧ρ1 (base+q)=ρ (base+q))→
    (∀q,p+1≤q→q<N→ρ1 (base+q)=ρ (base+q))→(∀r ri,ρ r=some ri→ρ1 r=some ri)→(XC e∧e.leaf=true)→
    (∀ (ρ':Nat→Option RI) (g':Nat→Option rA),(∀ v d,VR w ρ1 (qA outer ρ1 g1) v d→VR w ρ' (qA outer ρ' g') v d)→
     ∃(hl:0<(OA ow base p (e :: es1)).length),VR w ρ' (qA outer ρ' g') (u 0) (OA ow base p (e :: es1))[0])→
    aB ow base (λ_=>none) p (e :: es1) (base+p)=g1 (base+p)→(∀q,q≠p→aB ow base (λ_=>none) p (e :: es1) (base+q)=aB ow base (λ_=>none) (p+1) es1 (base+q))→
    (∀j (hj:j<(OA ow base (p+1) es1).length),∃(hl:j+1<(OA ow base p (e :: es1)).length),(OA ow base p (e :: es1))[j+1]=(OA ow base (p+1) es1)[j])→
    ∃ρ' g',zmp w0 outer own w ow base N p ρ g h h' es u ρ' g'∧es.length=(c :: cs).length:=by
   rintro ρ1 g1 h1 cs1 es1 e P1 oX rfl W2 fZ V2 ho1 UY C3 b9 PZ he MW N1 JY hgl1
   obtain⟨ρ',g',T,DV⟩:=wS ow base N cs (p+1) h1 h' cs1 es1 ρ1 g1 (λj=>u (j+1)) P1 oX (by omega) W2
    (λj hj=>fZ _ _ (hv (j+1) (by simp;omega))) V2 (λq hq=>UY _ (wW q hq))
    (λq h1 h2=>by rw[b9 q h1 h2];exact hf q (by omega) h2)
   refine⟨ρ',g',⟨T.heap,T.lies,λr hr=>⟨(T.out r hr).1.trans (ho1 r hr).1,λhn=>((T.out r hr).2 (UY r hn)).trans ((ho1 r hr).2 hn)⟩,λr hr=>T.less r (UY r hr),λq hq=>?_,λq h1 h2=>?_,λr ri hr=>T.ext _ _ (PZ r ri hr),λv d hd=>T.keep _ _ (fZ _ _ hd),λj hj=>?_,λj hj=>?_⟩,by simp[DV]⟩
   ·obtain⟨b1,b2⟩:=T.before q (by omega);exact⟨b1.trans (C3 q hq).1,b2.trans (C3 q hq).2⟩
   ·by_cases hq:q=p
    ·subst hq;rw[(T.before q (by omega)).1];exact N1.symm
    ·rw[T.new q (by omega) h2,JY q hq]
   ·cases j with
    | zero=>exact(MW ρ' g' T.keep).2
    | succ j=>
     have ZW:j<(OA ow base (p+1) es1).length:=by
      rw[wE]at hj⊢;simpa using hj
     obtain⟨_,h2⟩:=hgl1 j ZW;rw[h2];exact T.vals j ZW
   ·cases j with
    | zero=>exact he
    | succ j=>exact T.closed j (by simpa using hj)
  simp only[QD]at ht;have L4:ρ (base+p)=none:=hf p (Nat.le_refl _) (by omega)
  have hgp:g (base+p)=none:=by
   cases K5:g (base+p)with
   | none=>rfl
   | some row=>obtain⟨ri,h3,_⟩:=hh.rows _ _ K5;rw[L4]at h3;cases h3
  have CZ:=hv 0 (by simp);simp only[List.getElem_cons_zero]at CZ;cases hb:ow.any (Nat.beq p)
  ·simp only[hb,cond_false]at ht;split at ht
   case h_2=>cases ht
   rename_i c' ids dZ;split at ht
   case h_2=>cases ht
   rename_i cs1 h1 P1;simp only[Option.some.injEq,Prod.mk.injEq]at ht;obtain⟨rfl,rfl⟩:=ht;cases hs with
   | cons oY oX=>
   rename_i e es1;obtain⟨hfz',OY⟩:=zeN hg dZ;simp only at OY;obtain⟨k1,k2⟩:=hh.mark ids;have k3:=zfj hh CZ hfz';have Q1:∀r,h r=none→r∉ids:=λr hn hm=>by obtain⟨row,h5⟩:=OY r hm;rw[hn]at h5;cases h5
   have he:=OB.closed1 oY k3.2;have hl:OA ow base p (e :: es1)=e :: OA ow base (p+1) es1:=by cases e<;>simp[OA,hb]
   have B6:∀q,aB ow base (λ_=>none) p (e :: es1) q=aB ow base (λ_=>none) (p+1) es1 q:=λq=>by cases e<;>simp[aB,hb]
   refine go ρ (sC g ids) (sC h ids) cs1 es1 e P1 oX rfl k1 k2 (zfI hg ids) (λr hr=>⟨rfl,λhn=>?_⟩) (λr hn=>?_) (λq hq=>⟨?_,rfl⟩) (λ_ _ _=>rfl) (λ_ _ h=>h) he (λρ' g' hk=>?_) ?_ (λq hq=>B6 _) (λj hj=>?_)
   ·rw[DF,if_neg (Q1 r hn)]
   ·rw[DF,if_neg (Q1 r hn)];exact hn
   ·rw[DF,if_neg (Q1 _ (wW q (by omega)))]
   ·simp only[hl];exact⟨by simp,(VR.sub oY (hk _ _ k3.1))⟩
   ·rw[B6,PC _ _ _ _ _ (by omega),DF,if_neg (Q1 _ (wW p (by omega))),hgp]
   ·simp only[hl];exact⟨by simpa using hj,by simp⟩
  ·simp only[hb,cond_true]at ht;split at ht
   ·rename_i r;split at ht
    case h_2=>cases ht
    rename_i t l AV;split at ht
    case h_2=>cases ht
    rename_i cs1 h1 P1;simp only[Option.some.injEq,Prod.mk.injEq]at ht;obtain⟨rfl,rfl⟩:=ht;cases hs with
    | cons oY oX=>
    rename_i e es1;cases oY;have JV:=B0 r _ AV;have d9:g r=some ⟨.arr t l, .own⟩:=hg _ _ AV;obtain⟨ri,hρr,_,_⟩:=hh.rows r _ d9;obtain⟨k1,k2⟩:=hh.rename d9 hρr L4;have hrne:r≠base+p:=by rintro rfl;exact oW JV
    have hl:OA ow base p (.sl t l :: es1)= .ow (base+p) :: OA ow base (p+1) es1:=by simp[OA,hb]
    refine go _ _ (zA h r none) cs1 es1 (.sl t l) P1 oX rfl k1 k2 (λq row hq=>?_) (λq hq=>⟨AA _ _ _ _ ?_,λhn=>?_⟩) (λq hn=>?_) (λq hq=>⟨?_,AA _ _ _ _ (by omega)⟩) (λq h1 _=>AA _ _ _ _ (by omega))
     (λq qi hq=>by rw[AA];exact hq;rintro rfl;rw[L4]at hq;cases hq) ⟨KM _ _,rfl⟩ (λρ' g' hk=>?_) ?_ (λq hq=>?_) (λj hj=>?_)
    ·by_cases VV:q=r
     ·subst VV;rw[MA]at hq;cases hq
     ·rw[AA _ _ _ _ VV]at hq;have:q≠base+p:=by rintro rfl;exact oW (B0 _ _ hq)
      rw[AA _ _ _ _ this,AA _ _ _ _ VV];exact hg _ _ hq
    ·rintro rfl;exact oW hq
    ·have C6:q≠base+p:=by rintro rfl;exact oW hq
     have VV:q≠r:=by rintro rfl;rw[AV]at hn;cases hn
     rw[AA _ _ _ _ C6,AA _ _ _ _ VV]
    ·by_cases VV:q=r
     ·subst VV;exact MA _ _ _
     ·rw[AA _ _ _ _ VV];exact hn
    ·rw[AA _ _ _ _ (by omega),AA];rintro rfl;exact JV ⟨by omega,by omega⟩
    ·simp only[hl];refine⟨by simp,?_⟩
     have:VR w (zA ρ (base+p) (some ri)) (qA outer (zA ρ (base+p) (some ri)) (zA (zA g r none) (base+p) (some ⟨.arr t l, .own⟩))) (u 0) (.ow (base+p)):=by
      rcases CZ.ow_inv hρr with⟨e1,e2,e3,e4⟩|⟨ao,e1,e2,e3⟩
      ·rw[e1];exact .ow _ ri (MA _ _ _) e3 e4 e2
      ·rw[e1];exact .owN _ ri ao (MA _ _ _) e3 e2
     exact hk _ _ this
    ·simp only[aB,hb,cond_true,MA]
    ·simp only[aB,hb,cond_true];rw[AA _ _ _ _ (by omega)]
    ·simp only[hl];exact⟨by simpa using hj,by simp⟩
   ·split at ht
    case h_2=>cases ht
    rename_i cs1 h1 P1;simp only[Option.some.injEq,Prod.mk.injEq]at ht;obtain⟨rfl,rfl⟩:=ht;have QZ:u 0= .slice none 0 0:=by generalize u 0=x at CZ;cases CZ;rfl
    cases hs with
    | cons oY oX=>
    rename_i e es1;cases oY with
    | refl=>
     have hl:OA ow base p (.nil :: es1)= .nil :: OA ow base (p+1) es1:=by simp[OA]
     have B6:∀q,aB ow base (λ_=>none) p (.nil :: es1) q=aB ow base (λ_=>none) (p+1) es1 q:=λq=>by simp[aB]
     refine go ρ g h cs1 es1 .nil P1 oX rfl hh (λ_ _ h=>h) hg (λr hr=>⟨rfl,λ_=>rfl⟩) (λ_ h=>h) (λq hq=>⟨rfl,rfl⟩) (λ_ _ _=>rfl) (λ_ _ h=>h) ⟨λ_=> .nil,rfl⟩ (λρ' g' hk=>?_) ?_ (λq hq=>B6 _) (λj hj=>?_)
     ·simp only[hl];exact⟨by simp,by rw[QZ];exact .nil⟩
     ·rw[B6,PC _ _ _ _ _ (by omega),hgp]
     ·simp only[hl];exact⟨by simpa using hj,by simp⟩
    | nil t=>
     have hl:OA ow base p (.sl t [] :: es1)= .ow (base+p) :: OA ow base (p+1) es1:=by simp[OA,hb]
     obtain⟨k1,k2⟩:=hh.empty t L4
     refine go _ _ h cs1 es1 (.sl t []) P1 oX rfl k1 k2 (λq row hq=>?_) (λq hq=>⟨AA _ _ _ _ ?_,λhn=>AA _ _ _ _ ?_⟩) (λ_ h=>h) (λq hq=>⟨AA _ _ _ _ (by omega),AA _ _ _ _ (by omega)⟩) (λq h1 _=>AA _ _ _ _ (by omega))
      (λq qi hq=>by rw[AA];exact hq;rintro rfl;rw[L4]at hq;cases hq) ⟨KM _ _,rfl⟩ (λρ' g' hk=>?_) ?_ (λq hq=>?_) (λj hj=>?_)
     ·rw[AA _ _ _ _ (by rintro rfl;exact oW (B0 _ _ hq))];exact hg _ _ hq
     ·rintro rfl;exact oW hq
     ·rintro rfl;exact oW hq
     ·simp only[hl];refine⟨by simp,hk _ _ ?_⟩;rw[QZ];exact .owN _ ⟨0,0,0,true⟩ none (MA _ _ _) rfl rfl
     ·simp only[aB,hb,cond_true,MA]
     ·simp only[aB,hb,cond_true];rw[AA _ _ _ _ (by omega)]
     ·simp only[hl];exact⟨by simpa using hj,by simp⟩
   ·rename_i r t0 len;split at ht
    case h_2=>cases ht
    rename_i t l AV;split at ht
    case h_2=>cases ht
    rename_i cs1 h1 hd P1;have hd:=of_decide_eq_true hd;subst hd;simp only[Option.some.injEq,Prod.mk.injEq]at ht;obtain⟨rfl,rfl⟩:=ht;cases hs with
    | cons oY oX=>
    rename_i e es1;cases oY;have JV:=B0 r _ AV;have d9:g r=some ⟨.arr t l, .own⟩:=hg _ _ AV;obtain⟨ri,k1,k2,k3⟩:=hh.cut d9 L4 CZ;have hrne:r≠base+p:=by rintro rfl;exact oW JV
    have hl:OA ow base p (.sl t (l.take len) :: es1)= .ow (base+p) :: OA ow base (p+1) es1:=by simp[OA,hb]
    refine go _ _ (zA h r none) cs1 es1 (.sl t (l.take len)) P1 oX rfl k1 k2 (λq row hq=>?_) (λq hq=>⟨AA _ _ _ _ ?_,λhn=>?_⟩) (λq hn=>?_) (λq hq=>⟨?_,AA _ _ _ _ (by omega)⟩) (λq h1 _=>AA _ _ _ _ (by omega))
     (λq qi hq=>by rw[AA];exact hq;rintro rfl;rw[L4]at hq;cases hq) ⟨KM _ _,rfl⟩ (λρ' g' hk=>?_) ?_ (λq hq=>?_) (λj hj=>?_)
    ·by_cases VV:q=r
     ·subst VV;rw[MA]at hq;cases hq
     ·rw[AA _ _ _ _ VV]at hq;have:q≠base+p:=by rintro rfl;exact oW (B0 _ _ hq)
      rw[AA _ _ _ _ this,AA _ _ _ _ VV];exact hg _ _ hq
    ·rintro rfl;exact oW hq
    ·have C6:q≠base+p:=by rintro rfl;exact oW hq
     have VV:q≠r:=by rintro rfl;rw[AV]at hn;cases hn
     rw[AA _ _ _ _ C6,AA _ _ _ _ VV]
    ·by_cases VV:q=r
     ·subst VV;exact MA _ _ _
     ·rw[AA _ _ _ _ VV];exact hn
    ·rw[AA _ _ _ _ (by omega),AA];rintro rfl;exact JV ⟨by omega,by omega⟩
    ·simp only[hl];refine⟨by simp,?_⟩;exact hk _ _ k3
    ·simp only[aB,hb,cond_true,MA]
    ·simp only[aB,hb,cond_true];rw[AA _ _ _ _ (by omega)]
    ·simp only[hl];exact⟨by simpa using hj,by simp⟩
   ·cases ht
def KR{bad bad2:Nat→Prop}{ρ2:Nat→Option RI}(ow:List Nat)(B B2:Nat):∀(es:List V) (p:Nat) (u:Nat→Value),
  (∀q,p≤q→q<p+es.length→ow.any (Nat.beq q)=true→(∃t l,es[q - p]?=some (.sl t l))→ρ2 (B2+q)=ρ (B+q))→(∀j (hj:j<es.length),XC es[j])→(∀b,bad2 b→bad b)→
  (∀j (hj:j<(OA ow B p es).length),VR w ρ bad (u j) (OA ow B p es)[j])→∀j (hj:j<(OA ow B2 p es).length),VR w ρ2 bad2 (u j) (OA ow B2 p es)[j]
 | [],p,u,hρ,hc,hb,hv,j,hj=>by simp[OA]at hj
 | e :: es,p,u,hρ,hc,hb,hv,j,hj=>by
  have split1:∀(B:Nat),∃e',OA ow B p (e :: es)=e' :: OA ow B (p+1) es∧(e'=e∨e'= .ow (B+p))∧((∃t l,e= .sl t l∧ow.any (Nat.beq p)=true)→e'= .ow (B+p))∧
    ((¬∃t l,e= .sl t l∧ow.any (Nat.beq p)=true)→e'=e):=λB=>by
   cases e<;>simp only[OA]<;>try exact⟨_,rfl, .inl rfl,λ⟨_,_,h,_⟩=>(by cases h),λ_=>rfl⟩
   rename_i t l;cases hb:ow.any (Nat.beq p)
   ·exact⟨_,rfl, .inl rfl,λ⟨_,_,_,h⟩=>(by cases h),λ_=>rfl⟩
   ·exact⟨_,rfl, .inr rfl,λ_=>rfl,λh=>absurd ⟨t,l,rfl,rfl⟩ h⟩
  obtain⟨e1,s1,_,s2,s3⟩:=split1 B;obtain⟨e2,t1,_,t2,t3⟩:=split1 B2
  have ih:=KR ow B B2 es (p+1) (λj=>u (j+1)) (λq h1 h2 h3 h4=>hρ q (by omega) (by simp;omega) h3 (by
    obtain⟨t,l,h4⟩:=h4;exact⟨t,l,by rw[show q - p=(q - (p+1))+1 by omega,List.getElem?_cons_succ];exact h4⟩)) (λj hj=>hc (j+1) (by simp;omega)) hb
   (fun j hj=>by
    have:=hv (j+1) (by rw[s1];simp;omega);simpa[s1]using this)
  simp only[t1]at hj⊢;cases j with
  | succ j=>exact ih j (by simpa using hj)
  | zero=>
   have MW:=hv 0 (by rw[s1];simp);simp only[s1,List.getElem_cons_zero]at MW⊢
   by_cases hs:∃t l,e= .sl t l∧ow.any (Nat.beq p)=true
   ·rw[s2 hs]at MW;rw[t2 hs];have hq:=hρ p (Nat.le_refl _) (by simp) (by obtain⟨_,_,_,h⟩:=hs;exact h) (by obtain⟨t,l,h,_⟩:=hs;exact⟨t,l,by simp[h]⟩);generalize u 0=u0 at MW;cases MW with
    | ow _ ri h1 h2 h3 h4=>exact .ow _ ri (by rw[hq];exact h1) h2 h3 h4
    | owN _ ri ao h1 h2 h3=>exact .owN _ ri ao (by rw[hq];exact h1) h2 h3
   ·rw[s3 hs]at MW;rw[t3 hs];exact(MW.noRef (hc 0 (by simp)) ρ2).mono (λ_ _ h=>h) (λ_ _ _=>rfl) λb h=> .inl (hb b h)
def pB.reread(hh:pB w0 outer own ρ h w){r:Nat}{cs es:List V}{m:qH}(hr:h r=some ⟨.box cs,m⟩)(DV:es.length=cs.length)
  (hv:∀ri,ρ r=some ri→∀j (hj:j<es.length),VR w ρ (qA outer ρ h) ((w.cell? (at_ ri.b j)).getD undef) es[j]):
  pB w0 outer own ρ (zA h r (some ⟨.box es,m⟩)) w∧∀u d,VR w ρ (qA outer ρ h) u d→VR w ρ (qA outer ρ (zA h r (some ⟨.box es,m⟩))) u d:=by
 have YV:∀b,qA outer ρ (zA h r (some ⟨.box es,m⟩)) b→qA outer ρ h b:=λb hb=>hb.mono λq row' h1 h2=>by
  by_cases hq:q=r
  ·subst hq;rw[MA]at h1;cases h1;exact⟨_,hr,h2⟩
  ·rw[AA _ _ _ _ hq]at h1;exact⟨row',h1,h2⟩
 have hk:∀u d,VR w ρ (qA outer ρ h) u d→VR w ρ (qA outer ρ (zA h r (some ⟨.box es,m⟩))) u d:=λu d hu=>hu.mono (λ_ _ h=>h) (λ_ _ _=>rfl) λb hb=> .inl (YV b hb)
 have old:∀q row,zA h r (some ⟨.box es,m⟩) q=some row→∃row',h q=some row'∧(q=r∧row=⟨.box es,m⟩∨row=row'):=λq row hq=>by
  by_cases VV:q=r
  ·subst VV;rw[MA]at hq;cases hq;exact⟨_,hr, .inl ⟨rfl,rfl⟩⟩
  ·rw[AA _ _ _ _ VV]at hq;exact⟨row,hq, .inr rfl⟩
 refine⟨⟨hh.wx,hh.old,hh.outLt,λq row hq=>?_,λq q' row row' qi qi' h1 h2 h3 h4=>?_⟩,hk⟩
 ·obtain⟨row',h1,h2⟩:=old q row hq;obtain⟨ri,h3,h4,h5⟩:=hh.rows q row' h1
  have U9:ri.nl=false→(¬outer ri.b∧(row.m.isRo=false→w0.heap.size≤ri.b∨own ri.b))∧ri.b<w.heap.size:=by
   rcases h2 with⟨rfl,rfl⟩|rfl
   ·rw[hr]at h1;cases h1;exact h5
   ·exact h5
  refine⟨ri,h3,?_,U9⟩
  rcases h2 with⟨rfl,rfl⟩|rfl
  ·rw[hr]at h1;cases h1;refine⟨h4.1,λj hj=>?_⟩;obtain⟨f1,u,f2,_⟩:=h4.2 j (by omega);refine⟨f1,u,f2,?_⟩;have:=hv ri h3 j hj;rw[f2]at this;exact hk _ _ this
  ·exact h4.keep (λ_=>rfl) hk
 ·obtain⟨_,g1,_⟩:=old q row h1;obtain⟨_,g2,_⟩:=old q' row' h2;exact hh.inj q q' _ _ qi qi' g1 g2 h3 h4
end
end Go.D
namespace Go.D
variable [iA]
def BA:List kB→Nat→List V→Nat→Option rA
 | .plain :: ks,k,_ :: as=>BA ks (k+1) as
 | .ptr ow :: ks,k, .agg cs :: as=>zA (aB ow (128 *k) (BA ks (k+1) as) 0 cs) (128 *k+127) (some ⟨.box (OA ow (128 *k) 0 cs), .own⟩)
 | .mv ow :: ks,k, .agg cs :: as=>aB ow (128 *k) (BA ks (k+1) as) 0 cs
 | .ms :: ks,k,v :: as=>aB [0] (128 *k) (BA ks (k+1) as) 0 [v]
 | _,_,_=>λ_=>none
def sB:List kB→Nat→List V→List V
 | .plain :: ks,k,v :: as=>v :: sB ks (k+1) as
 | .ptr _ :: ks,k,_ :: as=> .bp (128 *k+127) 0 :: sB ks (k+1) as
 | .mv ow :: ks,k, .agg cs :: as=> .agg (OA ow (128 *k) 0 cs) :: sB ks (k+1) as
 | .ms :: ks,k,v :: as=>zdS (128 *k) v :: sB ks (k+1) as
 | _,_,_=>[]
def jB:List kB→Nat→List Nat→Nat→Option Nat
 | .plain :: ks,k,bs,q=>jB ks (k+1) bs q
 | .ptr _ :: ks,k,b :: bs,q=>if q=128 *k+127 then some b else jB ks (k+1) bs q
 | .mv _ :: ks,k,bs,q=>jB ks (k+1) bs q
 | .ms :: ks,k,bs,q=>jB ks (k+1) bs q
 | _,_,_,_=>none
omit [iA]in
def KE:∀(ks:List kB) (k:Nat) (bs:List Nat) (q b:Nat),jB ks k bs q=some b→128 *k+127≤q∧q % 128=127∧b∈bs
 | [],k,bs,q,b,h=>by simp[jB]at h
 | .plain :: ks,k,bs,q,b,h=>by
  simp only[jB]at h;obtain⟨h1,h2,h3⟩:=KE ks (k+1) bs q b h;exact⟨by omega,h2,h3⟩
 | .mv ow :: ks,k,bs,q,b,h=>by
  simp only[jB]at h;obtain⟨h1,h2,h3⟩:=KE ks (k+1) bs q b h;exact⟨by omega,h2,h3⟩
 | .ms :: ks,k,bs,q,b,h=>by
  simp only[jB]at h;obtain⟨h1,h2,h3⟩:=KE ks (k+1) bs q b h;exact⟨by omega,h2,h3⟩
 | .ptr ow :: ks,k,[],q,b,h=>by simp[jB]at h
 | .ptr ow :: ks,k,c :: bs,q,b,h=>by
  simp only[jB]at h;split at h
  ·cases h;exact⟨by omega,by omega,by simp⟩
  ·obtain⟨h1,h2,h3⟩:=KE ks (k+1) bs q b h;exact⟨by omega,h2,by simp[h3]⟩
omit [iA]in
def AS:∀(ks:List kB) (k:Nat) (bs:List Nat) (q q' b:Nat),bs.Nodup→jB ks k bs q=some b→jB ks k bs q'=some b→q=q'
 | [],k,bs,q,q',b,hn,h,h'=>by simp[jB]at h
 | .plain :: ks,k,bs,q,q',b,hn,h,h'=>AS ks (k+1) bs q q' b hn h h'
 | .mv ow :: ks,k,bs,q,q',b,hn,h,h'=>AS ks (k+1) bs q q' b hn h h'
 | .ms :: ks,k,bs,q,q',b,hn,h,h'=>AS ks (k+1) bs q q' b hn h h'
 | .ptr ow :: ks,k,[],q,q',b,hn,h,h'=>by simp[jB]at h
 | .ptr ow :: ks,k,c :: bs,q,q',b,hn,h,h'=>by
  simp only[jB]at h h';simp only[List.nodup_cons]at hn;split at h<;>split at h'
  ·omega
  ·cases h;exact absurd (KE _ _ _ _ _ h').2.2 hn.1
  ·cases h';exact absurd (KE _ _ _ _ _ h).2.2 hn.1
  ·exact AS ks (k+1) bs q q' b hn.2 h h'
omit [iA]in
def jV:∀(ks:List kB) (k:Nat) (bs:List Nat) (q b:Nat),jB ks k bs q=some b→q<128 *(k+ks.length)
 | [],k,bs,q,b,h=>by simp[jB]at h
 | .plain :: ks,k,bs,q,b,h=>by
  simp only[jB]at h;have:=jV ks (k+1) bs q b h;simp;omega
 | .mv ow :: ks,k,bs,q,b,h=>by
  simp only[jB]at h;have:=jV ks (k+1) bs q b h;simp;omega
 | .ms :: ks,k,bs,q,b,h=>by
  simp only[jB]at h;have:=jV ks (k+1) bs q b h;simp;omega
 | .ptr ow :: ks,k,[],q,b,h=>by simp[jB]at h
 | .ptr ow :: ks,k,c :: bs,q,b,h=>by
  simp only[jB]at h;split at h
  ·simp;omega
  ·have:=jV ks (k+1) bs q b h;simp;omega
omit [iA]in
def ER(ow:List Nat)(B B2:Nat):∀(es:List V) (p q:Nat),aB ow B (λ_=>none) p es (B+q)=aB ow B2 (λ_=>none) p es (B2+q)
 | [],p,q=>rfl
 | e :: es,p,q=>by
  have ih:=ER ow B B2 es (p+1) q;cases e<;>simp only[aB]<;>try exact ih
  cases hb:ow.any (Nat.beq p)
  ·simpa using ih
  ·simp only[cond_true]
   by_cases hq:q=p
   ·subst hq;rw[MA,MA]
   ·rw[AA _ _ _ _ (by omega),AA _ _ _ _ (by omega)];exact ih
omit [iA]in
def SD(ow:List Nat)(B:Nat):∀(es:List V) (p r:Nat) (row:rA),aB ow B (λ_=>none) p es r=some row→∃t l,row=⟨.arr t l, .own⟩∧B+p≤r∧r<B+p+es.length
 | [],p,r,row,h=>by simp[aB]at h
 | e :: es,p,r,row,h=>by
  have ih:=SD ow B es (p+1) r row
  have nx:aB ow B (λ_=>none) (p+1) es r=some row→∃t l,row=⟨.arr t l, .own⟩∧B+p≤r∧r<B+p+(e :: es).length:=λh=>by
   obtain⟨t,l,h1,h2,h3⟩:=ih h;exact⟨t,l,h1,by omega,by simp;omega⟩
  cases e<;>simp only[aB]at h<;>try exact nx h
  cases hb:ow.any (Nat.beq p)
  ·simp only[hb,cond_false]at h;exact nx h
  ·simp only[hb,cond_true]at h
   by_cases hr:r=B+p
   ·subst hr;rw[MA]at h;cases h;exact⟨_,_,rfl,Nat.le_refl _,by simp⟩
   ·rw[AA _ _ _ _ hr]at h;exact nx h
omit [iA]in
def zbU(ow:List Nat)(B:Nat):∀(es:List V) (p q:Nat) (t:TN) (l:List (El t)),p≤q→es[q - p]?=some (.sl t l)→ow.any (Nat.beq q)=true→aB ow B (λ_=>none) p es (B+q)=some ⟨.arr t l, .own⟩
 | [],p,q,t,l,hp,he,ho=>by simp at he
 | e :: es,p,q,t,l,hp,he,ho=>by
  by_cases hq:q=p
  ·subst hq;simp at he;subst he;simp only[aB,ho,cond_true,MA]
  ·have ih:=zbU ow B es (p+1) q t l (by omega) (by rw[show q - p=(q - (p+1))+1 by omega,List.getElem?_cons_succ]at he;exact he) ho;cases e<;>simp only[aB]<;>try exact ih
   cases hb:ow.any (Nat.beq p)
   ·simpa using ih
   ·simp only[cond_true];rw[AA _ _ _ _ (by omega)];exact ih
section
variable {C:Cx} {w0:World} {outer own:Nat→Prop} {ρ:Nat→Option RI} {st st':St} {a:Act} {w:World} {h:Nat→Option rA}
inductive PF(w:World)(ρ:Nat→Option RI)(bad:Nat→Prop)(g:Nat→Option rA)(N0:Nat):List kB→Nat→List V→List Nat→(Nat→Value)→Prop
 | nil (k:Nat) (u:Nat→Value):PF w ρ bad g N0 [] k [] [] u
 | plain {ks:List kB} {k:Nat} {v:V} {as:List V} {bs:List Nat} {u:Nat→Value} (hv:VR w ρ bad (u 0) v) (hn:XC v) (hr:PF w ρ bad g N0 ks (k+1) as bs λj=>u (j+1)):
   PF w ρ bad g N0 (.plain :: ks) k (v :: as) bs u
 | ptr {ow:List Nat} {ks:List kB} {k b:Nat} {cs as:List V} {bs:List Nat} {u:Nat→Value} (ri:RI) (hρ:ρ b=some ri) (UV:ri.nl=false) (hu:u 0= .pointer (some (at_ ri.b 0)))
   (hg:g b=some ⟨.box (OA ow (N0+128 *k) 0 cs), .own⟩) (hl:cs.length≤127) (hq:∀q,q<128→g (N0+128 *k+q)=aB ow (N0+128 *k) (λ_=>none) 0 cs (N0+128 *k+q))
   (hc:∀j (hj:j<cs.length),XC cs[j]∧(cs[j]).leaf=true) (hb:b<N0) (hr:PF w ρ bad g N0 ks (k+1) as bs λj=>u (j+1)):
   PF w ρ bad g N0 (.ptr ow :: ks) k (.agg cs :: as) (b :: bs) u
 | mv {ow:List Nat} {ks:List kB} {k:Nat} {cs as:List V} {bs:List Nat} {u:Nat→Value} (hv:VR w ρ bad (u 0) (.agg (OA ow (N0+128 *k) 0 cs)))
   (hl:cs.length≤127) (hq:∀q,q<128→g (N0+128 *k+q)=aB ow (N0+128 *k) (λ_=>none) 0 cs (N0+128 *k+q))
   (hc:∀j (hj:j<cs.length),XC cs[j]∧(cs[j]).leaf=true) (hr:PF w ρ bad g N0 ks (k+1) as bs λj=>u (j+1)):
   PF w ρ bad g N0 (.mv ow :: ks) k (.agg cs :: as) bs u
 | ms {ks:List kB} {k:Nat} {v:V} {as:List V} {bs:List Nat} {u:Nat→Value} (hv:VR w ρ bad (u 0) (zdS (N0+128 *k) v))
   (hq:∀q,q<128→g (N0+128 *k+q)=aB [0] (N0+128 *k) (λ_=>none) 0 [v] (N0+128 *k+q))
   (hc:XC v∧v.leaf=true) (hr:PF w ρ bad g N0 ks (k+1) as bs λj=>u (j+1)):
   PF w ρ bad g N0 (.ms :: ks) k (v :: as) bs u
omit [iA]in
def OB.rfl':∀(cs:List V),OB cs cs
 | []=> .nil
 | c :: cs=> .cons (.refl c) (OB.rfl' cs)
omit [iA]in
def zeR{ow:List Nat}{ks:List kB}{v:V}{vs:List V}{x:List V×(Nat→Option rA)×List Nat}(ht:aC (.ptr ow :: ks) (v :: vs) h=some x):∃r,v= .bp r 0:=by
 unfold aC at ht;split at ht
 ·simp_all
 ·simp_all
 ·rename_i e1 e2;simp only[List.cons.injEq]at e2;exact⟨_,e2.1⟩
 ·simp_all
 ·simp_all
 ·cases ht
omit [iA]in
def zfb{ow:List Nat}{ks:List kB}{v:V}{vs:List V}{x:List V×(Nat→Option rA)×List Nat}(ht:aC (.mv ow :: ks) (v :: vs) h=some x):∃cs,v= .agg cs:=by
 unfold aC at ht;split at ht
 ·simp_all
 ·simp_all
 ·simp_all
 ·rename_i e1 e2;simp only[List.cons.injEq]at e2;exact⟨_,e2.1⟩
 ·simp_all
 ·cases ht
def dV(N0:Nat):∀(ks:List kB) (as:List V) (h h':Nat→Option rA) (as':List V) (bs:List Nat) (k:Nat) (ρ:Nat→Option RI) (g:Nat→Option rA) (u:Nat→Value),
  aC ks as h=some (as',h',bs)→pB w0 outer own ρ g w→(∀j (hj:j<as.length),VR w ρ (qA outer ρ g) (u j) as[j])→oH h g→(∀r,N0+128 *k≤r→ρ r=none)→(∀r,N0≤r→h r=none)→
  ∃ρ' g',pB w0 outer own ρ' g' w∧oH h' g'∧(∀r,h r=none→h' r=none)∧(∀r,h r=none→r<N0+128 *k→g' r=g r)∧(∀r ri,ρ r=some ri→ρ' r=some ri)∧
   (∀v d,VR w ρ (qA outer ρ g) v d→VR w ρ' (qA outer ρ' g') v d)∧PF w ρ' (qA outer ρ' g') g' N0 ks k as' bs u∧
   (∀b∈bs,h' b=none∧h b≠none)∧bs.Nodup∧as.length=ks.length∧(∀r,r<N0→ρ' r=ρ r)
 | [],[],h,h',as',bs,k,ρ,g,u,ht,hh,hv,hg,hf,hN=>by
  simp only[aC,Option.some.injEq,Prod.mk.injEq]at ht;obtain⟨rfl,rfl,rfl⟩:=ht;exact⟨ρ,g,hh,hg,λ_ h=>h,λ_ _ _=>rfl,λ_ _ h=>h,λ_ _ h=>h, .nil _ _,λb hb=>by simp at hb,by simp,rfl,λ_ _=>rfl⟩
 | [],_ :: _,h,h',as',bs,k,ρ,g,u,ht,hh,hv,hg,hf,hN=>by simp[aC]at ht
 | .plain :: ks,[],h,h',as',bs,k,ρ,g,u,ht,hh,hv,hg,hf,hN=>by simp[aC]at ht
 | .ptr _ :: ks,[],h,h',as',bs,k,ρ,g,u,ht,hh,hv,hg,hf,hN=>by simp[aC]at ht
 | .mv _ :: ks,[],h,h',as',bs,k,ρ,g,u,ht,hh,hv,hg,hf,hN=>by simp[aC]at ht
 | .ms :: ks,[],h,h',as',bs,k,ρ,g,u,ht,hh,hv,hg,hf,hN=>by simp[aC]at ht
 | .plain :: ks,v :: vs,h,h',as',bs,k,ρ,g,u,ht,hh,hv,hg,hf,hN=>by
  simp only[aC]at ht;split at ht
  ·cases ht
  rename_i v' ids dZ;split at ht
  ·cases ht
  rename_i as2 h2 bs2 D3;simp only[Option.some.injEq,Prod.mk.injEq]at ht;obtain⟨rfl,rfl,rfl⟩:=ht;obtain⟨k1,k2⟩:=zkO hg dZ;have k2:∀r∈ids,∃row,h r=some row:=k2;obtain⟨m1,m2⟩:=hh.mark ids;obtain⟨f1,f2⟩:=zgW hh (hv 0 (by simp)) k1;have Q1:∀r,h r=none→r∉ids:=λr hn hm=>by obtain⟨row,h5⟩:=k2 r hm;rw[hn]at h5;cases h5
  have i9:∀r,h r=none→sC h ids r=none:=λr hn=>by rw[DF,if_neg (Q1 r hn)];exact hn
  obtain⟨ρ',g',c1,c2,c3,c4,c5,c6,c7,c8,c9,ZF,oG⟩:=dV N0 ks vs (sC h ids) h2 as2 bs2 (k+1) ρ (sC g ids) (λj=>u (j+1)) D3 m1
   (λj hj=>m2 _ _ (hv (j+1) (by simp;omega))) (zfI hg ids) (λr hr=>hf r (by omega)) (λr hr=>i9 r (hN r hr))
  refine⟨ρ',g',c1,c2,λr hr=>c3 r (i9 r hr),λr hr hk=>?_,c5,λv d hd=>c6 _ _ (m2 _ _ hd), .plain (c6 _ _ f1) f2 c7,λb hb=>?_,c9,by simp[ZF],oG⟩
  ·rw[c4 r (i9 r hr) (by omega),DF,if_neg (Q1 r hr)]
  ·obtain⟨d1,d2⟩:=c8 b hb;exact⟨d1,λhn=>d2 (i9 b hn)⟩
 | .ptr ow :: ks,v :: vs,h,h',as',bs,k,ρ,g,u,ht,hh,hv,hg,hf,hN=>by
  obtain⟨r,rfl⟩:=zeR ht;simp only[aC]at ht;split at ht
  case h_2=>cases ht
  rename_i cs AV;cases fW:Nat.ble cs.length 127
  case false=>simp[fW]at ht
  simp only[fW,cond_true]at ht;have fW:=Nat.le_of_ble_eq_true fW;split at ht
  ·cases ht
  rename_i cs' h1 RZ;split at ht
  ·cases ht
  rename_i as2 h2 bs2 D3;simp only[Option.some.injEq,Prod.mk.injEq]at ht;obtain⟨rfl,rfl,rfl⟩:=ht
  have hrN:r<N0:=by
   rcases Nat.lt_or_ge r N0 with h3|h3
   ·exact h3
   ·rw[hN r h3]at AV;cases AV
  have hgr:=hg _ _ AV;have MW:=hv 0 (by simp);simp only[List.getElem_cons_zero]at MW;obtain⟨ri,hρ,JV,_⟩:=hh.rows r _ hgr
  have QZ:u 0= .pointer (some (at_ ri.b 0))∧ri.nl=false:=by
   generalize u 0=x at MW;cases MW with
   | bp _ _ ri' h3 h4=>rw[hρ]at h3;cases h3;exact⟨rfl,h4⟩
  have RV:∀q,h q=none→zA h r none q=none:=λq hq=>by
   by_cases VV:q=r
   ·subst VV;exact MA _ _ _
   ·rw[AA _ _ _ _ VV];exact hq
  obtain⟨ρ1,g1,T,DV⟩:=wS ow (N0+128 *k) 128 cs 0 (zA h r none) h1 cs' cs' ρ g (λj=>(w.cell? (at_ ri.b j)).getD undef) RZ (OB.rfl' _) (by omega) hh
   (λj hj=>by obtain⟨_,x,f1,f2⟩:=JV.2 j hj;rw[f1];exact f2)
   (fun q row hq=>by
    by_cases VV:q=r
    ·subst VV;rw[MA]at hq;cases hq
    ·rw[AA _ _ _ _ VV]at hq;exact hg _ _ hq)
   (λq hq=>RV _ (hN _ (by omega))) (λq _ _=>hf _ (by omega))
  have D6:Out (N0+128 *k) 128 r:=λh3=>by omega
  have hg1r:g1 r=some ⟨.box cs, .own⟩:=by rw[(T.out r D6).2 (MA _ _ _)];exact hgr
  have hρ1:ρ1 r=some ri:=T.ext _ _ hρ;obtain⟨n1,n2⟩:=T.heap.reread hg1r (es:=OA ow (N0+128 *k) 0 cs') (by rw[wE];exact DV) (λri' h3 j hj=>by rw[hρ1]at h3;cases h3;exact T.vals j hj);have D2:h1 r=none:=T.less r (MA _ _ _)
  obtain⟨ρ',g',c1,c2,c3,c4,c5,c6,c7,c8,c9,ZF,oG⟩:=dV N0 ks vs h1 h2 as2 bs2 (k+1) ρ1 _ (λj=>u (j+1)) D3 n1
   (λj hj=>n2 _ _ (T.keep _ _ (hv (j+1) (by simp;omega))))
   (fun q row hq=>by
    have VV:q≠r:=by rintro rfl;rw[D2]at hq;cases hq
    rw[AA _ _ _ _ VV];exact T.lies _ _ hq)
   (λq hq=>by rw[(T.out q (λh3=>by omega)).1];exact hf q (by omega)) (λq hq=>T.less q (RV q (hN q hq)))
  have SW:∀q,h q=none→q<N0+128 *k→Out (N0+128 *k) 128 q:=λq _ h3 h4=>by omega
  refine⟨ρ',g',c1,c2,λq hq=>c3 q (T.less q (RV q hq)),λq hq hk=>?_,λq qi hq=>c5 _ _ (T.ext _ _ hq),λv d hd=>c6 _ _ (n2 _ _ (T.keep _ _ hd)),
   .ptr ri (c5 _ _ hρ1) QZ.2 QZ.1 ?_ (by omega) (λq hq=>?_) T.closed hrN c7,λb hb=>?_,?_,by simp[ZF],λq hq=>?_⟩
  ·have VV:q≠r:=by rintro rfl;rw[AV]at hq;cases hq
   rw[c4 q (T.less q (RV q hq)) (by omega),AA _ _ _ _ VV,(T.out q (SW q hq hk)).2 (RV q hq)]
  ·rw[c4 r D2 (by omega),MA]
  ·rw[c4 _ (T.less _ (RV _ (hN _ (by omega)))) (by omega),AA _ _ _ _ (by omega),T.new q (by omega) hq]
  ·rcases List.mem_cons.1 hb with rfl | hb
   ·exact⟨c3 _ D2,by rw[AV];simp⟩
   ·obtain⟨d1,d2⟩:=c8 b hb;exact⟨d1,λhn=>d2 (T.less b (RV b hn))⟩
  ·refine List.nodup_cons.2 ⟨λhm=>(c8 r hm).2 D2,c9⟩
  ·rw[oG q hq,(T.out q (λh3=>by omega)).1]
 | .mv ow :: ks,v :: vs,h,h',as',bs,k,ρ,g,u,ht,hh,hv,hg,hf,hN=>by
  obtain⟨cs,rfl⟩:=zfb ht;simp only[aC]at ht;cases fW:Nat.ble cs.length 127
  case false=>simp[fW]at ht
  simp only[fW,cond_true]at ht;have fW:=Nat.le_of_ble_eq_true fW;split at ht
  ·cases ht
  rename_i cs' h1 RZ;split at ht
  ·cases ht
  rename_i as2 h2 bs2 D3;simp only[Option.some.injEq,Prod.mk.injEq]at ht;obtain⟨rfl,rfl,rfl⟩:=ht;have MW:=hv 0 (by simp);simp only[List.getElem_cons_zero]at MW
  obtain⟨vsA,QZ,KV,hcv⟩:∃vsA:Array Value,u 0= .agg vsA∧vsA.size=cs.length∧∀j (hj:j<cs.length),VR w ρ (qA outer ρ g) (vsA.getD j undef) cs[j]:=by
   generalize u 0=x at MW;cases MW with
   | agg _ vsA h1 h2=>exact⟨vsA,rfl,h1,h2⟩
  obtain⟨ρ1,g1,T,DV⟩:=wS ow (N0+128 *k) 128 cs 0 h h1 cs' cs' ρ g (λj=>vsA.getD j undef) RZ (OB.rfl' _) (by omega) hh hcv hg
   (λq hq=>hN _ (by omega)) (λq _ _=>hf _ (by omega))
  obtain⟨ρ',g',c1,c2,c3,c4,c5,c6,c7,c8,c9,ZF,oG⟩:=dV N0 ks vs h1 h2 as2 bs2 (k+1) ρ1 g1 (λj=>u (j+1)) D3 T.heap
   (λj hj=>T.keep _ _ (hv (j+1) (by simp;omega))) T.lies
   (λq hq=>by rw[(T.out q (λh3=>by omega)).1];exact hf q (by omega)) (λq hq=>T.less q (hN q hq))
  have SW:∀q,h q=none→q<N0+128 *k→Out (N0+128 *k) 128 q:=λq _ h3 h4=>by omega
  refine⟨ρ',g',c1,c2,λq hq=>c3 q (T.less q hq),λq hq hk=>?_,λq qi hq=>c5 _ _ (T.ext _ _ hq),λv d hd=>c6 _ _ (T.keep _ _ hd),
   .mv ?_ (by omega) (λq hq=>?_) T.closed c7,λb hb=>?_,c9,by simp[ZF],λq hq=>?_⟩
  ·rw[c4 q (T.less q hq) (by omega),(T.out q (SW q hq hk)).2 hq]
  ·rw[QZ];refine .agg _ _ (by rw[wE,KV,DV]) λj hj=>?_;exact c6 _ _ (T.vals j hj)
  ·rw[c4 _ (T.less _ (hN _ (by omega))) (by omega),T.new q (by omega) hq]
  ·obtain⟨d1,d2⟩:=c8 b hb;exact⟨d1,λhn=>d2 (T.less b hn)⟩
  ·rw[oG q hq,(T.out q (λh3=>by omega)).1]
 | .ms :: ks,v :: vs,h,h',as',bs,k,ρ,g,u,ht,hh,hv,hg,hf,hN=>by
  simp only[aC]at ht;split at ht
  case h_2=>cases ht
  rename_i v' h1 RZ;split at ht
  ·cases ht
  rename_i as2 h2 bs2 D3;simp only[Option.some.injEq,Prod.mk.injEq]at ht;obtain⟨rfl,rfl,rfl⟩:=ht;have MW:=hv 0 (by simp);simp only[List.getElem_cons_zero]at MW
  obtain⟨ρ1,g1,T,DV⟩:=wS [0] (N0+128 *k) 128 [v] 0 h h1 [v'] [v'] ρ g u RZ (OB.rfl' _) (by simp) hh (λj hj=>by
    obtain rfl:j=0:=by simpa using hj
    exact MW) hg
   (λq hq=>hN _ (by omega)) (λq _ _=>hf _ (by omega))
  obtain⟨ρ',g',c1,c2,c3,c4,c5,c6,c7,c8,c9,ZF,oG⟩:=dV N0 ks vs h1 h2 as2 bs2 (k+1) ρ1 g1 (λj=>u (j+1)) D3 T.heap
   (λj hj=>T.keep _ _ (hv (j+1) (by simp;omega))) T.lies
   (λq hq=>by rw[(T.out q (λh3=>by omega)).1];exact hf q (by omega)) (λq hq=>T.less q (hN q hq))
  have SW:∀q,h q=none→q<N0+128 *k→Out (N0+128 *k) 128 q:=λq _ h3 h4=>by omega
  refine⟨ρ',g',c1,c2,λq hq=>c3 q (T.less q hq),λq hq hk=>?_,λq qi hq=>c5 _ _ (T.ext _ _ hq),λv d hd=>c6 _ _ (T.keep _ _ hd),
   .ms ?_ (λq hq=>?_) (T.closed 0 (by simp)) c7,λb hb=>?_,c9,by simp[ZF],λq hq=>?_⟩
  ·rw[c4 q (T.less q hq) (by omega),(T.out q (SW q hq hk)).2 hq]
  ·have:=T.vals 0 (by rw[wE];simp);simp only[ZU,List.getElem_cons_zero]at this;exact c6 _ _ this
  ·rw[c4 _ (T.less _ (hN _ (by omega))) (by omega),T.new q (by omega) hq]
  ·obtain⟨d1,d2⟩:=c8 b hb;exact⟨d1,λhn=>d2 (T.less b hn)⟩
  ·rw[oG q hq,(T.out q (λh3=>by omega)).1]
end
end Go.D
namespace Go.D
variable [iA]
def zxx(P:Program)(f:Nat)(args:Array Value)(w:World)(post:Value→World→Prop):Prop:=((callFunc f args).run P w= .ok (.enter f args) w∧Calls P f args w λe w'=>∃v,e= .returned v∧post v w')∨ ∃v w',(callFunc f args).run P w= .ok (.value v) w'∧post v w'
def jF(ks:List kB)(as:List V)(bs:List Nat)(ow:List Nat)(base:Nat)(shape:List (Bool×Nat))(rs:List V):Nat→Option rA:=xB ks as bs ((OA ow base 0 rs).drop (DL shape)) (aB ow base (λ_=>none) 0 rs)
def mE(ci:dB)(as:List V)(bs:List Nat)(base:Nat)(rs:List V):Nat→Option rA:=bif ci.pb then zA (λ_=>none) base (some ⟨.box rs, .own⟩)else jF ci.ks as bs ci.own base ci.shape rs
def vB(P:Program)(f:Nat)(ci:dB)(g:Gl:=ZL):Prop:=
 ∀(w:World) (args:Array Value) (as:List V) (outer own:Nat→Prop) (ρ:Nat→Option RI) (a:ci.A) (r:ci.R) (base:Nat) (bs:List Nat),
  args.size=ci.ks.length→(sB ci.ks 0 as).length=ci.ks.length→pB w outer own ρ (BA ci.ks 0 as) w→
  (∀j (hj:j<(sB ci.ks 0 as).length),VR w ρ (qA outer ρ (BA ci.ks 0 as)) (args.getD j undef) (sB ci.ks 0 as)[j])→(∀q,BA ci.ks 0 as q=none→ρ q=none)→
  bs.Nodup→(∀b∈bs,Out base 128 b)→ci.dA as=some a→ci.F a=some r→(ci.eR r).length≤128→znp g own w→
  zxx P f args w λv w'=>∃ρ',pB w outer own ρ' (mE ci as bs base (ci.eR r)) w'∧
   VR w' ρ' (qA outer ρ' (mE ci as bs base (ci.eR r))) v (GJ ci base (ci.eR r))∧
   (∀q b,jB ci.ks 0 bs q=some b→ρ' b=ρ q)∧(∀r,ρ' r≠none→(base≤r∧r<base+128)∨r∈bs)
omit [iA]in
def Calls.mono'{P:Program}{f:Nat}{args:Array Value}{w:World}{R R':Ending→World→Prop}(h:Calls P f args w R)(hr:∀e w',R e w'→R' e w'):Calls P f args w R':=
 λcs=>let ⟨e,w',fr,h1,h2⟩:=h cs;⟨e,w',fr,hr _ _ h1,h2⟩
omit [iA]in
def iL:∀(ks:List kB) (as:List V) (bs:List Nat) (vs:List V) (h:Nat→Option rA) (r:Nat),
  xB ks as bs vs h r=match xB ks as bs vs (λ_=>none) r with|some x=>some x|none=>h r
 | [],as,bs,vs,h,r=>by cases as<;>rfl
 | .plain :: ks,[],bs,vs,h,r=>rfl
 | .plain :: ks,a :: as,bs,vs,h,r=>by simp only[xB];exact iL ks as bs vs h r
 | .mv ow :: ks,[],bs,vs,h,r=>rfl
 | .mv ow :: ks,a :: as,bs,vs,h,r=>by simp only[xB];exact iL ks as bs vs h r
 | .ms :: ks,[],bs,vs,h,r=>rfl
 | .ms :: ks,a :: as,bs,vs,h,r=>by simp only[xB];exact iL ks as bs vs h r
 | .ptr ow :: ks,[],bs,vs,h,r=>rfl
 | .ptr ow :: ks,a :: as,[],vs,h,r=>by cases a<;>rfl
 | .ptr ow :: ks,a :: as,b :: bs,vs,h,r=>by
  cases a<;>try rfl
  simp only[xB]
  by_cases hr:r=b
  ·subst hr;simp[MA]
  ·rw[AA _ _ _ _ hr,AA _ _ _ _ hr];exact iL ks as bs _ h r
omit [iA]in
def xU:∀(ks:List kB) (as:List V) (bs:List Nat) (vs:List V) (r:Nat) (row:rA),xB ks as bs vs (λ_=>none) r=some row→r∈bs
 | [],as,bs,vs,r,row,h=>by cases as<;>simp[xB]at h
 | .plain :: ks,[],bs,vs,r,row,h=>by simp[xB]at h
 | .plain :: ks,a :: as,bs,vs,r,row,h=>by simp only[xB]at h;exact xU ks as bs vs r row h
 | .mv ow :: ks,[],bs,vs,r,row,h=>by simp[xB]at h
 | .mv ow :: ks,a :: as,bs,vs,r,row,h=>by simp only[xB]at h;exact xU ks as bs vs r row h
 | .ms :: ks,[],bs,vs,r,row,h=>by simp[xB]at h
 | .ms :: ks,a :: as,bs,vs,r,row,h=>by simp only[xB]at h;exact xU ks as bs vs r row h
 | .ptr ow :: ks,[],bs,vs,r,row,h=>by simp[xB]at h
 | .ptr ow :: ks,a :: as,[],vs,r,row,h=>by cases a<;>simp[xB]at h
 | .ptr ow :: ks,a :: as,b :: bs,vs,r,row,h=>by
  cases a<;>try (simp[xB]at h;done)
  simp only[xB]at h
  by_cases hr:r=b
  ·subst hr;simp
  ·rw[AA _ _ _ _ hr]at h;exact List.mem_cons_of_mem _ (xU ks as bs _ r row h)
omit [iA]in
def zwl{ks:List kB}{as:List V}{bs ow:List Nat}{base:Nat}{shape:List (Bool×Nat)}{rs:List V}{r:Nat}{row:rA}(hl:rs.length≤128)
  (h:jF ks as bs ow base shape rs r=some row):r∈bs∨(base≤r∧r<base+128):=by
 unfold jF at h;rw[iL]at h;split at h
 ·rename_i x hx;exact .inl (xU _ _ _ _ _ _ hx)
 ·obtain⟨_,_,_,h1,h2⟩:=SD _ _ _ _ _ _ h
  grind
omit [iA]in
def uU:∀(ks:List kB) (as:List V) (bs:List Nat) (vs:List V) (r:Nat) (row:rA),xB ks as bs vs (λ_=>none) r=some row→row.m= .own
 | [],as,bs,vs,r,row,h=>by cases as<;>simp[xB]at h
 | .plain :: ks,[],bs,vs,r,row,h=>by simp[xB]at h
 | .plain :: ks,a :: as,bs,vs,r,row,h=>by simp only[xB]at h;exact uU ks as bs vs r row h
 | .mv ow :: ks,[],bs,vs,r,row,h=>by simp[xB]at h
 | .mv ow :: ks,a :: as,bs,vs,r,row,h=>by simp only[xB]at h;exact uU ks as bs vs r row h
 | .ms :: ks,[],bs,vs,r,row,h=>by simp[xB]at h
 | .ms :: ks,a :: as,bs,vs,r,row,h=>by simp only[xB]at h;exact uU ks as bs vs r row h
 | .ptr ow :: ks,[],bs,vs,r,row,h=>by simp[xB]at h
 | .ptr ow :: ks,a :: as,[],vs,r,row,h=>by cases a<;>simp[xB]at h
 | .ptr ow :: ks,a :: as,b :: bs,vs,r,row,h=>by
  cases a<;>try (simp[xB]at h;done)
  simp only[xB]at h
  by_cases hr:r=b
  ·subst hr;rw[MA]at h;cases h;rfl
  ·rw[AA _ _ _ _ hr]at h;exact uU ks as bs _ r row h
omit [iA]in
def zve{ks:List kB}{as:List V}{bs ow:List Nat}{base:Nat}{shape:List (Bool×Nat)}{rs:List V}{r:Nat}{row:rA}(hl:rs.length≤128)
  (h:jF ks as bs ow base shape rs r=some row):row.m= .own:=by
 unfold jF at h;rw[iL]at h;split at h
 ·rename_i x hx;cases h;exact uU _ _ _ _ _ _ hx
 ·obtain⟨_,_,h0,_,_⟩:=SD _ _ _ _ _ _ h;rw[h0]
omit [iA]in
def zxa(ks:List kB)(as:List V)(bs ow:List Nat)(base:Nat)(shape:List (Bool×Nat))(rs:List V)(h:Nat→Option rA)(r:Nat):
  xB ks as bs ((OA ow base 0 rs).drop (DL shape)) (aB ow base h 0 rs) r=match jF ks as bs ow base shape rs r with|some x=>some x|none=>h r:=by
 unfold jF;rw[iL ks as bs _ (aB ow base h 0 rs),iL ks as bs _ (aB ow base (λ_=>none) 0 rs),BB ow base h];cases xB ks as bs ((OA ow base 0 rs).drop (DL shape)) (λ_=>none) r<;>rfl
omit [iA]in
def zlR{ci:dB}{as:List V}{bs:List Nat}{base:Nat}{rs:List V}{r:Nat}{row:rA}(hl:rs.length≤128)(h:mE ci as bs base rs r=some row):r∈bs∨(base≤r∧r<base+128):=by
 unfold mE at h;cases hp:ci.pb
 ·rw[hp]at h;exact zwl hl h
 ·rw[hp]at h;simp only[cond_true]at h
  by_cases hr:r=base
  ·grind
  ·rw[AA _ _ _ _ hr]at h;cases h
omit [iA]in
def zgl{ci:dB}{as:List V}{bs:List Nat}{base:Nat}{rs:List V}{r:Nat}{row:rA}(hl:rs.length≤128)(h:mE ci as bs base rs r=some row):row.m= .own:=by
 unfold mE at h;cases hp:ci.pb
 ·rw[hp]at h;exact zve hl h
 ·rw[hp]at h;simp only[cond_true]at h
  by_cases hr:r=base
  ·subst hr;rw[MA]at h;cases h;rfl
  ·rw[AA _ _ _ _ hr]at h;cases h
omit [iA]in
def SO(ci:dB)(as:List V)(bs:List Nat)(base:Nat)(rs:List V)(h:Nat→Option rA)(r:Nat):
  rH ci as bs base rs h r=match mE ci as bs base rs r with|some x=>some x|none=>h r:=by
 unfold mE rH;cases hp:ci.pb
 ·exact zxa _ _ _ _ _ _ _ _ _
 ·simp only[cond_true]
  by_cases hr:r=base
  ·subst hr;rw[MA,MA]
  ·rw[AA _ _ _ _ hr,AA _ _ _ _ hr]
def NF(h' h:Nat→Option rA):Prop:=∀r row',h' r=some row'→∃row,h r=some row∧row.c=row'.c∧(row'.m.isRo=false→row.m.isRo=false)
omit [iA]in
def NF.refl(h:Nat→Option rA):NF h h:=λ_ row' h=>⟨row',h,rfl,id⟩
omit [iA]in
def NF.trans{a b c:Nat→Option rA}(h:NF a b)(k:NF b c):NF a c:=λr row' hr=>by
 obtain⟨row,h1,h2,h3⟩:=h r row' hr;obtain⟨row2,k1,k2,k3⟩:=k r row h1
 grind
omit [iA]in
def bV(h:Nat→Option rA)(r:Nat):NF (zA h r none) h:=λq row' hq=>by
 by_cases VV:q=r
 ·subst VV;rw[MA]at hq;cases hq
 ·rw[AA _ _ _ _ VV]at hq;exact⟨row',hq,rfl,id⟩
omit [iA]in
def NJ(ow:List Nat):∀(cs:List V) (p:Nat) (h:Nat→Option rA) (x:List V×(Nat→Option rA)),QD ow p cs h=some x→NF x.2 h
 | [],p,h,x,ht=>by simp[QD]at ht;subst ht;exact NF.refl h
 | c :: cs,p,h,x,ht=>by
  simp only[QD]at ht;cases hb:ow.any (Nat.beq p)
  ·simp only[hb,cond_false]at ht;split at ht
   case h_2=>cases ht
   split at ht
   case h_2=>cases ht
   rename_i hr;cases ht;exact(NJ ow cs _ _ _ hr).trans (GU h _)
  ·simp only[hb,cond_true]at ht;split at ht
   ·split at ht
    case h_2=>cases ht
    split at ht
    case h_2=>cases ht
    rename_i hr;cases ht;exact(NJ ow cs _ _ _ hr).trans (bV h _)
   ·split at ht
    case h_2=>cases ht
    rename_i hr;cases ht;have:=NJ ow cs _ _ _ hr;exact this
   ·split at ht
    case h_2=>cases ht
    split at ht
    case h_2=>cases ht
    rename_i hr;cases ht;exact(NJ ow cs _ _ _ hr).trans (bV h _)
   ·cases ht
omit [iA]in
def WP:∀(ks:List kB) (as:List V) (h:Nat→Option rA) (x:List V×(Nat→Option rA)×List Nat),aC ks as h=some x→NF x.2.1 h
 | [],[],h,x,ht=>by simp[aC]at ht;subst ht;exact NF.refl h
 | [],_ :: _,h,x,ht=>by simp[aC]at ht
 | .plain :: ks,[],h,x,ht=>by simp[aC]at ht
 | .ptr _ :: ks,[],h,x,ht=>by simp[aC]at ht
 | .mv _ :: ks,[],h,x,ht=>by simp[aC]at ht
 | .ms :: ks,[],h,x,ht=>by simp[aC]at ht
 | .ms :: ks,v :: vs,h,x,ht=>by
  simp only[aC]at ht;split at ht
  case h_2=>cases ht
  rename_i hl;split at ht
  ·cases ht
  rename_i hr;cases ht;exact(WP ks vs _ _ hr).trans (NJ _ _ _ _ _ hl)
 | .mv ow :: ks,v :: vs,h,x,ht=>by
  obtain⟨cs,rfl⟩:=zfb ht;simp only[aC]at ht;cases hb:Nat.ble cs.length 127
  case false=>simp[hb]at ht
  simp only[hb,cond_true]at ht;split at ht
  ·cases ht
  rename_i hl;split at ht
  ·cases ht
  rename_i hr;cases ht;exact(WP ks vs _ _ hr).trans (NJ _ _ _ _ _ hl)
 | .plain :: ks,v :: vs,h,x,ht=>by
  simp only[aC]at ht;split at ht
  ·cases ht
  split at ht
  ·cases ht
  rename_i hr;cases ht;exact(WP ks vs _ _ hr).trans (GU h _)
 | .ptr ow :: ks,v :: vs,h,x,ht=>by
  obtain⟨r,rfl⟩:=zeR ht;simp only[aC]at ht;split at ht
  case h_2=>cases ht
  rename_i cs _;cases hb:Nat.ble cs.length 127
  case false=>simp[hb]at ht
  simp only[hb,cond_true]at ht;split at ht
  ·cases ht
  rename_i hl;split at ht
  ·cases ht
  rename_i hr;cases ht;exact(WP ks vs _ _ hr).trans ((NJ _ _ _ _ _ hl).trans (bV h r))
section
variable {C:Cx} {w0:World} {outer own:Nat→Prop} {ρ:Nat→Option RI} {st st':St} {a:Act} {w:World} {h:Nat→Option rA}
def pB.sub(hh:pB w0 outer own ρ h w){w1:World}{outer' own':Nat→Prop}{e:Nat→Option rA}{ρe:Nat→Option RI}(φ:Nat→Nat)(cZ:Wx w1 w)
  (DZ:∀b,b<w1.heap.size→¬own' b→w.heap[b]?=w1.heap[b]?) (SW:∀b,outer' b→b<w1.heap.size∧¬own' b)
  (AV:∀q row,e q=some row→∃row' ri,h (φ q)=some row'∧ρe q=some ri∧ρ (φ q)=some ri∧aE w ρe (qA outer' ρe e) ri row.c∧(ri.nl=false→¬outer' ri.b∧(row.m.isRo=false→w1.heap.size≤ri.b∨own' ri.b)))
  (hinj:∀q q' row row',e q=some row→e q'=some row'→φ q=φ q'→q=q'):pB w1 outer' own' ρe e w:=by
 refine⟨cZ,DZ,SW,λq row hq=>?_,λq q' row row' qi qi' h1 h2 h3 h4 h5 h6 h7=>?_⟩
 ·obtain⟨row',ri,h1,h2,h3,h4,h5⟩:=AV q row hq;obtain⟨ri',k1,_,k2⟩:=hh.rows _ _ h1
  grind
 ·obtain⟨r1,ri1,g1,g2,g3,_,_⟩:=AV q row h1;obtain⟨r2,ri2,g4,g5,g6,_,_⟩:=AV q' row' h2;rw[h3]at g2;cases g2;rw[h4]at g5;cases g5;exact hinj q q' row row' h1 h2 (hh.inj _ _ _ _ _ _ g1 g4 g3 g6 h5 h6 h7)
variable {bad:Nat→Prop} {g:Nat→Option rA} {N0:Nat}
def PF.row{ks:List kB}{k:Nat}{as:List V}{bs:List Nat}{u:Nat→Value}(he:PF w ρ bad g N0 ks k as bs u):∀{q:Nat} {row:rA},BA ks k as q=some row→
  128 *k≤q∧q<128 *(k+ks.length)∧
  ((∃ b ow k' cs ri,jB ks k bs q=some b∧q=128 *k'+127∧k≤k'∧k'<k+ks.length∧row=⟨.box (OA ow (128 *k') 0 cs), .own⟩∧g b=some ⟨.box (OA ow (N0+128 *k') 0 cs), .own⟩∧ρ b=some ri∧ri.nl=false∧
    cs.length≤127∧(∀j (hj:j<cs.length),XC cs[j])∧b<N0∧∀p t l,cs[p]?=some (.sl t l)→ow.any (Nat.beq p)=true→BA ks k as (128 *k'+p)=some ⟨.arr t l, .own⟩)∨
  (∃t l,row=⟨.arr t l, .own⟩∧g (N0+q)=some row∧q % 128≠127)):=by
 induction he with
 | nil=>intro q row h;simp[BA]at h
 | plain hv hn hr ih=>
  rename_i ks k v as bs u;intro q row h;simp only[BA]at h;obtain⟨h1,h2,h3⟩:=ih h;refine⟨by omega,by simp;omega,?_⟩
  rcases h3 with⟨b,ow,k',cs,ri,e1,e2,e3,e4,e5,e6,e7,e8,e9,e10,e11,e12⟩|h3
  ·exact .inl ⟨b,ow,k',cs,ri,e1,e2,by omega,by simp;omega,e5,e6,e7,e8,e9,e10,e11,λp t l h4 h5=>by simp only[BA];exact e12 p t l h4 h5⟩
  ·exact .inr h3
 | ptr ri hρ UV hu hg hl hq hc hb hr ih=>
  rename_i ow ks k b cs as bs u;intro q row h;simp only[BA]at h
  by_cases VY:q=128 *k+127
  ·subst VY;rw[MA]at h;cases h
   exact⟨by omega,by simp;omega, .inl ⟨b,ow,k,cs,ri,by simp[jB],rfl,Nat.le_refl _,by simp,rfl,hg,hρ,UV,hl,λj hj=>(hc j hj).1,hb,λp t l h4 h5=>by
    have hp:p<cs.length:=by
     grind
    simp only[BA];rw[AA _ _ _ _ (by omega),BB,zbU ow (128 *k) cs 0 p t l (Nat.zero_le _) h4 h5]⟩⟩
  ·rw[AA _ _ _ _ VY,BB]at h;split at h
   ·rename_i x hx;cases h;obtain⟨t,l,e1,e2,e3⟩:=SD _ _ _ _ _ _ hx;refine⟨by omega,by simp;omega, .inr ⟨t,l,e1,?_,by omega⟩⟩;have h1:=hq (q - 128 *k) (by omega);have h2:=ER ow (128 *k) (N0+128 *k) cs 0 (q - 128 *k)
    grind
   ·obtain⟨h1,h2,h3⟩:=ih h;refine⟨by omega,by simp;omega,?_⟩
    rcases h3 with⟨b',ow',k',cs',ri',e1,e2,e3,e4,e5,e6,e7,e8,e9,e10,e11,e12⟩|h3
    ·refine .inl ⟨b',ow',k',cs',ri',?_,e2,by omega,by simp;omega,e5,e6,e7,e8,e9,e10,e11,λp t l h4 h5=>?_⟩
     ·simp only[jB];rw[if_neg VY];exact e1
     ·have hp:p<cs'.length:=by
       grind
      simp only[BA];rw[AA _ _ _ _ (by omega),BB,PC _ _ _ _ _ (by omega)];exact e12 p t l h4 h5
    ·exact .inr h3
 | mv hv hl hq hc hr ih=>
  rename_i ow ks k cs as bs u;intro q row h;simp only[BA]at h;rw[BB]at h;split at h
  ·rename_i x hx;cases h;obtain⟨t,l,e1,e2,e3⟩:=SD _ _ _ _ _ _ hx;refine⟨by omega,by simp;omega, .inr ⟨t,l,e1,?_,by omega⟩⟩;have h1:=hq (q - 128 *k) (by omega);have h2:=ER ow (128 *k) (N0+128 *k) cs 0 (q - 128 *k)
   grind
  ·obtain⟨h1,h2,h3⟩:=ih h;refine⟨by omega,by simp;omega,?_⟩
   rcases h3 with⟨b',ow',k',cs',ri',e1,e2,e3,e4,e5,e6,e7,e8,e9,e10,e11,e12⟩|h3
   ·refine .inl ⟨b',ow',k',cs',ri',e1,e2,by omega,by simp;omega,e5,e6,e7,e8,e9,e10,e11,λp t l h4 h5=>?_⟩
    have hp:p<cs'.length:=by
     grind
    simp only[BA];rw[BB,PC _ _ _ _ _ (by omega)];exact e12 p t l h4 h5
   ·exact .inr h3
 | ms hv hq hc hr ih=>
  rename_i ks k v as bs u;intro q row h;simp only[BA]at h;rw[BB]at h;split at h
  ·rename_i x hx;cases h;obtain⟨t,l,e1,e2,e3⟩:=SD _ _ _ _ _ _ hx;simp only[List.length_singleton]at e3;refine⟨by omega,by simp;omega, .inr ⟨t,l,e1,?_,by omega⟩⟩;have h1:=hq (q - 128 *k) (by omega);have h2:=ER [0] (128 *k) (N0+128 *k) [v] 0 (q - 128 *k);rw[show 128 *k+(q - 128 *k)=q by omega,hx]at h2;rw[show N0+128 *k+(q - 128 *k)=N0+q by omega]at h1 h2;rw[h1, ←h2]
  ·obtain⟨h1,h2,h3⟩:=ih h;refine⟨by omega,by simp;omega,?_⟩
   rcases h3 with⟨b',ow',k',cs',ri',e1,e2,e3,e4,e5,e6,e7,e8,e9,e10,e11,e12⟩|h3
   ·refine .inl ⟨b',ow',k',cs',ri',e1,e2,by omega,by simp;omega,e5,e6,e7,e8,e9,e10,e11,λp t l h4 h5=>?_⟩
    have hp:p<cs'.length:=by
     rcases Nat.lt_or_ge p cs'.length with h|h
     ·exact h
     ·rw[List.getElem?_eq_none h]at h4;cases h4
    simp only[BA];rw[BB,PC _ _ _ _ _ (by simp;omega)];exact e12 p t l h4 h5
   ·exact .inr h3
def PF.vals{ks:List kB}{k:Nat}{as:List V}{bs:List Nat}{u:Nat→Value}(he:PF w ρ bad g N0 ks k as bs u){ρc:Nat→Option RI}{badc:Nat→Prop}
  (hb:∀b,badc b→bad b) (hρ:∀q b,jB ks k bs q=some b→ρc q=ρ b) (hρ2:∀q row,BA ks k as q=some row→q % 128≠127→ρc q=ρ (N0+q)):
  (sB ks k as).length=ks.length∧∀j (hj:j<(sB ks k as).length),VR w ρc badc (u j) (sB ks k as)[j]:=by
 induction he with
 | nil=>exact⟨rfl,λj hj=>by simp[sB]at hj⟩
 | plain hv hn hr ih=>
  rename_i ks k v as bs u;obtain⟨h1,h2⟩:=ih (λq b h=>hρ q b h) λq row h=>hρ2 q row h;refine⟨by simp[sB,h1],λj hj=>?_⟩;cases j with
  | zero=>exact(hv.noRef hn ρc).mono (λ_ _ h=>h) (λ_ _ _=>rfl) λb h=> .inl (hb b h)
  | succ j=>exact h2 j (by simpa[sB]using hj)
 | ptr ri hρb UV hu hg hl hq hc hb0 hr ih=>
  rename_i ow ks k b cs as bs u
  obtain⟨h1,h2⟩:=ih (λq b' h=>hρ q b' (by
   obtain⟨h3,_⟩:=KE _ _ _ _ _ h;simp only[jB];rw[if_neg (by omega)];exact h)) λq row h h3=>hρ2 q row (by
   have:=(hr.row h).1;simp only[BA];rw[AA _ _ _ _ (by omega),BB,PC _ _ _ _ _ (by omega)];exact h) h3
  refine⟨by simp[sB,h1],λj hj=>?_⟩;cases j with
  | zero=>
   show VR w ρc badc (u 0) (.bp (128 *k+127) 0)
   rw[hu];exact .bp _ _ ri (by rw[hρ (128 *k+127) b (by simp[jB])];exact hρb) UV
  | succ j=>exact h2 j (by simpa[sB]using hj)
 | mv hv hl hq hc hr ih=>
  rename_i ow ks k cs as bs u
  obtain⟨h1,h2⟩:=ih (λq b h=>hρ q b h) λq row h h3=>hρ2 q row (by
   have:=(hr.row h).1;simp only[BA];rw[BB,PC _ _ _ _ _ (by omega)];exact h) h3
  refine⟨by simp[sB,h1],λj hj=>?_⟩;cases j with
  | zero=>
   show VR w ρc badc (u 0) (.agg (OA ow (128 *k) 0 cs))
   generalize u 0=u0 at hv;cases hv with
   | agg _ vs hs rX=>
   refine .agg _ vs (by rw[wE];rw[wE]at hs;exact hs) ?_;refine KR ow (N0+128 *k) (128 *k) cs 0 (λj=>vs.getD j undef) (λq' h3 h4 h5 h6=>?_) (λj hj=>(hc j hj).1) hb (λj hj=>rX j hj);obtain⟨t,l,h6⟩:=h6
   have h0:BA (.mv ow :: ks) k (.agg cs :: as) (128 *k+q')=some ⟨.arr t l, .own⟩:=by
    simp only[BA];rw[BB,zbU ow (128 *k) cs 0 q' t l (Nat.zero_le _) h6 h5]
   have:=hρ2 _ _ h0 (by omega);rw[this];congr 1;omega
  | succ j=>exact h2 j (by simpa[sB]using hj)
 | ms hv hq hc hr ih=>
  rename_i ks k v as bs u
  obtain⟨h1,h2⟩:=ih (λq b h=>hρ q b h) λq row h h3=>hρ2 q row (by
   have:=(hr.row h).1;simp only[BA];rw[BB,PC _ _ _ _ _ (by simp;omega)];exact h) h3
  refine⟨by simp[sB,h1],λj hj=>?_⟩;cases j with
  | zero=>
   show VR w ρc badc (u 0) (zdS (128 *k) v)
   have:=KR (w:=w) [0] (N0+128 *k) (128 *k) [v] 0 (ρ:=ρ) (ρ2:=ρc) (bad:=bad) (bad2:=badc) (λ_=>u 0) (λq' h3 h4 h5 h6=>by
    obtain⟨t,l,h6⟩:=h6
    have h0:BA (.ms :: ks) k (v :: as) (128 *k+q')=some ⟨.arr t l, .own⟩:=by
     simp only[BA];rw[BB,zbU [0] (128 *k) [v] 0 q' t l (Nat.zero_le _) h6 h5]
    have:=hρ2 _ _ h0 (by simp at h4;omega)
    rw[this];congr 1;omega) (λj hj=>by
     obtain rfl:j=0:=by simpa using hj
     exact hc.1) hb (λj hj=>by
     have A2:j=0:=by simpa[wE]using hj
     subst A2;simpa only[ZU,List.getElem_cons_zero]using hv) 0 (by rw[wE];simp)
   simpa only[ZU,List.getElem_cons_zero]using this
  | succ j=>exact h2 j (by simpa[sB]using hj)
def PF.found{ks:List kB}{k:Nat}{as:List V}{bs:List Nat}{u:Nat→Value}(he:PF w ρ bad g N0 ks k as bs u):∀{q b:Nat},jB ks k bs q=some b→∃row,BA ks k as q=some row:=by
 induction he with
 | nil=>intro q b h;simp[jB]at h
 | plain hv hn hr ih=>intro q b h;simp only[jB]at h;simp only[BA];exact ih h
 | ptr ri hρ UV hu hg hl hq hc hb hr ih=>
  rename_i ow ks k b0 cs as bs u;intro q b h;simp only[jB]at h;simp only[BA]
  by_cases VY:q=128 *k+127
  ·subst VY;exact⟨_,MA _ _ _⟩
  ·rw[if_neg VY]at h;obtain⟨row,h1⟩:=ih h;have:=(KE _ _ _ _ _ h).1;rw[AA _ _ _ _ VY,BB,PC _ _ _ _ _ (by omega)];exact⟨row,h1⟩
 | mv hv hl hq hc hr ih=>
  rename_i ow ks k cs as bs u;intro q b h;simp only[jB]at h;simp only[BA];obtain⟨row,h1⟩:=ih h;have:=(KE _ _ _ _ _ h).1;rw[BB,PC _ _ _ _ _ (by omega)];exact⟨row,h1⟩
 | ms hv hq hc hr ih=>
  rename_i ks k v as bs u;intro q b h;simp only[jB]at h;simp only[BA];obtain⟨row,h1⟩:=ih h;have:=(KE _ _ _ _ _ h).1;rw[BB,PC _ _ _ _ _ (by simp;omega)];exact⟨row,h1⟩
def PF.surj{ks:List kB}{k:Nat}{as:List V}{bs:List Nat}{u:Nat→Value}(he:PF w ρ bad g N0 ks k as bs u):∀b∈bs,∃q,jB ks k bs q=some b:=by
 induction he with
 | nil=>intro b hb;simp at hb
 | plain hv hn hr ih=>intro b hb;obtain⟨q,h⟩:=ih b hb;exact⟨q,h⟩
 | mv hv hl hq hc hr ih=>intro b hb;obtain⟨q,h⟩:=ih b hb;exact⟨q,h⟩
 | ms hv hq hc hr ih=>intro b hb;obtain⟨q,h⟩:=ih b hb;exact⟨q,h⟩
 | ptr ri hρb UV hu hg hl hq hc hb0 hr ih=>
  rename_i ow ks k b cs as bs u;intro b' nX
  rcases List.mem_cons.1 nX with rfl|nX
  ·exact⟨128 *k+127,by simp[jB]⟩
  ·obtain⟨q,h⟩:=ih b' nX;refine⟨q,?_⟩;have:=(KE _ _ _ _ _ h).1;simp only[jB];rw[if_neg (by omega)];exact h
def za9{bad2:Nat→Prop}{ri:RI}{t:TN}{l:List (El t)}(hr:aE w ρ bad ri (.arr t l))(hb:∀b,bad2 b→bad b)(ρ2:Nat→Option RI):aE w ρ2 bad2 ri (.arr t l):=by
 refine⟨hr.1,?_⟩
 rcases hr.2 with h|⟨h1,he,h2,h3,h4,h5⟩
 ·exact .inl h
 ·refine .inr ⟨h1,he,h2,h3,h4,λi hi j hj=>?_⟩;obtain⟨u,h6,h7⟩:=h5 i hi j hj;exact⟨u,h6,(h7.noRef (λS=>WM S t _ j) ρ2).mono (λ_ _ h=>h) (λ_ _ _=>rfl) λb h=> .inl (hb b h)⟩
end
end Go.D
namespace Go.D
variable [iA]
inductive Rk(m:Nat):V→Prop where
 | undef:Rk m .undef
 | bool (b:Bool):Rk m (.bool b)
 | int (k:IntKind) (n:Int):Rk m (.int k n)
 | str (s:List UInt8):Rk m (.str s)
 | nil:Rk m .nil
 | sl (t:TN) (l:List (El t)) (h:t.rank<m):Rk m (.sl t l)
 | ow (r:Nat):Rk m (.ow r)
 | bp (r off:Nat):Rk m (.bp r off)
 | agg (cs:List V) (h:∀c∈cs,Rk m c):Rk m (.agg cs)
 | tup (cs:List V) (h:∀c∈cs,Rk m c):Rk m (.tup cs)
 | nili:Rk m .nili
 | ifc (b:Bool):Rk m (.ifc b)
def zha(m:Nat):V→Bool
 | .sl t _=>Nat.blt t.rank m
 | .bool _| .int _ _| .str _| .nil| .undef| .nili| .ifc _=>true
 | _=>false
omit [iA]in
def Rk.of_low{m:Nat}{v:V}(h:zha m v=true):Rk m v:=by
 cases v<;>simp only[zha]at h<;>try (cases h;done)
 ·exact .undef
 ·exact .bool _
 ·exact .int _ _
 ·exact .str _
 ·exact .nil
 ·exact .sl _ _ (by simpa[Nat.blt_eq]using h)
 ·exact .nili
 ·exact .ifc _
omit [iA]in
def Rk.mono{m m':Nat}(hm:m≤m'){v:V}(h:Rk m v):Rk m' v:=by
 induction h with
 | undef=>exact .undef
 | bool=>exact .bool _
 | int=>exact .int _ _
 | str=>exact .str _
 | nil=>exact .nil
 | sl t l h=>exact .sl _ _ (Nat.lt_of_lt_of_le h hm)
 | ow=>exact .ow _
 | bp=>exact .bp _ _
 | agg cs h ih=>exact .agg _ ih
 | tup cs h ih=>exact .tup _ ih
 | nili=>exact .nili
 | ifc=>exact .ifc _
omit [iA]in
def zvz(t:TN)(x:El t):(enc t x).all (zha t.rank)=true:=by cases t<;>rfl
omit [iA]in
def zkF(t:TN)(x:El t)(j:Nat):Rk t.rank ((enc t x).getD j .undef):=by
 rw[List.getD_eq_getElem?_getD]
 by_cases hj:j<(enc t x).length
 ·rw[List.getElem?_eq_getElem hj];exact .of_low (List.all_eq_true.1 (zvz t x) _ (List.getElem_mem hj))
 ·rw[List.getElem?_eq_none (by omega)];exact .undef
variable {w:World} {ρ:Nat→Option RI} {bad bad':Nat→Prop} {v:Value} {d:V}
def VR.widen(h:VR w ρ bad v d){m:Nat}(hd:Rk m d)(hb:∀b,bad' b→bad b∨(iA.base≤b∧∃t,LF w b t∧m≤t.rank)):VR w ρ bad' v d:=by
 induction h with
 | undef=>exact .undef _
 | bool=>exact .bool _
 | int k n h=>exact .int _ _ h
 | str s h=>exact .str _ h
 | nil=>exact .nil
 | slE t a cap h=>exact .slE _ _ _ h
 | slC t l b off cap u hb0 hl hc he hu hv ih=>
  cases hd with|sl _ _ hr=>
  by_cases V1:l.length=0
  ·obtain rfl:l=[]:=List.eq_nil_of_length_eq_zero V1;exact .slE _ _ _ hc
  ·refine .slC t l b off cap u (λh=>?_) hl hc he hu λi hi j hj=>ih i hi j hj ((zkF t l[i] j).mono (Nat.le_of_lt hr))
   rcases hb b h with h|⟨h1,t',h2,h3⟩
   ·exact hb0 h
   ·rcases he (by rintro rfl;simp at V1)with h4 | h4
    ·omega
    ·have:=h4.uniq h2;subst this;omega
 | ow r ri h hn hc UV=>exact .ow _ _ h hn hc UV
 | owN r ri ao h hn UV=>exact .owN _ _ _ h hn UV
 | ov=>cases hd
 | bp r off ri h UV=>exact .bp _ _ _ h UV
 | ep=>cases hd
 | fp=>cases hd
 | fn=>cases hd
 | agg cs vs hs hv ih=>cases hd with|agg _ hd=>exact .agg _ _ hs λj hj=>ih j hj (hd _ (List.getElem_mem hj))
 | tup cs vs hs hv ih=>cases hd with|tup _ hd=>exact .tup _ _ hs λj hj=>ih j hj (hd _ (List.getElem_mem hj))
 | nili=>exact .nili
 | ifc=>exact .ifc _ _
 | ifn=>exact .ifn
def zdY(m:Nat):vF→Prop
 | .box cs=>∀c∈cs,Rk m c
 | .arr t _=>t.rank≤m
def aE.keepR{w':World}{ρ':Nat→Option RI}{ri:RI}{c:vF}{m:Nat}(hr:aE w ρ bad ri c)(hc:zdY m c)
  (hw:ri.nl=false→w'.heap[ri.b]?=w.heap[ri.b]?)
  (hv:∀u d,Rk m d→VR w ρ bad u d→VR w' ρ' bad' u d):aE w' ρ' bad' ri c:=by
 cases c with
 | box cs=>
  refine⟨hr.1,λj hj=>?_⟩;obtain⟨h1,u,h2,h3⟩:=hr.2 j hj;have hb:=hw hr.1;exact⟨by rw[←h1];simp[World.frozen?,at_,hb],u,by rw[←h2];exact gK hb,hv _ _ (hc _ (List.getElem_mem hj)) h3⟩
 | arr t l=>
  refine⟨hr.1,?_⟩
  rcases hr.2 with h|⟨h0,he,h1,h2,h3,h4⟩
  ·exact .inl h
  ·have hb:=hw h0;refine .inr ⟨h0,he.same hb,h1,h2,λj hj=>?_,λi hi j hj=>?_⟩
   ·have:=h3 j hj;exact⟨by rw[←this.1];simp[World.frozen?,at_,hb],by rw[←this.2];congr 1;exact gK hb⟩
   ·obtain⟨u,h5,h6⟩:=h4 i hi j hj;exact⟨u,by rw[←h5];exact gK hb,hv _ _ ((zkF t _ j).mono hc) h6⟩
omit [iA]in
def zs4{m:Nat}{v:V}(h:SM v=true):Rk m v:=by
 cases v<;>simp[SM]at h
 ·exact .bool _
 ·exact .int _ _
 ·exact .str _
omit [iA]in
def zc5(ow:List Nat)(base:Nat):∀(vs:List V) (p m m':Nat),QE ow p vs=some m→m≤m'→
  (∀v∈OA ow base p vs,Rk m' v)∧∀q t l,aB ow base (λ_=>none) p vs q=some ⟨.arr t l, .own⟩→t.rank≤m'
 | [],p,m,m',h,hm=>⟨λv hv=>by simp[OA]at hv,λq t l hq=>by simp[aB]at hq⟩
 | v :: vs,p,m,m',h,hm=>by
  cases v
  case sl t l=>
   simp only[QE]at h;split at h
   case h_2=>cases h
   rename_i m1 h1;cases h;have hm1:m1≤m':=Nat.le_trans (Nat.le_max_right _ _) hm;have n4:=Nat.le_trans (Nat.le_max_left _ _) hm;obtain⟨i1,i2⟩:=zc5 ow base vs (p+1) m1 m' h1 hm1;cases ho:ow.any (Nat.beq p)
   ·simp only[ho,cond_false]at n4;simp only[OA,aB,ho,cond_false];refine⟨λv hv=>?_,i2⟩
    rcases List.mem_cons.1 hv with rfl|hv
    ·exact .sl _ _ (by omega)
    ·exact i1 v hv
   ·simp only[ho,cond_true]at n4;simp only[OA,aB,ho,cond_true];refine⟨λv hv=>?_,λq t' l' hq=>?_⟩
    ·rcases List.mem_cons.1 hv with rfl | hv
     ·exact .ow _
     ·exact i1 v hv
    ·by_cases E3:q=base+p
     ·subst E3;rw[MA]at hq;cases hq;exact n4
     ·rw[AA _ _ _ _ E3]at hq;exact i2 q t' l' hq
  case nil=>
   simp only[QE]at h;obtain⟨i1,i2⟩:=zc5 ow base vs (p+1) m m' h hm;simp only[OA,aB];refine⟨λv hv=>?_,i2⟩
   rcases List.mem_cons.1 hv with rfl|hv
   ·exact .nil
   ·exact i1 v hv
  all_goals
   simp only[QE]at h
   first
   | (simp only[SM,cond_false]at h;cases h;done)
   | (simp only [SM,cond_true] at h
      obtain⟨i1,i2⟩:=zc5 ow base vs (p+1) m m' h hm;simp only[OA,aB];refine⟨λv hv=>?_,i2⟩
      rcases List.mem_cons.1 hv with rfl|hv
      ·exact zs4 rfl
      ·exact i1 v hv)
omit [iA]in
def zkG{m:Nat}:∀(sh:List (Bool×Nat)) (vs:List V),(∀v∈vs,Rk m v)→∀v∈RE sh vs,Rk m v
 | [],vs,h,v,hv=>by simp[RE]at hv
 | (ag,n) :: sh,vs,h,v,hv=>by
  simp only[RE]at hv
  rcases List.mem_cons.1 hv with rfl|hv
  ·cases ag
   ·cases vs with
    | nil=>exact .undef
    | cons x vs=>exact h x (by simp)
   ·exact .agg _ λc hc=>h c (List.mem_of_mem_take hc)
  ·exact zkG sh (vs.drop n) (λv hv=>h v (List.mem_of_mem_drop hv)) v hv
omit [iA]in
def zvT{m:Nat}(sh:List (Bool×Nat))(vs:List V)(h:∀v∈vs,Rk m v):Rk m (MI sh vs):=by
 have:=zkG sh vs h;unfold MI;split
 ·grind
 ·exact .tup _ this
omit [iA]in
def mV{m:Nat}:∀(ks:List kB) (as:List V) (bs:List Nat) (vs:List V) (r:Nat) (row:rA),(∀v∈vs,Rk m v)→xB ks as bs vs (λ_=>none) r=some row→zdY m row.c
 | [],as,bs,vs,r,row,hv,h=>by cases as<;>simp[xB]at h
 | .plain :: ks,[],bs,vs,r,row,hv,h=>by simp[xB]at h
 | .plain :: ks,a :: as,bs,vs,r,row,hv,h=>by simp only[xB]at h;exact mV ks as bs vs r row hv h
 | .mv ow :: ks,[],bs,vs,r,row,hv,h=>by simp[xB]at h
 | .mv ow :: ks,a :: as,bs,vs,r,row,hv,h=>by simp only[xB]at h;exact mV ks as bs vs r row hv h
 | .ms :: ks,[],bs,vs,r,row,hv,h=>by simp[xB]at h
 | .ms :: ks,a :: as,bs,vs,r,row,hv,h=>by simp only[xB]at h;exact mV ks as bs vs r row hv h
 | .ptr ow :: ks,[],bs,vs,r,row,hv,h=>by simp[xB]at h
 | .ptr ow :: ks,a :: as,[],vs,r,row,hv,h=>by cases a<;>simp[xB]at h
 | .ptr ow :: ks,a :: as,b :: bs,vs,r,row,hv,h=>by
  cases a<;>try (simp[xB]at h;done)
  simp only[xB]at h
  by_cases hr:r=b
  ·subst hr;rw[MA]at h;cases h;exact λc hc=>hv c (List.mem_of_mem_take hc)
  ·rw[AA _ _ _ _ hr]at h;exact mV ks as bs _ r row (λv M1=>hv v (List.mem_of_mem_drop M1)) h
omit [iA]in
def zwv{ci:dB}{as:List V}{bs:List Nat}{base:Nat}{rs:List V}{m:Nat}(hm:QE ci.own 0 rs=some m)(hp:ci.pb=false):
  (∀r row,mE ci as bs base rs r=some row→zdY m row.c)∧Rk m (GJ ci base rs):=by
 obtain⟨h1,h2⟩:=zc5 ci.own base rs 0 m m hm (Nat.le_refl _);refine⟨λr row h=>?_,?_⟩
 ·unfold mE jF at h;rw[hp,cond_false,iL]at h;split at h
  ·rename_i x hx;cases h;exact mV _ _ _ _ _ _ (λv hv=>h1 v (List.mem_of_mem_drop hv)) hx
  ·obtain⟨t,l,h0,_,_⟩:=SD _ _ _ _ _ _ h;subst h0;exact h2 r t l h
 ·unfold GJ;rw[hp,cond_false];exact zvT _ _ h1
end Go.D
namespace Go.D
variable [iA]
structure jG(C:Cx):Prop where
 ok:∀k ci,C.Φ k=some ci→vB C.P (k % 1048576) ci C.g
section
variable {C:Cx} {w0:World} {outer own:Nat→Prop} {ρ:Nat→Option RI} {st st':St} {a:Act} {w:World} {h:Nat→Option rA}
def bB.grow(hr:bB C w0 outer own ρ st a w){w1:World}(hx:Wx w w1)(ho:∀b,b<w.heap.size→w1.heap[b]?=w.heap[b]?):bB C w0 outer own ρ st a w1:=by
 have hv:∀u d,VR w ρ (qA outer ρ st.h) u d→VR w1 ρ (qA outer ρ st.h) u d:=λu d hu=>hu.mono (λ_ _ h=>h) (λb _ hb=>ho b hb) λb hb=> .inl hb;refine⟨⟨hr.heap.wx.trans hx,λb hb hn=>(ho b (Nat.lt_of_lt_of_le hb hr.heap.wx.size)).trans (hr.heap.old b hb hn),hr.heap.outLt,λr row h=>?_,hr.heap.inj⟩,λi=>hv _ _ (hr.slots i),hr.size,hr.defers,hr.glob⟩;obtain⟨ri,h1,h2,h3⟩:=hr.heap.rows r row h;exact⟨ri,h1,h2.keep (λhn=>ho _ (h3 hn).2) hv,λhn=>⟨(h3 hn).1,Nat.lt_of_lt_of_le (h3 hn).2 hx.size⟩⟩
inductive Sc:V→Prop where
 | undef:Sc .undef
 | bool (b:Bool):Sc (.bool b)
 | int (k:IntKind) (n:Int):Sc (.int k n)
 | str (s:List UInt8):Sc (.str s)
 | nil:Sc .nil
 | ow (r:Nat):Sc (.ow r)
 | agg (cs:List V) (h:∀c∈cs,Sc c):Sc (.agg cs)
 | tup (cs:List V) (h:∀c∈cs,Sc c):Sc (.tup cs)
def VR.sc{ρ':Nat→Option RI}{bad bad':Nat→Prop}{w':World}{v:Value}{d:V}(h:VR w ρ bad v d)(hs:Sc d)(hρ:∀r ri,ρ r=some ri→ρ' r=some ri):VR w' ρ' bad' v d:=by
 induction h with
 | undef=>exact .undef _
 | bool=>exact .bool _
 | int k n h=>exact .int _ _ h
 | str s h=>exact .str _ h
 | nil=>exact .nil
 | ow r ri h h1 h2 h3=>exact .ow _ _ (hρ _ _ h) h1 h2 h3
 | owN r ri ao h h1 h2=>exact .owN _ _ _ (hρ _ _ h) h1 h2
 | agg cs vs KV hv ih=>
  cases hs with
  | agg _ hs=>exact .agg _ _ KV λj hj=>ih j hj (hs _ (List.getElem_mem hj))
 | tup cs vs KV hv ih=>
  cases hs with
  | tup _ hs=>exact .tup _ _ KV λj hj=>ih j hj (hs _ (List.getElem_mem hj))
 | _=>cases hs
omit [iA]in
def zdN{v:V}(h:SM v=true):Sc v:=by
 cases v<;>simp[SM]at h
 ·exact .bool _
 ·exact .int _ _
 ·exact .str _
omit [iA]in
def zwK{t:TN}(h:t.flat=true)(x:El t)(j:Nat):Sc ((enc t x).getD j .undef):=by
 have hall:∀c∈enc t x,Sc c:=by
  cases t<;>simp[TN.flat]at h<;>intro c hc<;>simp[enc]at hc<;>(try subst hc)<;>(try exact zdN rfl)<;>(repeat' (rcases hc with rfl|hc))<;>(try subst hc)<;>first|exact zdN rfl|skip
  all_goals (simp[zcV,zcj,zcL,zcS]at hc;repeat' (rcases hc with rfl|hc))<;>(try subst hc)<;>exact zdN rfl
 rw[List.getD_eq_getElem?_getD]
 by_cases hj:j<(enc t x).length
 ·rw[List.getElem?_eq_getElem hj];exact hall _ (List.getElem_mem hj)
 ·rw[List.getElem?_eq_none (by omega)];exact .undef
omit [iA]in
def zky:∀(sh:List (Bool×Nat)) (vs:List V),(∀v∈vs,Sc v)→∀v∈RE sh vs,Sc v
 | [],vs,h,v,hv=>by simp[RE]at hv
 | (ag,n) :: sh,vs,h,v,hv=>by
  simp only[RE]at hv
  rcases List.mem_cons.1 hv with rfl|hv
  ·cases ag
   ·cases vs with
    | nil=>exact .undef
    | cons x vs=>exact h x (by simp)
   ·exact .agg _ λc hc=>h c (List.mem_of_mem_take hc)
  ·exact zky sh (vs.drop n) (λv hv=>h v (List.mem_of_mem_drop hv)) v hv
omit [iA]in
def zvW(sh:List (Bool×Nat))(vs:List V)(h:∀v∈vs,Sc v):Sc (MI sh vs):=by
 have:=zky sh vs h;unfold MI;split
 ·rename_i v hv;exact this v (by rw[hv];simp)
 ·exact .tup _ this
omit [iA]in
def zge(ow:List Nat)(base:Nat):∀(vs:List V) (p:Nat),zao ow p vs=true→(∀v∈OA ow base p vs,Sc v)∧∀q t l,aB ow base (λ_=>none) p vs q=some ⟨.arr t l, .own⟩→t.flat=true
 | [],p,h=>⟨λv hv=>by simp[OA]at hv,λq t l hq=>by simp[aB]at hq⟩
 | v :: vs,p,h=>by
  cases v<;>simp only[zao,Bool.and_eq_true]at h
  case sl t l=>
   obtain⟨⟨h1,h2⟩,h3⟩:=h;obtain⟨i1,i2⟩:=zge ow base vs (p+1) h3;simp only[OA,aB,h1,cond_true];refine⟨λv hv=>?_,λq t' l' hq=>?_⟩
   ·rcases List.mem_cons.1 hv with rfl | hv
    ·exact .ow _
    ·exact i1 v hv
   ·by_cases E3:q=base+p
    ·subst E3;rw[MA]at hq;cases hq;exact h2
    ·rw[AA _ _ _ _ E3]at hq;exact i2 q t' l' hq
  all_goals
   obtain⟨h1,h3⟩:=h;obtain⟨i1,i2⟩:=zge ow base vs (p+1) h3;simp only[OA,aB];refine⟨λv hv=>?_,i2⟩
   rcases List.mem_cons.1 hv with rfl|hv
   ·exact zdN h1
   ·exact i1 v hv
omit [iA]in
def zic:∀(ks:List kB) (as:List V) (bs:List Nat) (vs:List V) (h:Nat→Option rA),ks.all kB.isPlain=true→xB ks as bs vs h=h
 | [],as,bs,vs,h,hp=>by cases as<;>rfl
 | .plain :: ks,[],bs,vs,h,hp=>rfl
 | .plain :: ks,a :: as,bs,vs,h,hp=>by
  simp only[List.all_cons,Bool.and_eq_true]at hp;show xB ks as bs vs h=h
  exact zic ks as bs vs h hp.2
 | .ptr _ :: ks,as,bs,vs,h,hp=>by simp[kB.isPlain]at hp
 | .mv _ :: ks,as,bs,vs,h,hp=>by simp[kB.isPlain]at hp
 | .ms :: ks,as,bs,vs,h,hp=>by simp[kB.isPlain]at hp
omit [iA]in
def ziU:∀(ks:List kB) (k:Nat) (as:List V),ks.all kB.isPlain=true→BA ks k as=λ_=>none
 | [],k,as,h=>by cases as<;>rfl
 | .plain :: ks,k,[],h=>rfl
 | .plain :: ks,k,a :: as,h=>by
  simp only[List.all_cons,Bool.and_eq_true]at h;show BA ks (k+1) as=_
  exact ziU ks (k+1) as h.2
 | .ptr _ :: ks,k,as,h=>by simp[kB.isPlain]at h
 | .mv _ :: ks,k,as,h=>by simp[kB.isPlain]at h
 | .ms :: ks,k,as,h=>by simp[kB.isPlain]at h
omit [iA]in
def zj7(h:Nat→Option rA):NF (ZO h) h:=λr row' hr=>by
 unfold ZO at hr;split at hr
 ·rename_i c h1;cases hr;exact⟨_,h1,rfl,λ_=>rfl⟩
 ·exact⟨row',hr,rfl,id⟩
omit [iA]in
def zsv(h:Nat→Option rA):NF h (ZO h):=λr row hr=>by
 unfold ZO;obtain⟨c,m⟩:=row;cases m
 ·exact⟨_,by rw[hr],rfl,λ_=>rfl⟩
 ·exact⟨_,by rw[hr],rfl,λh=>h⟩
 ·exact⟨⟨c, .own⟩,by rw[hr],rfl,λ_=>rfl⟩
def bB.less(hr:bB C w0 outer own ρ st a w){h':Nat→Option rA}(hl:NF h' st.h):bB C w0 outer own ρ {st with h:=h'} a w:=
 ⟨(hr.heap.less hl).1,λi=>(hr.heap.less hl).2 _ _ (hr.slots i),hr.size,hr.defers,hr.glob⟩
variable {o:Oper} {i:Nat} (hr:bB C w0 outer own ρ st a w)
include hr
def zlb(RX:∃N,∀r,N≤r→ρ r=none)(wW:∀q,q<128→ρ (i+q)=none)(f:Nat)(args:Array Value)(as:List V)(KV:args.size=as.length)
  (mW:∀j (hj:j<as.length),VR w ρ (qA outer ρ st.h) (args.getD j undef) as[j]) (QV:(execOp a.eval o).run C.P w=(callFunc f args).run C.P w)
  {ci:dB} (j9:vB C.P f ci C.g) {as':List V} {h':Nat→Option rA} {bs:List Nat} (EZ:aC ci.ks as st.h=some (as',h',bs)) {x:ci.A} (iZ:ci.dA as'=some x) {r:ci.R} (hF:ci.F x=some r)
  (fW:(ci.eR r).length≤128) (hk:UA C o.dst {st with h:=rH ci as' bs i (ci.eR r) (NL ci (ci.eR r) st.h h')} (GJ ci i (ci.eR r)) some=some st'):
  EC C.P o a w (yC C w0 outer own i ρ st'):=by
 obtain⟨N,hN⟩:=RX
 -- the arguments
 have hhN:∀q,N≤q→st.h q=none:=λq hq=>by
  cases hg:st.h q with
  | none=>rfl
  | some row=>obtain⟨ri,h3,_⟩:=hr.heap.rows _ _ hg;rw[hN q hq]at h3;cases h3
 obtain⟨ρ',g',c1,c2,c3,c4,c5,c6,c7,c8,c9,ZF,oG⟩:=dV N ci.ks as st.h h' as' bs 0 ρ st.h (λj=>args.getD j undef) EZ hr.heap mW (λ_ _ h=>h) (λr hr=>hN r (by omega)) hhN;have RV:=WP _ _ _ _ EZ;simp only at RV;let φ:Nat→Nat:=λq=>(jB ci.ks 0 bs q).getD (N+q);let E:=BA ci.ks 0 as';let ρc:Nat→Option RI:=λq=>if(E q).isSome=true then ρ' (φ q)else none
 let ownc:Nat→Prop:=λb=>∃q row ri,E q=some row∧ρc q=some ri∧ri.nl=false∧ri.b=b;let outc:Nat→Prop:=qA outer ρ' h'
 have hbN:∀b∈bs,b<N:=λb hb=>by
  rcases Nat.lt_or_ge b N with h3|h3
  ·exact h3
  ·exact absurd (hhN b h3) (c8 b hb).2
 have hφbox:∀q b,jB ci.ks 0 bs q=some b→φ q=b:=λq b h=>by simp[φ,h]
 have hφarr:∀q,q % 128≠127→φ q=N+q:=λq hq=>by
  have:jB ci.ks 0 bs q=none:=by
   cases hb:jB ci.ks 0 bs q with
   | none=>rfl
   | some b=>exact absurd (KE _ _ _ _ _ hb).2.1 hq
  simp[φ,this]
 -- the rows of the entry
 have hE:∀q row,E q=some row→∃row' ri,g' (φ q)=some row'∧row'.m= .own∧h' (φ q)=none∧ρc q=some ri∧ρ' (φ q)=some ri:=λq row hq=>by
  obtain⟨h1,h2,h3⟩:=c7.row hq;have FV:(E q).isSome=true:=by show(BA ci.ks 0 as' q).isSome=true;have h0:BA ci.ks 0 as' q=some row:=hq;rw[h0];rfl
  rcases h3 with⟨b,ow,k',cs,ri,e1,e2,e3,e4,e5,e6,e7,e8⟩|⟨t,l,e1,e2,e3⟩
  ·refine⟨_,ri,by rw[hφbox q b e1];exact e6,rfl,by rw[hφbox q b e1];exact(c8 b (KE _ _ _ _ _ e1).2.2).1,?_,by rw[hφbox q b e1];exact e7⟩;simp only[ρc,FV,if_true,hφbox q b e1,e7]
  ·obtain⟨ri,f1,_⟩:=c1.rows _ _ e2;subst e1;refine⟨_,ri,by rw[hφarr q e3];exact e2,rfl,by rw[hφarr q e3];exact c3 _ (hhN _ (by omega)),?_,by rw[hφarr q e3];exact f1⟩;simp only[ρc,FV,if_true,hφarr q e3,f1]
 have M4:∀b,ownc b→∃q row ri,g' q=some row∧row.m= .own∧h' q=none∧ρ' q=some ri∧ri.nl=false∧ri.b=b:=by
  rintro b ⟨q,row,ri,h1,h2,h3,h4⟩;obtain⟨row',ri',f1,f2,f3,f4,f5⟩:=hE q row h1;rw[h2]at f4;cases f4;exact⟨_,row',ri,f1,f2,f3,f5,h3,h4⟩
 have HV:∀q row,h' q=some row→∃ri,ρ' q=some ri∧(ri.nl=false→¬ownc ri.b∧ri.b<w.heap.size∧(¬outer ri.b∧(row.m.isRo=false→w0.heap.size≤ri.b∨own ri.b))):=λq row hq=>by
  obtain⟨ri,f1,_,f2⟩:=c1.rows q row (c2 q row hq);refine⟨ri,f1,λhn=>⟨λho=>?_,(f2 hn).2,(f2 hn).1⟩⟩;obtain⟨q',row',ri',e1,e2,e3,e4,e5,e6⟩:=M4 _ ho;have:=c1.inj q q' row row' ri ri' (c2 q row hq) e1 f1 e4 hn e5 e6.symm;subst this;rw[hq]at e3;cases e3
 have BX:∀b,ownc b→b<w.heap.size∧(w0.heap.size≤b∨own b):=λb hb=>by
  obtain⟨q',row',ri',e1,e2,e3,e4,e5,e6⟩:=M4 _ hb;obtain⟨ri2,f1,_,f2⟩:=c1.rows q' row' e1;rw[e4]at f1;cases f1;rw[←e6];exact⟨(f2 e5).2,(f2 e5).1.2 (by rw[e2];rfl)⟩
 have SW:∀b,outc b→b<w.heap.size∧¬ownc b:=by
  rintro b (hb|⟨q,row,ri,f1,f2,f3,f4,f5⟩)
  ·obtain⟨g1,g2⟩:=c1.outLt b hb;refine⟨Nat.lt_of_lt_of_le g1 c1.wx.size,λho=>?_⟩
   rcases(BX b ho).2 with h3|h3
   ·omega
   ·exact g2 h3
  ·obtain⟨ri',k1,k2⟩:=HV q row f1;rw[f3]at k1;cases k1;rw[←f5];exact⟨(k2 f4).2.1,(k2 f4).1⟩
 have C0:∀b,qA outc ρc E b→qA outer ρ' g' b:=by
  rintro b (hb|⟨q,row,ri,f1,f2,f3,f4,f5⟩)
  ·exact hb.mono λq row h1 h2=>⟨row,c2 q row h1,h2⟩
  ·obtain⟨row',ri',k1,k2,k3,k4,k5⟩:=hE q row f1;rw[f3]at k4;cases k4;exact .inr ⟨_,row',ri,k1,by rw[k2];rfl,k5,f4,f5⟩
 have hρcbox:∀q b,jB ci.ks 0 bs q=some b→q<128 *ci.ks.length→ρc q=ρ' b:=λq b h _=>by
  obtain⟨row,h0⟩:=c7.found h;have FV:(E q).isSome=true:=by show(BA ci.ks 0 as' q).isSome=true;rw[h0];rfl
  simp only[ρc,FV,if_true,hφbox q b h]
 have D0:∀q b,jB ci.ks 0 bs q=some b→q<128 *ci.ks.length:=λq b h=>by have:=jV _ _ _ _ _ h;omega
 have N4:pB w outc ownc ρc E w:=by
  refine c1.sub φ (Wx.refl _) (λ_ _ _=>rfl) SW (λq row hq=>?_) (λq q' row row' h1 h2 h3=>?_)
  ·obtain⟨h1,h2,h3⟩:=c7.row hq;obtain⟨row',ri,f1,f2,f3,f4,f5⟩:=hE q row hq;refine⟨row',ri,f1,f4,f5,?_,λhn=>⟨λho=>(SW _ ho).2 ⟨q,row,ri,hq,f4,hn,rfl⟩,λ_=> .inr ⟨q,row,ri,hq,f4,hn,rfl⟩⟩⟩;obtain⟨ri2,k1,k2,_⟩:=c1.rows _ _ f1;rw[f5]at k1;cases k1
   rcases h3 with⟨b,ow,k',cs,ri',e1,e2,e3,e4,e5,e6,e7,e8,e9,e10,e11,e12⟩|⟨t,l,e1,e2,e3⟩
   ·rw[hφbox q b e1,e6]at f1;cases f1;subst e5;refine⟨k2.1,λj hj=>?_⟩;rw[wE]at hj;obtain⟨g1,x,g2,g3⟩:=k2.2 j (by rw[wE];exact hj);refine⟨g1,x,g2,?_⟩
    have:=KR (w:=w) (ρ:=ρ') (ρ2:=ρc) (bad:=qA outer ρ' g') (bad2:=qA outc ρc E) ow (N+128 *k') (128 *k') cs 0 (λj=>(w.cell? (at_ ri.b j)).getD undef) (λq' _ h4 h5 h6=>by
      obtain⟨t,l,h6⟩:=h6;have h0:=e12 q' t l (by simpa using h6) h5;have FV:(E (128 *k'+q')).isSome=true:=by show(BA ci.ks 0 as' (128 *k'+q')).isSome=true;rw[h0];rfl
      simp only[ρc,FV,if_true];rw[hφarr _ (by omega)];congr 1;omega) e10 C0 (λj hj=>by
      obtain⟨_,x,g2,g3⟩:=k2.2 j hj;rw[g2];exact g3) j (by rw[wE];exact hj)
    rw[g2]at this;exact this
   ·subst e1;rw[hφarr q e3,e2]at f1;cases f1;exact za9 k2 C0 ρc
  ·obtain⟨_,_,h4⟩:=c7.row h1;obtain⟨_,_,h5⟩:=c7.row h2
   rcases h4 with⟨b,_,_,_,_,e1,_⟩|⟨_,_,_,_,e3⟩<;>rcases h5 with⟨b',_,_,_,_,e1',_⟩|⟨_,_,_,_,e3'⟩
   ·rw[hφbox q b e1,hφbox q' b' e1']at h3;subst h3;exact AS _ _ _ _ _ _ c9 e1 e1'
   ·rw[hφbox q b e1,hφarr q' e3']at h3;have:=hbN b (KE _ _ _ _ _ e1).2.2;omega
   ·rw[hφbox q' b' e1',hφarr q e3]at h3;have:=hbN b' (KE _ _ _ _ _ e1').2.2;omega
   ·rw[hφarr q e3,hφarr q' e3']at h3;omega
 obtain⟨W1,hv2⟩:=c7.vals C0 (λq b h=>hρcbox q b h (D0 q b h)) λq row h h3=>by
  have FV:(E q).isSome=true:=by show(BA ci.ks 0 as' q).isSome=true;rw[h];rfl
  simp only[ρc,FV,if_true,hφarr q h3]
 have fY:∀q,ρ q≠none→Out i 128 q:=λq hq h3=>hq (by
  have:=wW (q - i) (by omega);rwa [show i+(q - i)=q by omega]at this)
 have hsthρ:∀q row,st.h q=some row→ρ q≠none:=λq row hq=>by
  obtain⟨ri,h3,_⟩:=hr.heap.rows _ _ hq;rw[h3];simp
 have hbsρ:∀b∈bs,ρ b≠none:=λb hb=>by
  cases hq:st.h b with
  | none=>exact absurd hq (c8 b hb).2
  | some row=>exact hsthρ b row hq
 have G:=j9 w args as' outc ownc ρc x r i bs (by rw[KV,ZF]) W1 N4 hv2 (λq hq=>by simp only[ρc];rw[if_neg];show ¬(BA ci.ks 0 as' q).isSome=true;rw[hq];simp) c9 (λb hb=>fY b (hbsρ b hb)) iZ hF fW
  ⟨C.g.stay w0 w (λc hc=>hr.heap.old c (Nat.lt_of_lt_of_le hc (C.g.lt _ hr.glob.p)) (hr.glob.own c hc)) hr.glob.p,λc hc ho=>by
   have:=Nat.lt_of_lt_of_le hc (C.g.lt _ hr.glob.p)
   rcases(BX c ho).2 with h|h
   ·omega
   ·exact hr.glob.own c hc h,Nat.le_trans hr.glob.base hr.heap.wx.size,λc hc ho=>by
   have:=Nat.lt_of_lt_of_le hc hr.glob.base
   rcases(BX c ho).2 with h|h
   ·omega
   ·exact hr.glob.low c hc h⟩
 -- a call that leaves all as it is
 cases jZ:jN ci (ci.eR r)
 case true=>
  simp only[NL,jZ,cond_true]at hk;simp only[jN,Bool.and_eq_true,Bool.not_eq_true']at jZ;obtain⟨⟨B3,BZ⟩,hsc⟩:=jZ;have hE0:E=λ_=>none:=ziU _ _ _ BZ
  have HW:∀b,¬ownc b:=by
   rintro b ⟨q,row,ri,h1,_⟩;rw[hE0]at h1;cases h1
  obtain⟨s1,s2⟩:=zge ci.own i (ci.eR r) 0 hsc
  have jX:Sc (GJ ci i (ci.eR r)):=by
   unfold GJ;rw[B3,cond_false];exact zvW _ _ s1
  have hXt:mE ci as' bs i (ci.eR r)=aB ci.own i (λ_=>none) 0 (ci.eR r):=by
   unfold mE jF;rw[B3,cond_false,zic _ _ _ _ _ BZ]
  have fin0:∀v w1,(∃ρx,pB w outc ownc ρx (mE ci as' bs i (ci.eR r)) w1∧
    VR w1 ρx (qA outc ρx (mE ci as' bs i (ci.eR r))) v (GJ ci i (ci.eR r))∧
    (∀q b,jB ci.ks 0 bs q=some b→ρx b=ρc q)∧(∀r,ρx r≠none→(i≤r∧r<i+128)∨r∈bs))→yC C w0 outer own i ρ st' (a.put o.dst v) w1:=by
   rintro v w1 ⟨ρx,hX,hV,_,O4⟩;have hg:=hr.grow hX.wx λb hb=>hX.old b hb (HW b)
   have L5:∀q,rH ci as' bs i (ci.eR r) st.h q=match mE ci as' bs i (ci.eR r) q with|some x=>some x|none=>st.h q:=λq=>by
    rw[SO]
    all_goals (cases mE ci as' bs i (ci.eR r) q<;>rfl)
   generalize l9:mE ci as' bs i (ci.eR r)=X at hX hV L5 hXt;generalize rH ci as' bs i (ci.eR r) st.h=aX at hk L5;let ρn:Nat→Option RI:=λq=>if i≤q∧q<i+128 then ρx q else ρ q
   have fY:∀q,ρ q≠none→¬(i≤q∧q<i+128):=λq hq h3=>hq (by
    have:=wW (q - i) (by omega);rwa [show i+(q - i)=q by omega]at this)
   have hXin:∀q row,X q=some row→i≤q∧q<i+128:=λq row hq=>by
    rw[hXt]at hq;obtain⟨_,_,_,e1,e2⟩:=SD _ _ _ _ _ _ hq;omega
   have hρo:∀q ri,ρ q=some ri→ρn q=some ri:=λq ri hq=>by
    simp only[ρn,fY q (by rw[hq];simp),if_false];exact hq
   have hρX:∀q row ri,X q=some row→ρx q=some ri→ρn q=some ri:=λq row ri hq h3=>by
    simp only[ρn,hXin q row hq,and_self,if_true];exact h3
   have EW:∀q row,X q=some row→∃ri t l,row=⟨.arr t l, .own⟩∧t.flat=true∧ρx q=some ri∧aE w1 ρx (qA outc ρx X) ri (.arr t l)∧(ri.nl=false→w.heap.size≤ri.b∧ri.b<w1.heap.size):=λq row hq=>by
    obtain⟨ri,k1,k2,k3⟩:=hX.rows q row hq;have YW:=hq;rw[hXt]at YW;obtain⟨t,l,e0,_,_⟩:=SD _ _ _ _ _ _ YW;subst e0;refine⟨ri,t,l,rfl,s2 q t l YW,k1,k2,λhn=>⟨?_,(k3 hn).2⟩⟩
    rcases(k3 hn).1.2 rfl with h|h
    ·exact h
    ·exact absurd h (HW _)
   have nW:∀q row,aX q=some row→X q=some row∨(X q=none∧st.h q=some row):=λq row hq=>by
    rw[L5]at hq;cases hx:X q with
    | some y=>rw[hx]at hq;exact .inl hq
    | none=>rw[hx]at hq;exact .inr ⟨rfl,hq⟩
   have F3:∀q row ri,st.h q=some row→ρ q=some ri→ri.nl=false→ri.b<w.heap.size:=λq row ri hq h3 hn=>by
    obtain⟨ri',k1,_,k3⟩:=hr.heap.rows q row hq;rw[h3]at k1;cases k1;exact(k3 hn).2
   have hstρ:∀q row,st.h q=some row→∃ri,ρ q=some ri:=λq row hq=>by
    obtain⟨ri,k1,_⟩:=hr.heap.rows q row hq;exact⟨ri,k1⟩
   have CX:∀b,qA outer ρn aX b→qA outer ρ st.h b∨w.heap.size≤b:=by
    rintro b (hb|⟨q,row,ri,f1,f2,f3,f4,f5⟩)
    ·exact .inl (.inl hb)
    ·rcases nW q row f1 with h3 | ⟨_,h3⟩
     ·obtain⟨ri',t,l,_,_,k1,_,k2⟩:=EW q row h3;rw[hρX q row ri' h3 k1]at f3;cases f3;exact .inr (by rw[←f5];exact(k2 f4).1)
     ·obtain⟨ri',k1⟩:=hstρ q row h3;rw[hρo q ri' k1]at f3;cases f3;exact .inl (.inr ⟨q,row,_,h3,f2,k1,f4,f5⟩)
   have keepAll:∀u d,VR w ρ (qA outer ρ st.h) u d→VR w1 ρn (qA outer ρn aX) u d:=λu d hu=>
    hu.mono hρo (λb _ FV=>hX.old b FV (HW b)) CX
   have E0:pB w0 outer own ρn aX w1:=by
    refine⟨hg.heap.wx,hg.heap.old,hg.heap.outLt,λq row hq=>?_,λq q' row row' qi qi' h1 h2 h3 h4 h5 h6 h7=>?_⟩
    ·rcases nW q row hq with h3 | ⟨_,h3⟩
     ·obtain⟨ri,t,l,rfl,ht,k1,k2,k3⟩:=EW q row h3;refine⟨ri,hρX q _ ri h3 k1,⟨k2.1,?_⟩,λhn=>⟨⟨λho=>?_,λ_=> .inl (Nat.le_trans hr.heap.wx.size (k3 hn).1)⟩,(k3 hn).2⟩⟩
      ·rcases k2.2 with h4 | ⟨e1,ee,e2,e3,e4,e5⟩
       ·exact .inl h4
       ·refine .inr ⟨e1,ee,e2,e3,e4,λa ha j hj=>?_⟩;obtain⟨u,f1,f2⟩:=e5 a ha j hj;exact⟨u,f1,f2.noRef (λS=>WM S t _ j) ρn |>.sc (zwK ht _ j) λ_ _ h=>h⟩
      ·have:=(hr.heap.outLt _ ho).1;have:=hr.heap.wx.size;have:=(k3 hn).1;omega
     ·obtain⟨ri,k1,k2,k3⟩:=hr.heap.rows q row h3;exact⟨ri,hρo q ri k1,k2.keep (λhn=>hX.old _ (k3 hn).2 (HW _)) keepAll,λhn=>⟨(k3 hn).1,Nat.lt_of_lt_of_le (k3 hn).2 hX.wx.size⟩⟩
    ·rcases nW q row h1 with k1 | ⟨_,k1⟩<;>rcases nW q' row' h2 with k2 | ⟨_,k2⟩
     ·obtain⟨r1,_,_,_,_,e1,_⟩:=EW q row k1;obtain⟨r2,_,_,_,_,e2,_⟩:=EW q' row' k2;rw[hρX q row r1 k1 e1]at h3;cases h3;rw[hρX q' row' r2 k2 e2]at h4;cases h4;exact hX.inj q q' row row' _ _ k1 k2 e1 e2 h5 h6 h7
     ·obtain⟨r1,_,_,_,_,e1,_,e2⟩:=EW q row k1;obtain⟨r2,e3⟩:=hstρ q' row' k2;rw[hρX q row r1 k1 e1]at h3;cases h3;rw[hρo q' r2 e3]at h4;cases h4;have h8:=(e2 h5).1;have h9:=F3 q' row' _ k2 e3 h6;omega
     ·obtain⟨r1,_,_,_,_,e1,_,e2⟩:=EW q' row' k2;obtain⟨r2,e3⟩:=hstρ q row k1;rw[hρX q' row' r1 k2 e1]at h4;cases h4;rw[hρo q r2 e3]at h3;cases h3;have h8:=(e2 h6).1;have h9:=F3 q row _ k1 e3 h5;omega
     ·obtain⟨r1,e1⟩:=hstρ q row k1;obtain⟨r2,e2⟩:=hstρ q' row' k2;rw[hρo q r1 e1]at h3;cases h3;rw[hρo q' r2 e2]at h4;cases h4;exact hr.heap.inj q q' row row' _ _ k1 k2 e1 e2 h5 h6 h7
   have LV:bB C w0 outer own ρn {st with h:=aX} a w1:=hr.turn E0 keepAll;refine⟨ρn,(LV.put (hV.sc jX λq ri hq=>?_) hk).1,λq hq=>?_,hρo⟩
   ·have:i≤q∧q<i+128:=by
     rcases O4 q (by rw[hq];simp)with h|h
     ·exact h
     ·exact absurd h (by
       have:bs=[]:=by
        cases bs with
        | nil=>rfl
        | cons b bs'=>
         obtain⟨q',YW⟩:=c7.surj b (by simp);obtain⟨row,AV⟩:=c7.found YW;have:BA ci.ks 0 as'=λ_=>none:=hE0;rw[this]at AV;cases AV
       rw[this];simp)
    simp only[ρn,this,and_self,if_true];exact hq
   ·simp only[ρn,hq,if_false]
  intro next Q hn;unfold Oper.wp;rw[QV]
  rcases G with⟨G1,G2⟩|⟨v,w1,G1,G2⟩
  ·rw[G1,Oper.upon_enter];refine Calls.mono' G2 ?_;rintro e w1 ⟨v,rfl,h3⟩;exact hn _ _ (fin0 v w1 h3)
  ·rw[G1,Oper.upon_value];exact hn _ _ (fin0 v w1 G2)
 simp only[NL,jZ,cond_false]at hk
 -- rows that stay the caller's own
 have M5:∀hb,(bif ci.pb then h' else match QE ci.own 0 (ci.eR r)with|some m=>UL m st.h h'|none=>h')=hb→
   ∀q row,hb q=some row→h' q=some row∨(∃t l m c,ci.pb=false∧QE ci.own 0 (ci.eR r)=some m∧m≤t.rank∧row=⟨.arr t l, .own⟩∧st.h q=some row∧h' q=some ⟨c, .ro⟩):=by
  rintro hb rfl q row hq;cases hp:ci.pb
  ·rw[hp,cond_false]at hq;cases hm:QE ci.own 0 (ci.eR r)with
   | none=>rw[hm]at hq;exact .inl hq
   | some m=>
    rw[hm]at hq;have hq:UL m st.h h' q=some row:=hq;unfold UL at hq;split at hq
    ·rename_i t l c h3 h4;cases P4:Nat.ble m t.rank
     ·rw[P4,cond_false]at hq;exact .inl (by rw[h4];exact hq)
     ·rw[P4,cond_true]at hq;cases hq;exact .inr ⟨t,l,m,c,rfl,rfl,Nat.le_of_ble_eq_true P4,rfl,h3,h4⟩
    ·exact .inl hq
  ·rw[hp,cond_true]at hq;exact .inl hq
 generalize hbe:(bif ci.pb then h' else match QE ci.own 0 (ci.eR r)with|some m=>UL m st.h h'|none=>h')=hb at hk
 replace M5:=M5 hb hbe
 clear hbe
 -- behind the call
 have fin:∀v w1,(∃ρx,pB w outc ownc ρx (mE ci as' bs i (ci.eR r)) w1∧
   VR w1 ρx (qA outc ρx (mE ci as' bs i (ci.eR r))) v (GJ ci i (ci.eR r))∧
   (∀q b,jB ci.ks 0 bs q=some b→ρx b=ρc q)∧(∀r,ρx r≠none→(i≤r∧r<i+128)∨r∈bs))→yC C w0 outer own i ρ st' (a.put o.dst v) w1:=by
  rintro v w1 ⟨ρx,hX,hV,bX,O4⟩;generalize l9:mE ci as' bs i (ci.eR r)=X at hX hV
  have hrk:∀m,ci.pb=false→QE ci.own 0 (ci.eR r)=some m→(∀q row,X q=some row→zdY m row.c)∧Rk m (GJ ci i (ci.eR r)):=λm hp hm=>by
   have:=zwv (as:=as') (bs:=bs) (base:=i) hm hp;rw[l9]at this;exact this
  have L5:∀q,rH ci as' bs i (ci.eR r) hb q=match X q with|some x=>some x|none=>hb q:=λq=>by
   rw[SO,l9]
   all_goals (cases X q<;>rfl)
  generalize sY:rH ci as' bs i (ci.eR r) hb=aX at hk L5;let ρn:Nat→Option RI:=λq=>if i≤q∧q<i+128 then ρx q else ρ q
  have hρbs:∀b∈bs,ρx b=ρ b:=λb hb=>by
   obtain⟨q,hq⟩:=c7.surj b hb;rw[bX q b hq,hρcbox q b hq (D0 q b hq),oG b (hbN b hb)]
  have hρx:∀q,ρx q≠none→ρn q=ρx q:=λq hq=>by
   by_cases oW:i≤q∧q<i+128
   ·simp only[ρn,oW,and_self,if_true]
   ·simp only[ρn,oW,if_false]
    rcases O4 q hq with h3|h3
    ·exact absurd h3 oW
    ·exact(hρbs q h3).symm
  have hρo:∀q,ρ q≠none→ρn q=ρ q:=λq hq=>by
   have:¬(i≤q∧q<i+128):=fY q hq;simp only[ρn,this,if_false]
  have hρ':∀q ri,ρ q≠none→ρ' q=some ri→ρ q=some ri:=λq ri hq h3=>by
   cases h4:ρ q with
   | none=>exact absurd h4 hq
   | some ri'=>have:=c5 _ _ h4;rw[h3]at this;rw[this]
  have nW:∀q row,aX q=some row→X q=some row∨(X q=none∧hb q=some row):=λq row hq=>by
   rw[L5]at hq;cases hx:X q with
   | some y=>rw[hx]at hq;exact .inl hq
   | none=>rw[hx]at hq;exact .inr ⟨rfl,hq⟩
  have hh'ρ:∀q row,h' q=some row→ρ q≠none:=λq row hq=>by
   obtain⟨row',h3,_⟩:=RV q row hq;exact hsthρ q row' h3
  have hbρ:∀q row,hb q=some row→ρ q≠none:=λq row hq=>by
   rcases M5 q row hq with h3|⟨_,_,_,_,_,_,_,_,_,h3⟩
   ·exact hh'ρ q row h3
   ·exact hh'ρ q _ h3
  have hXρ:∀q row,X q=some row→ρn q=ρx q:=λq row hq=>by
   obtain⟨ri,h3,_⟩:=hX.rows q row hq;exact hρx q (by rw[h3];simp)
  -- the DC of rows that stay the caller's own
  let Rest:Nat→Prop:=λb=>∃q t l m c ri,ci.pb=false∧QE ci.own 0 (ci.eR r)=some m∧m≤t.rank∧st.h q=some ⟨.arr t l, .own⟩∧h' q=some ⟨c, .ro⟩∧ρ q=some ri∧ri.nl=false∧ri.b=b
  have CX:∀b,qA outer ρn aX b→qA outc ρx X b∨Rest b:=by
   rintro b (nX|⟨q,row,ri,f1,f2,f3,f4,f5⟩)
   ·exact .inl (.inl (.inl nX))
   ·rcases nW q row f1 with h3 | ⟨_,h3⟩
    ·rw[hXρ q row h3]at f3;exact .inl (.inr ⟨q,row,ri,h3,f2,f3,f4,f5⟩)
    ·rw[hρo q (hbρ q row h3)]at f3
     rcases M5 q row h3 with h3|⟨t,l,m,c,e1,e2,e3,rfl,e5,e6⟩
     ·exact .inl (.inl (.inr ⟨q,row,ri,h3,f2,c5 _ _ f3,f4,f5⟩))
     ·exact .inr ⟨q,t,l,m,c,ri,e1,e2,e3,e5,e6,f3,f4,f5⟩
  have kZ:∀b,ownc b→qA outer ρ' g' b:=λb hb=>by
   obtain⟨q,row,ri,e1,e2,e3,e4,e5,e6⟩:=M4 b hb;exact .inr ⟨q,row,ri,e1,by rw[e2];rfl,e4,e5,e6⟩
  have lZ:∀b,qA outc ρx X b→qA outer ρ' g' b∨w.heap.size≤b:=by
   rintro b (hb|⟨q,row,ri,f1,f2,f3,f4,f5⟩)
   ·exact .inl (hb.mono λq row h1 h2=>⟨row,c2 q row h1,h2⟩)
   ·obtain⟨ri',k1,_,k2⟩:=hX.rows q row f1;rw[f3]at k1;cases k1
    rcases(k2 f4).1.2 f2 with h3|h3
    ·exact .inr (by omega)
    ·exact .inl (by rw[←f5];exact kZ _ h3)
  -- what the arguments' taking keeps clear of was kept clear of before
  have G3:∀b,zT w b→qA outer ρ' g' b→qA outer ρ st.h b:=by
   rintro b ⟨o,u,hu⟩ nX;refine Classical.byContradiction λhn=>?_
   have h1:VR w ρ (qA outer ρ st.h) (.pointer (some (at_ b (o+0)))) (.fp [.undef] 0):=
    .fp [.undef] 0 b o (fun _ => u) (by simp) hn (fun j hj => by have : j = 0 := by simpa using hj
                                                                 subst this;exact hu) λj hj=>by
     have:j=0:=by simpa using hj
     subst this;exact .undef _
   have h2:=c6 _ _ h1;generalize hp:Value.pointer (some (at_ b (o+0)))=pv at h2;cases h2 with
   | fp _ _ b2 o2 u2 _ z0 hu2 _=>
    have:b=b2:=by injection hp with hp;injection hp with hp;exact congrArg Addr.block hp
    subst this;exact z0 nX
  have I3:∀b,Rest b→qA outer ρ st.h b∧b<w.heap.size∧¬ownc b∧iA.base≤b∧∃t m,LF w b t∧ci.pb=false∧QE ci.own 0 (ci.eR r)=some m∧m≤t.rank:=by
   rintro b ⟨q,t,l,m,c,ri,e1,e2,e3,e4,e5,e6,e7,e8⟩;obtain⟨ri2,k1,k2,k3⟩:=hr.heap.rows q _ e4;rw[e6]at k1;cases k1;obtain⟨ri3,n1,n2⟩:=HV q _ e5;have:=c5 _ _ e6;rw[n1]at this;cases this;subst e8;refine⟨.inr ⟨q,_,ri,e4,rfl,e6,e7,rfl⟩,(k3 e7).2,(n2 e7).1,?_,t,m,?_,e1,e2,e3⟩
   ·rcases(k3 e7).1.2 rfl with h | h
    ·exact Nat.le_trans hr.glob.base h
    ·exact Nat.le_of_not_lt λh'=>hr.glob.low _ h' h
   ·rcases k2.2 with h | ⟨_,he,_⟩
    ·rw[e7]at h;cases h.1
    ·exact he
  have keepAll:∀u d,VR w ρ (qA outer ρ st.h) u d→VR w1 ρn (qA outer ρn aX) u d:=λu d hu=>
   hu.keep2 hu.refs (λq ri hq h3=>by rw[hρo q hq];exact h3)
    (fun b hb hc=>by
     obtain⟨_,_,mZ⟩:=hc;exact hX.old b (pV mZ) λho=>hb (G3 b ⟨_,_,mZ⟩ (kZ b ho)))
    λb hc nX=>by
     obtain⟨_,_,mZ⟩:=id hc;have:=pV mZ
     rcases CX b nX with h|h
     ·rcases lZ b h with h | h
      ·exact G3 b hc h
      ·omega
     ·exact(I3 b h).1
  have keepX:∀u d,(∀m,ci.pb=false→QE ci.own 0 (ci.eR r)=some m→Rk m d)→VR w1 ρx (qA outc ρx X) u d→VR w1 ρn (qA outer ρn aX) u d:=λu d hk hu=>by
   have h0:VR w1 ρx (qA outer ρn aX) u d:=by
    by_cases hm:∃m,ci.pb=false∧QE ci.own 0 (ci.eR r)=some m
    ·obtain⟨m,hp,hm⟩:=hm;refine hu.widen (hk m hp hm) λb nX=>?_
     rcases CX b nX with h|h
     ·exact .inl h
     ·obtain⟨_,h1,h2,h3,t,m',h4,_,h5,h6⟩:=I3 b h;rw[hm]at h5;cases h5;exact .inr ⟨h3,t,h4.same (hX.old b h1 h2),h6⟩
    ·refine hu.mono (λ_ _ h=>h) (λ_ _ _=>rfl) λb nX=>?_
     rcases CX b nX with h|⟨_,_,_,m,_,_,h1,h2,_⟩
     ·exact .inl h
     ·exact absurd ⟨m,h1,h2⟩ hm
   exact h0.keep h0.refs (λq ri hq h3=>by rw[hρx q hq];exact h3) (λ_ _ _=>rfl) λb hb=> .inl hb
  have keepRow:∀q row ri,X q=some row→aE w1 ρx (qA outc ρx X) ri row.c→aE w1 ρn (qA outer ρn aX) ri row.c:=λq row ri hq JV=>by
   by_cases hm:∃m,ci.pb=false∧QE ci.own 0 (ci.eR r)=some m
   ·obtain⟨m,hp,hm⟩:=hm;exact JV.keepR ((hrk m hp hm).1 q row hq) (λ_=>rfl) λu d hd hu=>keepX u d (λm' _ hm'=>by rw[hm]at hm';cases hm';exact hd) hu
   ·exact JV.keep (λ_=>rfl) λu d hu=>keepX u d (λm hp h=>absurd ⟨m,hp,h⟩ hm) hu
  have EW:∀q row,X q=some row→∃ri,ρn q=some ri∧ρx q=some ri∧aE w1 ρx (qA outc ρx X) ri row.c∧(ri.nl=false→(w.heap.size≤ri.b∨ownc ri.b)∧ri.b<w1.heap.size):=λq row hq=>by
   obtain⟨ri,k1,k2,k3⟩:=hX.rows q row hq;exact⟨ri,by rw[hXρ q row hq];exact k1,k1,k2,λhn=>⟨(k3 hn).1.2 (by rw[zgl fW (by rw[←l9]at hq;exact hq)];rfl),(k3 hn).2⟩⟩
  have tY:∀q row,hb q=some row→∃ri,ρn q=some ri∧ρ q=some ri∧ρ' q=some ri∧aE w ρ (qA outer ρ st.h) ri row.c∧(ri.nl=false→¬ownc ri.b∧ri.b<w.heap.size∧(¬outer ri.b∧(row.m.isRo=false→w0.heap.size≤ri.b∨own ri.b))):=λq row hq=>by
   rcases M5 q row hq with hq|⟨t,l,m,c,e1,e2,e3,rfl,e5,e6⟩
   ·obtain⟨row',h3,h4,_⟩:=RV q row hq;obtain⟨ri,k1,k2,_⟩:=hr.heap.rows q row' h3;obtain⟨ri',k3,k4⟩:=HV q row hq;have:=c5 _ _ k1;rw[k3]at this;cases this;exact⟨ri,by rw[hρo q (hh'ρ q row hq)];exact k1,k1,k3,by rw[←h4];exact k2,k4⟩
   ·obtain⟨ri,k1,k2,k5⟩:=hr.heap.rows q _ e5;obtain⟨ri',k3,k4⟩:=HV q _ e6;have:=c5 _ _ k1;rw[k3]at this;cases this;exact⟨ri,by rw[hρo q (hh'ρ q _ e6)];exact k1,k1,k3,k2,λhn=>⟨(k4 hn).1,(k4 hn).2.1,(k5 hn).1⟩⟩
  have hbg:∀q row,hb q=some row→∃row',g' q=some row':=λq row hq=>by
   rcases M5 q row hq with hq|⟨t,l,m,c,e1,e2,e3,rfl,e5,e6⟩
   ·exact⟨_,c2 q row hq⟩
   ·exact⟨_,c2 q _ e6⟩
  have E0:pB w0 outer own ρn aX w1:=by
   refine⟨hr.heap.wx.trans hX.wx,λb hb ho=>?_,hr.heap.outLt,λq row hq=>?_,λq q' row row' qi qi' h1 h2 h3 h4 h5 h6 h7=>?_⟩
   ·rw[←hr.heap.old b hb ho];refine hX.old b (Nat.lt_of_lt_of_le hb hr.heap.wx.size) λhoc=>?_
    rcases(BX b hoc).2 with h3|h3
    ·omega
    ·exact ho h3
   ·rcases nW q row hq with h3 | ⟨_,h3⟩
    ·obtain⟨ri,k1,k2,k3,k4⟩:=EW q row h3;refine⟨ri,k1,keepRow q row ri h3 k3,λhn=>⟨?_,(k4 hn).2⟩⟩
     have hx:w0.heap.size≤ri.b∨own ri.b:=by
      rcases(k4 hn).1 with h4|h4
      ·exact .inl (Nat.le_trans hr.heap.wx.size h4)
      ·exact(BX _ h4).2
     refine⟨λho=>?_,λ_=>hx⟩;obtain⟨g1,g2⟩:=hr.heap.outLt _ ho
     rcases hx with hx|hx
     ·omega
     ·exact g2 hx
    ·obtain⟨ri,k1,k2,k3,k4,k5⟩:=tY q row h3;refine⟨ri,k1,k4.keep (λhn=>hX.old _ (k5 hn).2.1 (k5 hn).1) keepAll,λhn=>⟨(k5 hn).2.2,Nat.lt_of_lt_of_le (k5 hn).2.1 hX.wx.size⟩⟩
   ·rcases nW q row h1 with k1 | ⟨_,k1⟩<;>rcases nW q' row' h2 with k2 | ⟨_,k2⟩
    ·obtain⟨r1,e1,e2,_⟩:=EW q row k1;obtain⟨r2,e3,e4,_⟩:=EW q' row' k2;rw[h3]at e1;cases e1;rw[h4]at e3;cases e3;exact hX.inj q q' row row' qi qi' k1 k2 e2 e4 h5 h6 h7
    ·obtain⟨r1,e1,e2,_,e5⟩:=EW q row k1;obtain⟨r2,e3,e4,e6,_,e7⟩:=tY q' row' k2;rw[h3]at e1;cases e1;rw[h4]at e3;cases e3
     rcases(e5 h5).1 with h8|h8
     ·have:=(e7 h6).2.1;omega
     ·rw[h7]at h8;exact absurd h8 (e7 h6).1
    ·obtain⟨r1,e1,e2,_,e5⟩:=EW q' row' k2;obtain⟨r2,e3,e4,e6,_,e7⟩:=tY q row k1;rw[h4]at e1;cases e1;rw[h3]at e3;cases e3
     rcases(e5 h6).1 with h8|h8
     ·have:=(e7 h5).2.1;omega
     ·rw[←h7]at h8;exact absurd h8 (e7 h5).1
    ·obtain⟨r1,e1,e2,e2',_⟩:=tY q row k1;obtain⟨r2,e3,e4,e4',_⟩:=tY q' row' k2;rw[h3]at e1;cases e1;rw[h4]at e3;cases e3;obtain⟨y1,y2⟩:=hbg q row k1;obtain⟨y3,y4⟩:=hbg q' row' k2;exact c1.inj q q' y1 y3 qi qi' y2 y4 e2' e4' h5 h6 h7
  have LV:bB C w0 outer own ρn {st with h:=aX} a w1:=hr.turn E0 keepAll;refine⟨ρn,(LV.put (keepX _ _ (λm hp hm=>(hrk m hp hm).2) hV) hk).1,λq hq=>?_,λq ri hq=>?_⟩
  ·simp only[ρn,hq,if_false]
  ·rw[hρo q (by rw[hq];simp)];exact hq
 intro next Q hn;unfold Oper.wp;rw[QV]
 rcases G with⟨G1,G2⟩|⟨v,w1,G1,G2⟩
 ·rw[G1,Oper.upon_enter];refine Calls.mono' G2 ?_;rintro e w1 ⟨v,rfl,h3⟩;exact hn _ _ (fin v w1 h3)
 ·rw[G1,Oper.upon_value];exact hn _ _ (fin v w1 G2)
omit hr in
omit [iA]in
def zvR{ci:dB}{as:List V}{bs:List Nat}{i:Nat}{rs:List V}{h h':Nat→Option rA}(hl:NF h h'):NF (rH ci as bs i rs h) (rH ci as bs i rs h'):=λr row hr=>by
 rw[SO]at hr⊢;split at hr
 ·rename_i x hx;cases hr;exact⟨_,rfl,rfl,id⟩
 ·exact hl r row hr
omit hr in
omit [iA]in
def zw2{dst:Option Nat}{st st':St}{v:V}{h:Nat→Option rA}(hk:UA C dst st v some=some st'):UA C dst {st with h:=h} v some=some {st' with h:=h}:=by
 cases dst with
 | none=>simp only[UA,Option.some.injEq]at hk⊢;subst hk;rfl
 | some d=>
  simp only[UA]at hk⊢;cases hb:Nat.blt d C.nt
  ·simp[hb]at hk
  ·simp only[hb,VC,Option.some.injEq]at hk⊢;subst hk;rfl
omit hr in
omit [iA]in
def zsQ{dst:Option Nat}{st st':St}{v:V}(hk:UA C dst st v some=some st'):st'.h=st.h:=by
 cases dst with
 | none=>simp only[UA,Option.some.injEq]at hk;subst hk;rfl
 | some d=>
  simp only[UA]at hk;cases hb:Nat.blt d C.nt
  ·simp[hb]at hk
  ·simp only[hb,VC,Option.some.injEq]at hk;subst hk;rfl
def zt5(hΦ:jG C)(RX:∃N,∀r,N≤r→ρ r=none)(wW:∀q,q<128→ρ (i+q)=none)(f:Nat)(args:Array Value)(as:List V)(KV:args.size=as.length)
  (mW:∀j (hj:j<as.length),VR w ρ (qA outer ρ st.h) (args.getD j undef) as[j]) (QV:(execOp a.eval o).run C.P w=(callFunc f args).run C.P w)
  (hk:EK C i o.dst st f as some=some st'):EC C.P o a w (yC C w0 outer own i ρ st'):=by
 unfold EK at hk;split at hk
 ·cases hk
 rename_i ci Q4
 have j9:vB C.P f ci C.g:=by
  cases FV:Nat.blt f 1048576
  ·simp[FV]at Q4
  ·simp only[FV,cond_true]at Q4;have:=hΦ.ok _ _ Q4;rwa [zsE f as (by simpa using FV)]at this
 split at hk
 ·split at hk
  ·cases hk
  rename_i as' h' bs EZ;obtain⟨x,iZ,hk⟩:=Option.bind_eq_some_iff.1 ((oT _ _).symm.trans hk);obtain⟨r,hF,hk⟩:=Option.bind_eq_some_iff.1 hk;cases fW:(Nat.ble (ci.eR r).length 128&&jN ci (ci.eR r))
  case false=>simp[fW]at hk
  simp only[fW,VC]at hk;simp only[Bool.and_eq_true]at fW;have jW:bB C w0 outer own ρ {st with h:=ZO st.h} a w:=hr.less (zj7 _)
  have D:=zlb (o:=o) jW RX wW f args as KV (λj hj=>(hr.heap.less (zj7 st.h)).2 _ _ (mW j hj)) QV j9 EZ iZ hF (Nat.le_of_ble_eq_true fW.1)
   (st':= { st' with h:=rH ci as' bs i (ci.eR r) (ZO st.h) }) (by
    rw[NL,fW.2,cond_true];exact zw2 (st:={st with h:=rH ci as' bs i (ci.eR r) st.h}) hk)
  refine λnext Q hn=>D next Q λa' w' ⟨ρ',h1,h2,h3⟩=>hn a' w' ⟨ρ',?_,h2,h3⟩;have e:st'.h=rH ci as' bs i (ci.eR r) st.h:=zsQ hk;have:=h1.less (h':=st'.h) (by rw[e];exact zvR (zsv _));exact this
 ·rename_i as' h' bs EZ;obtain⟨x,iZ,hk⟩:=Option.bind_eq_some_iff.1 ((oT _ _).symm.trans hk);obtain⟨r,hF,hk⟩:=Option.bind_eq_some_iff.1 hk;cases fW:Nat.ble (ci.eR r).length 128
  case false=>simp[fW]at hk
  simp only[fW,VC]at hk;exact zlb hr RX wW f args as KV mW QV j9 EZ iZ hF (Nat.le_of_ble_eq_true fW) hk
end
end Go.D
namespace Go.D
variable [iA]
section
variable {C:Cx} {w0:World} {outer own:Nat→Prop} {ρ:Nat→Option RI} {st st':St} {a:Act} {w:World} {h:Nat→Option rA}
variable {o:Oper} {i:Nat} (hr:bB C w0 outer own ρ st a w)
include hr
def zvU(hΦ:jG C)(RX:∃N,∀r,N≤r→ρ r=none)(wW:∀q,q<128→ρ (i+q)=none)(x:Operand)(args:Array Operand)(argTypes:Array TypeId)
  (ho:o.op= .call {callee:= .value x,args,argTypes}) (hk:oB C i o st some=some st'):EC C.P o a w (yC C w0 outer own i ρ st'):=by
 simp only[oB,ho]at hk;split at hk
 case h_2=>cases hk
 rename_i f cs OV;have hx:=hr.opd x;rw[OV]at hx;generalize hv:a.eval x=v at hx;cases hx with
 | fn _ _ caps hs hvc=>
 refine zt5 hr hΦ RX wW f (args.map a.eval++caps) _ (by simp[hs]) (λj hj=>?_) ?_ hk
 ·by_cases QW:j<args.size
  ·rw[List.getElem_append_left (by simpa using QW),Array.getD_eq_getD_getElem?,Array.getElem?_append_left (by simpa using QW)];simp only[Array.getElem?_map,Array.getElem?_eq_getElem QW,Option.map_some,Option.getD_some,List.getElem_map,Array.getElem_toList];exact hr.opd _
  ·have GW:j - args.size<cs.length:=by simp at hj;omega
   rw[List.getElem_append_right (by simp;omega),Array.getD_eq_getD_getElem?,Array.getElem?_append_right (by simp;omega)];have:=hvc (j - args.size) GW;rw[Array.getD_eq_getD_getElem?]at this;simpa using this
 ·simp[execOp,ho,resolve,Deferred.ofValue,hv,invoke]
def ztF(c x y:Operand)(ho:o.op= .pick c x y)(t:Bool)(hc:opd st.s c= .bool t)(hk:UA C o.dst st (cond t (opd st.s x) (opd st.s y)) some=some st'):
  EC C.P o a w (yC C w0 outer own i ρ st'):=by
 have h1:=hr.opd c;rw[hc]at h1;generalize M9:a.eval c=vc at h1;cases h1;refine kC (v:=if t then a.eval x else a.eval y) (w':=w) ?_ (hr.after ?_ hk)
 ·cases t<;>simp[execOp,ho,M9,asBool]
 ·cases t
  ·exact hr.opd y
  ·exact hr.opd x
def zlK(hC:TF C)(hΦ:jG C)(RX:∃N,∀r,N≤r→ρ r=none)(wW:∀q,q<128→ρ (i+q)=none)(hk:oB C i o st some=some st'):
  EC C.P o a w (yC C w0 outer own i ρ st'):=by
 have hi:ρ i=none:=wW 0 (by omega);have none_of:∀{p:Prop},oB C i o st some=none→p:=λh=>by rw[h]at hk;cases hk
 cases ho:o.op with
 | move x=>exact zlk hr x (.inl ho) (by simpa only[oB,ho]using hk)
 | assign x=>exact zlk hr x (.inr ho) (by simpa only[oB,ho]using hk)
 | pick c x y=>
  simp only[oB,ho]at hk;split at hk
  case h_2=>cases hk
  rename_i t hc;split at hk
  ·rename_i p q hx hy;exact zvi hr c x y ho t p q hc hx hy hk
  ·exact ztF hr c x y ho t hc hk
 | alloc e=>
  simp only[oB,ho]at hk;split at hk
  case h_2=>cases hk
  rename_i cs hz;exact zuT hr e ho hi cs hz hk
 | box e x=>
  simp only[oB,ho]at hk;cases hb:lH (cellsOf (opd st.s x))
  case false=>simp[hb]at hk
  simp only[hb,VC]at hk;exact zwy hr e x ho hi hb hk
 | build t parts=>exact ztY hr t parts ho hk
 | buildSlice t len parts=>exact zqe hr hC t len parts ho hi hk
 | load t x=>exact zwc hr t x ho hk
 | store t x y=>exact zuk hr t x y ho hk
 | nilCheck x=>exact zrm hr x ho hk
 | binOp op t x y t'=>exact zuV hr op t t' x y ho hk
 | unOp op t x=>exact zwf hr op t x ho hk
 | convert s d x=>exact zsh hr hC s d x ho hi hk
 | makeFunc fn first captured=>
  cases fn with
  | func f=>exact zqY hr f first captured ho hk
  | _=>exact none_of (by simp only[oB,ho])
 | makeSlice t x y=>exact zqv hr hC t x y ho hi hk
 | slice t x lo hi mx=>exact ztR hr hC t x lo hi mx ho hk
 | fieldAddr t x f=>exact zqI hr t x f ho hk
 | field t x f=>exact zt7 hr t x f ho hk
 | indexAddr t x y=>exact zqR hr hC t x y ho hk
 | index t x y=>exact zug hr t x y ho hk
 | extract x ix=>exact zrZ hr x ix ho hk
 | call c=>
  obtain⟨callee,args,argTypes⟩:=c;cases callee with
  | value x=>exact zvU hr hΦ RX wW x args argTypes ho hk
  | invoke r m=>exact none_of (by simp only[oB,ho])
  | builtin b=>
   cases b with
   | len=>exact zwx hr args argTypes ho hk
   | append=>exact zsD hr hC args argTypes ho hi hk
   | min=>exact zwW hr args argTypes ho hk
   | max=>exact zw5 hr args argTypes ho hk
   | _=>exact none_of (by simp only[oB,ho])
 | _=>exact none_of (by simp only[oB,ho])
end
end Go.D
namespace Go.D
variable [iA]
section
variable {C:Cx} {R:Type} {st:St} {K:St→Option R}
omit [iA]in
def RS(dst:Option Nat)(st:St)(v:V)(K:St→Option R):UA C dst st v K=(UA C dst st v some).bind K:=by
 cases dst with
 | none=>rfl
 | some d=>simp only[UA];cases Nat.blt d C.nt<;>rfl
omit [iA]in
def zuF(dst:Option Nat)(st:St)(r:Nat)(c:vF)(v:V)(K:St→Option R):wF C dst st r c v K=(wF C dst st r c v some).bind K:=RS _ _ _ _
omit [iA]in
def zp3{K1:V→Option St}{K2:V→Option R}(h:∀v,K2 v=(K1 v).bind K)(ag:Bool)(n:Nat)(cs:List V)(off:Nat):vG ag n cs off K2=(vG ag n cs off K1).bind K:=by
 cases ag<;>simp only[vG,VC,ZS]
 ·grind
 ·cases Nat.ble (off+n) cs.length
  ·rfl
  ·exact h _
omit [iA]in
def zuz{K1:V→Option St}{K2:V→Option R}(h:∀v,K2 v=(K1 v).bind K)(op:BinOp)(x y:V):rN op x y K2=(rN op x y K1).bind K:=by
 have hb:∀(b:Bool) (v:V),(bif b then none else K2 v)=(bif b then none else K1 v:Option St).bind K:=λb v=>by cases b;exact h v;rfl
 have nX:∀(b:Bool) (v:V),(bif b then K2 v else none)=(bif b then K1 v else none:Option St).bind K:=λb v=>by cases b;rfl;exact h v
 unfold rN
 grind
omit [iA]in
def zjk{f1:Nat→Option St}{f2:Nat→Option R}(h:∀k,f2 k=(f1 k).bind K)(i:Int):∀(n k:Nat),tJ f2 i k n=(tJ f1 i k n).bind K
 | 0,k=>rfl
 | n+1,k=>by
  simp only[tJ];cases i==(k:Int)
  ·exact zjk h i n (k+1)
  ·exact h k
omit [iA]in
def ztL{K1:V→Option St}{K2:V→Option R}(h:∀v,K2 v=(K1 v).bind K)(d:TypeDesc)(tk:TypeId→TN→Bool)(hp:Nat→Option rA)(x:V)(lo hi:Option V):
  aP d tk hp x lo hi K2=(aP d tk hp x lo hi K1).bind K:=by
 have nX:∀(b:Bool) (v:V),(bif b then K2 v else none)=(bif b then K1 v else none:Option St).bind K:=λb v=>by cases b;rfl;exact h v
 unfold aP;split
 ·rfl
 split
 case h_2=>rfl
 rename_i len _ _ _ a b _ _;cases decide (0≤a)&&decide (a≤b)&&decide (b≤(len:Int))
 ·rfl
 simp only[cond_true];split
 ·exact nX _ _
 ·exact h _
 ·split
  ·exact nX _ _
  ·rfl
 ·exact nX _ _
 ·rfl
omit [iA]in
def zfO{α:Type}(x:Option α){f1:α→Option St}{f2:α→Option R}(h:∀v,f2 v=(f1 v).bind K):Option.bind x f2=(Option.bind x f1).bind K:=by
 cases x with
 | none=>rfl
 | some v=>exact h v
omit [iA]in
def zuY(b:Bool){x1:Option St}{x2:Option R}(h:x2=x1.bind K):(bif b then x2 else none)=(bif b then x1 else none:Option St).bind K:=by
 grind
omit [iA]in
def ztv(b:Bool){x1:Option St}{x2:Option R}(h:x2=x1.bind K):(bif b then none else x2)=(bif b then none else x1:Option St).bind K:=by
 grind
omit [iA]in
def zgU(b:Bool){x1:Option St}{x2:Option R}(h:x2=x1.bind K):gd b x2 none=(gd b x1 none:Option St).bind K:=by
 cases b
 ·rfl
 ·exact h
omit [iA]in
def zvh(b:Bool){x1:Option St}{x2:Option R}(h:x2=x1.bind K):gd b none x2=(gd b none x1:Option St).bind K:=by
 cases b
 ·exact h
 ·rfl
omit [iA]in
def zgC{α:Type}(x:Option α){f1:α→Option St}{f2:α→Option R}(h:∀v,f2 v=(f1 v).bind K):NK x f2=(NK x f1).bind K:=by
 cases x with
 | none=>rfl
 | some v=>exact h v
omit [iA]in
def ztg(i:Nat)(dst:Option Nat)(f:Nat)(as:List V):EK C i dst st f as K=(EK C i dst st f as some).bind K:=by
 unfold EK;split
 ·rfl
 split
 ·split
  ·rfl
  exact zgC _ λ_=>zfO _ λ_=>zgU _ (RS _ _ _ _)
 exact zgC _ λ_=>zfO _ λ_=>zgU _ (RS _ _ _ _)
omit [iA]in
def BS(i:Nat)(o:Oper):oB C i o st K=(oB C i o st some).bind K:=by
 unfold oB
 repeat' first
  | rfl
  | exact RS _ _ _ _
  | exact zuF _ _ _ _ _ _
  | exact ztg _ _ _ _
  | refine zp3 (λ_=>?_) _ _ _ _
  | refine zuz (λ_=>?_) _ _ _
  | refine zjk (λ_=>?_) _ _ _
  | refine ztL (λ_=>?_) _ _ _ _ _ _
  | refine zuY _ ?_
  | refine ztv _ ?_
  | refine zgU _ ?_
  | refine zvh _ ?_
  | refine zgC _ (λ_=>?_)
  | refine zfO _ (λ_=>?_)
  | split
end
end Go.D
namespace Go.D
variable [iA]
def MD(π:Nat→Prop)(h h':Nat→Option rA):Prop:=∀r row,π r→h r=some row→row.m.isOwn=false→h' r=some row
omit [iA]in
def MD.refl(π:Nat→Prop)(h:Nat→Option rA):MD π h h:=λ_ _ _ h _=>h
omit [iA]in
def MD.trans{π:Nat→Prop}{a b c:Nat→Option rA}(h:MD π a b)(k:MD π b c):MD π a c:=λr row hn hr hm=>k r row hn (h r row hn hr hm) hm
omit [iA]in
def rL{π:Nat→Prop}{h h':Nat→Option rA}(k:MD π h h')(r:Nat)(x:Option rA)(hr:¬π r∨∃row,h r=some row∧row.m.isOwn=true):MD π h (zA h' r x):=λq row hn hq hm=>by
 rw[AA]
 ·exact k q row hn hq hm
 grind
omit [iA]in
def ZN{π:Nat→Prop}{h:Nat→Option rA}(ids:List Nat)(hl:∀r∈ids,∀row,h r=some row→row.m.isLock=false):MD π h (sC h ids):=λq row hn hq hm=>by
 rw[DF]
 by_cases hi:q∈ids
 ·have:=hl q hi row hq;obtain⟨c,m⟩:=row;cases m
  ·cases hm
  ·simp[hi,hq]
  ·cases this
 ·simp[hi,hq]
def yJ(h:Nat→Option rA)(ids:List Nat):Prop:=∀r∈ids,∀row,h r=some row→row.m.isLock=false
omit [iA]in
def NU(h:Nat→Option rA):yJ h []:=λr hr=>by simp at hr
omit [iA]in
def zjt{h:Nat→Option rA}{i j:List Nat}(a:yJ h i)(b:yJ h j):yJ h (i++j):=λr hr=>by
 rcases List.mem_append.1 hr with hr|hr
 ·exact a r hr
 ·exact b r hr
omit [iA]in
def ze8{h:Nat→Option rA}{r:Nat}{j:List Nat}(a:∀row,h r=some row→row.m.isLock=false)(b:yJ h j):yJ h (r :: j):=λq hq=>by
 rcases List.mem_cons.1 hq with rfl|hq
 ·exact a
 ·exact b q hq
omit [iA]in
def zeA{h:Nat→Option rA}{v:V}{x:V×List Nat}(hf:QG h v=some x):yJ h x.2:=by
 unfold QG at hf;split at hf
 ·split at hf
  ·rename_i t l m hr;cases hm:m.isLock<;>simp[hm]at hf
   subst hf;exact ze8 (λrow h1=>by rw[hr]at h1;cases h1;exact hm) (NU _)
  ·cases hf
 ·split at hf
  ·rename_i t' l m hr;cases hm:m.isLock
   ·simp only[hm,cond_false]at hf;split at hf
    ·simp at hf;subst hf;exact ze8 (λrow h1=>by rw[hr]at h1;cases h1;exact hm) (NU _)
    ·cases hf
   ·simp[hm]at hf
  ·cases hf
 ·cases hb:CG 8 v<;>simp[hb]at hf
  subst hf;exact NU _
omit [iA]in
def YT{h:Nat→Option rA}:∀{vs:List V} {x:List V×List Nat},eG h vs=some x→yJ h x.2
 | [],x,hf=>by simp[eG]at hf;subst hf;exact NU _
 | v :: vs,x,hf=>by
  simp only[eG]at hf;split at hf
  ·cases hf
  rename_i h1;split at hf
  ·cases hf
  rename_i h2;cases hf;exact zjt (zeA h1) (YT h2)
omit [iA]in
def zbW{h:Nat→Option rA}{v:V}{x:V×List Nat}(hf:sH h v=some x):yJ h x.2:=by
 unfold sH at hf;split at hf
 ·split at hf
  ·rename_i h1;cases hf;exact(YT h1:_)
  ·cases hf
 ·split at hf
  ·rename_i cs m hr;cases hb:(m.isLock||cs.isEmpty)
   case true=>simp[hb]at hf
   simp only[hb,cond_false]at hf;split at hf
   ·rename_i h1;cases hf;refine ze8 (λrow h2=>?_) (YT h1)
    grind
   ·cases hf
  ·cases hf
 ·exact zeA hf
omit [iA]in
def zez{h:Nat→Option rA}:∀{vs:List V} {x:List V×List Nat},GL h vs=some x→yJ h x.2
 | [],x,hf=>by simp[GL]at hf;subst hf;exact NU _
 | v :: vs,x,hf=>by
  simp only[GL]at hf;split at hf
  ·cases hf
  rename_i h1;split at hf
  ·cases hf
  rename_i h2;cases hf;exact zjt (zbW h1) (zez h2)
omit [iA]in
def zjL{π:Nat→Prop}{h:Nat→Option rA}{t:TN}{v:V}{l:List (El t)}{r:Option Nat}(ht:dT h t v=some (l,r)):MD π h (WO h r):=by
 cases r with
 | none=>exact MD.refl _ _
 | some r=>
  refine rL (MD.refl _ _) r none (.inr ?_);unfold dT at ht;split at ht
  ·cases ht
  ·split at ht
   ·rename_i hr;split at ht
    ·cases ht;exact⟨_,hr,rfl⟩
    ·cases ht
   ·cases ht
  ·split at ht
   ·rename_i hr;split at ht
    ·cases ht;exact⟨_,hr,rfl⟩
    ·cases ht
   ·cases ht
  ·cases ht
omit [iA]in
def XI(π:Nat→Prop)(ow:List Nat):∀(cs:List V) (p:Nat) (h:Nat→Option rA) (x:List V×(Nat→Option rA)),QD ow p cs h=some x→MD π h x.2
 | [],p,h,x,ht=>by simp[QD]at ht;subst ht;exact MD.refl π h
 | c :: cs,p,h,x,ht=>by
  simp only[QD]at ht;cases hb:ow.any (Nat.beq p)
  ·simp only[hb,cond_false]at ht;split at ht
   case h_2=>cases ht
   rename_i hf;split at ht
   case h_2=>cases ht
   rename_i hr;cases ht;have k:=XI π ow cs (p+1) _ _ hr;exact(ZN _ (zeA hf)).trans k
  ·simp only[hb,cond_true]at ht;split at ht
   ·split at ht
    case h_2=>cases ht
    rename_i AV;split at ht
    case h_2=>cases ht
    rename_i hr;cases ht;have k:=XI π ow cs (p+1) _ _ hr;exact(rL (MD.refl π h) _ none (.inr ⟨_,AV,rfl⟩)).trans k
   ·split at ht
    case h_2=>cases ht
    rename_i hr;cases ht;have:=XI π ow cs _ _ _ hr;exact this
   ·split at ht
    case h_2=>cases ht
    rename_i AV;split at ht
    case h_2=>cases ht
    rename_i hr;cases ht;have k:=XI π ow cs (p+1) _ _ hr;exact(rL (MD.refl π h) _ none (.inr ⟨_,AV,rfl⟩)).trans k
   ·cases ht
omit [iA]in
def cU(π:Nat→Prop):∀(ks:List kB) (as:List V) (h:Nat→Option rA) (x:List V×(Nat→Option rA)×List Nat),aC ks as h=some x→
  MD π h x.2.1∧∀b∈x.2.2,∃row,h b=some row∧row.m.isOwn=true
 | [],[],h,x,ht=>by simp[aC]at ht;subst ht;exact⟨MD.refl π h,λb hb=>by simp at hb⟩
 | [],_ :: _,h,x,ht=>by simp[aC]at ht
 | .plain :: ks,[],h,x,ht=>by simp[aC]at ht
 | .ptr _ :: ks,[],h,x,ht=>by simp[aC]at ht
 | .mv _ :: ks,[],h,x,ht=>by simp[aC]at ht
 | .ms :: ks,[],h,x,ht=>by simp[aC]at ht
 | .mv ow :: ks,v :: vs,h,x,ht=>by
  obtain⟨cs,rfl⟩:=zfb ht;simp only[aC]at ht;cases hb:Nat.ble cs.length 127
  case false=>simp[hb]at ht
  simp only[hb,cond_true]at ht;split at ht
  ·cases ht
  rename_i hl;split at ht
  ·cases ht
  rename_i hr;cases ht;obtain⟨k1,k2⟩:=cU π ks vs _ _ hr;refine⟨(XI π _ _ _ _ _ hl).trans k1,λb hb=>?_⟩;obtain⟨row,h1,h2⟩:=k2 b hb;obtain⟨row2,h3,h4,h5⟩:=NJ _ _ _ _ _ hl b row h1;refine⟨row2,h3,?_⟩;cases ho:row2.m.isOwn with
  | true=>rfl
  | false=>
   have:=XI (λ_=>True) _ _ _ _ _ hl b row2 trivial h3 ho
   grind
 | .ms :: ks,v :: vs,h,x,ht=>by
  simp only[aC]at ht;split at ht
  case h_2=>cases ht
  rename_i hl;split at ht
  ·cases ht
  rename_i hr;cases ht;obtain⟨k1,k2⟩:=cU π ks vs _ _ hr;refine⟨(XI π _ _ _ _ _ hl).trans k1,λb hb=>?_⟩;obtain⟨row,h1,h2⟩:=k2 b hb;obtain⟨row2,h3,h4,h5⟩:=NJ _ _ _ _ _ hl b row h1;refine⟨row2,h3,?_⟩;cases ho:row2.m.isOwn with
  | true=>rfl
  | false=>
   have:=XI (λ_=>True) _ _ _ _ _ hl b row2 trivial h3 ho
   grind
 | .plain :: ks,v :: vs,h,x,ht=>by
  simp only[aC]at ht;split at ht
  ·cases ht
  rename_i v' ids hf;split at ht
  ·cases ht
  rename_i hr;cases ht;obtain⟨k1,k2⟩:=cU π ks vs _ _ hr;refine⟨(ZN _ (zbW hf)).trans k1,λb hb=>?_⟩;obtain⟨row,h1,h2⟩:=k2 b hb;obtain⟨row',h3,h4,h5⟩:=GU h ids b row h1;rw[DF]at h1
  by_cases hm:b∈ids
  ·simp[hm,h3]at h1;subst h1;cases h2
  grind
 | .ptr ow :: ks,v :: vs,h,x,ht=>by
  obtain⟨r,rfl⟩:=zeR ht;simp only[aC]at ht;split at ht
  case h_2=>cases ht
  rename_i cs AV;cases hb:Nat.ble cs.length 127
  case false=>simp[hb]at ht
  simp only[hb,cond_true]at ht;split at ht
  ·cases ht
  rename_i hl;split at ht
  ·cases ht
  rename_i hr;cases ht;obtain⟨k1,k2⟩:=cU π ks vs _ _ hr;refine⟨(rL (MD.refl π h) _ none (.inr ⟨_,AV,rfl⟩)).trans ((XI π _ _ _ _ _ hl).trans k1),λb hb=>?_⟩
  rcases List.mem_cons.1 hb with rfl|hb
  ·exact⟨_,AV,rfl⟩
  ·obtain⟨row,h1,h2⟩:=k2 b hb;obtain⟨row2,h3,h4,h5⟩:=NJ _ _ _ _ _ hl b row h1;have U2:b≠r:=by rintro rfl;rw[MA]at h3;cases h3
   rw[AA _ _ _ _ U2]at h3;refine⟨row2,h3,?_⟩;cases ho:row2.m.isOwn with
   | true=>rfl
   | false=>
    have:=XI (λ_=>True) _ _ _ _ _ hl b row2 trivial (by rw[AA _ _ _ _ U2];exact h3) ho
    grind
def YC{α:Type}(p:α→Prop)(x:Option α):Prop:=∀y,x=some y→p y
structure lP(π:Nat→Prop)(dst:Option Nat)(st st':St):Prop where
 slots:∀s,dst≠some s→st'.s s=st.s s
 rows:MD π st.h st'.h
 nx:st'.nx=st.nx
section
variable {C:Cx} {st:St} {π:Nat→Prop} {dst:Option Nat}
omit [iA]in
def oF{α:Type}{p:α→Prop}:YC p none:=λ_ h=>by cases h
omit [iA]in
def VM{h':Nat→Option rA}(hk:MD π st.h h')(v:V):YC (lP π dst st) (UA C dst {st with h:=h'} v some):=by
 intro st' h;cases dst with
 | none=>simp[UA]at h;subst h;exact⟨λ_ _=>rfl,hk,rfl⟩
 | some d=>
  simp only[UA]at h;cases hb:Nat.blt d C.nt<;>simp[hb]at h
  subst h;exact⟨λs hs=>AA _ _ _ _ (λe=>hs (by rw[e])),hk,rfl⟩
omit [iA]in
def zcR(v:V):YC (lP π dst st) (UA C dst st v some):=VM (MD.refl π st.h) v
omit [iA]in
def zlH{h':Nat→Option rA}(hk:MD π st.h h'){i:Nat}(hi:∀q,q<128→¬π (i+q))(c:vF)(v:V):YC (lP π dst st) (wF C dst {st with h:=h'} i c v some):=VM (rL hk i _ (.inl (hi 0 (by omega)))) v
omit [iA]in
def zuG{i:Nat}(hi:∀q,q<128→¬π (i+q))(c:vF)(v:V):YC (lP π dst st) (wF C dst st i c v some):=VM (rL (MD.refl π st.h) i _ (.inl (hi 0 (by omega)))) v
omit [iA]in
def NS{α:Type}{p:α→Prop}(b:Bool){x:Option α}(h:b=true→YC p x):YC p (bif b then x else none):=by
 cases b
 ·exact oF
 ·exact h rfl
omit [iA]in
def iS{α:Type}{p:α→Prop}(b:Bool){x:Option α}(h:b=false→YC p x):YC p (bif b then none else x):=by
 cases b
 ·exact h rfl
 ·exact oF
omit [iA]in
def QS{α β:Type}{p:β→Prop}(x:Option α){f:α→Option β}(h:∀v,x=some v→YC p (f v)):YC p (Option.bind x f):=by
 cases x with
 | none=>exact oF
 | some v=>exact h v rfl
omit [iA]in
def BK{α:Type}{p:α→Prop}(b:Bool){x:Option α}(h:b=true→YC p x):YC p (gd b x none):=by
 cases b
 ·exact oF
 ·exact h rfl
omit [iA]in
def zlg{α:Type}{p:α→Prop}(b:Bool){x:Option α}(h:b=false→YC p x):YC p (gd b none x):=by
 cases b
 ·exact h rfl
 ·exact oF
omit [iA]in
def eT{α β:Type}{p:β→Prop}(x:Option α){f:α→Option β}(h:∀v,x=some v→YC p (f v)):YC p (NK x f):=by
 cases x with
 | none=>exact oF
 | some v=>exact h v rfl
omit [iA]in
def zkC{p:St→Prop}{K:V→Option St}(h:∀v,YC p (K v))(ag:Bool)(m:Nat)(cs:List V)(off:Nat):YC p (vG ag m cs off K):=by
 cases ag<;>simp only[vG,VC,ZS]
 ·split
  ·exact h _
  ·exact oF
 ·exact BK _ λ_=>h _
omit [iA]in
def zlz{p:St→Prop}{K:V→Option St}(h:∀v,YC p (K v))(op:BinOp)(x y:V):YC p (rN op x y K):=by
 unfold rN;split
 ·exact NS _ λ_=>iS _ λ_=>h _
 ·exact NS _ λ_=>iS _ λ_=>h _
 ·exact iS _ λ_=>h _
 ·exact iS _ λ_=>h _
 ·exact NS _ λ_=>h _
 ·split
  ·exact h _
  ·exact oF
omit [iA]in
def zfz{p:St→Prop}{f:Nat→Option St}(h:∀k,YC p (f k))(i:Int):∀(m k:Nat),YC p (tJ f i k m)
 | 0,k=>oF
 | m+1,k=>by
  simp only[tJ];cases i==(k:Int)
  ·exact zfz h i m (k+1)
  ·exact h k
omit [iA]in
def zlm{p:St→Prop}{K:V→Option St}(h:∀v,YC p (K v))(d:TypeDesc)(tk:TypeId→TN→Bool)(hp:Nat→Option rA)(x:V)(lo hi:Option V):YC p (aP d tk hp x lo hi K):=by
 unfold aP;split
 ·exact oF
 split
 case h_2=>exact oF
 refine NS _ λ_=>?_;split
 ·exact BK _ λ_=>h _
 ·exact h _
 ·split
  ·exact BK _ λ_=>h _
  ·exact oF
 ·exact BK _ λ_=>h _
 ·exact oF
omit [iA]in
def ziY:∀(ks:List kB) (as:List V) (h:Nat→Option rA) (x:List V×(Nat→Option rA)×List Nat),ks.all kB.isPlain=true→aC ks as h=some x→x.2.2=[]
 | [],[],h,x,_,ht=>by simp[aC]at ht;subst ht;rfl
 | [],_ :: _,h,x,_,ht=>by simp[aC]at ht
 | .plain :: ks,[],h,x,_,ht=>by simp[aC]at ht
 | .plain :: ks,v :: vs,h,x,hp,ht=>by
  simp only[List.all_cons,Bool.and_eq_true]at hp;simp only[aC]at ht;split at ht
  ·cases ht
  split at ht
  ·cases ht
  rename_i hr;cases ht;have:=ziY ks vs _ _ hp.2 hr;exact this
 | .ptr _ :: ks,as,h,x,hp,ht=>by simp[kB.isPlain]at hp
 | .mv _ :: ks,as,h,x,hp,ht=>by simp[kB.isPlain]at hp
 | .ms :: ks,as,h,x,hp,ht=>by simp[kB.isPlain]at hp
omit [iA]in
def zrk{ci:dB}{rs:List V}{h h':Nat→Option rA}{q:Nat}{row:rA}(hq:NL ci rs h h' q=some row):h q=some row∨h' q=some row:=by
 unfold NL at hq;cases hp:jN ci rs
 ·rw[hp,cond_false]at hq;cases hb:ci.pb
  ·rw[hb,cond_false]at hq;cases hm:QE ci.own 0 rs with
   | none=>rw[hm]at hq;exact .inr hq
   | some m=>
    rw[hm]at hq;have hq:UL m h h' q=some row:=hq;unfold UL at hq
    grind
  grind
 grind
omit [iA]in
def zrW{ci:dB}{rs:List V}{h h':Nat→Option rA}{q:Nat}{row:rA}(h1:h q=some row)(h2:h' q=some row)(hm:row.m.isOwn=false):NL ci rs h h' q=some row:=by
 unfold NL;cases jN ci rs
 ·cases ci.pb
  ·simp only[cond_false];cases QE ci.own 0 rs with
   | none=>exact h2
   | some m=>
    show UL m h h' q=some row
    unfold UL
    grind
  ·exact h2
 ·exact h1
omit [iA]in
def zt1{i:Nat}(hi:∀q,q<128→¬π (i+q))(f:Nat)(as:List V):YC (lP π dst st) (EK C i dst st f as some):=by
 unfold EK;split
 ·exact oF
 rename_i ci _;split
 ·split
  ·exact oF
  rename_i as' h' bs EZ;refine eT _ λx _=>QS _ λr _=>BK _ λDV=>VM ?_ _;simp only[Bool.and_eq_true]at DV;intro q row hq AV hm;rw[SO]
  have HW:mE ci as' bs i (ci.eR r) q=none:=by
   cases hx:mE ci as' bs i (ci.eR r) q with
   | none=>rfl
   | some y=>
    rcases zlR (Nat.le_of_ble_eq_true DV.1) hx with h1|h1
    ·have hp:=DV.2;simp only[jN,Bool.and_eq_true]at hp;have hb:bs=[]:=ziY ci.ks as _ _ hp.1.2 EZ
     grind
    ·exact absurd hq (by have:=hi (q - i) (by omega);rwa [show i+(q - i)=q by omega]at this)
  grind
 rename_i as' h' bs EZ;refine eT _ λx _=>QS _ λr _=>BK _ λDV=>VM ?_ _;obtain⟨k1,k2⟩:=cU π _ _ _ _ EZ;intro q row hq AV hm;have DV:=Nat.le_of_ble_eq_true DV;rw[SO]
 have HW:mE ci as' bs i (ci.eR r) q=none:=by
  cases hx:mE ci as' bs i (ci.eR r) q with
  | none=>rfl
  | some y=>
   rcases zlR DV hx with h1|h1
   ·grind
   ·exact absurd hq (by have:=hi (q - i) (by omega);rwa [show i+(q - i)=q by omega]at this)
 rw[HW];exact zrW AV (k1 q row hq AV hm) hm
omit [iA]in
def ziR{i:Nat}(hi:∀q,q<128→¬π (i+q))(o:Oper):YC (lP π o.dst st) (oB C i o st some):=by
 unfold oB
 repeat' first
  | exact oF
  | exact zcR _
  | exact zuG hi _ _
  | exact zt1 hi _ _
  | exact VM (ZN _ (zez ‹_›)) _
  | exact zlH (ZN _ (zez ‹_›)) hi _ _
  | exact zlH (zjL ‹_›) hi _ _
  | exact VM (rL (MD.refl π st.h) _ _ (.inr ⟨_, ‹_›,rfl⟩)) _
  | exact VM (rL (ZN _ (YT ‹_›)) _ _ (.inr ⟨_, ‹_›,rfl⟩)) _
  | refine zkC (λ_=>?_) _ _ _ _
  | refine zlz (λ_=>?_) _ _ _
  | refine zfz (λ_=>?_) _ _ _
  | refine zlm (λ_=>?_) _ _ _ _ _ _
  | refine NS _ (λ_=>?_)
  | refine iS _ (λ_=>?_)
  | refine BK _ (λ_=>?_)
  | refine zlg _ (λ_=>?_)
  | refine eT _ (λ_ _=>?_)
  | refine QS _ (λ_ _=>?_)
  | split
end
abbrev bD(n:Nat)(h h':Nat→Option rA):Prop:=MD (λr=>r<n) h h'
omit [iA]in
def bD.refl(n:Nat)(h:Nat→Option rA):bD n h h:=MD.refl _ h
omit [iA]in
def bD.trans{n:Nat}{a b c:Nat→Option rA}(h:bD n a b)(k:bD n b c):bD n a c:=MD.trans h k
omit [iA]in
def bD.le{n m:Nat}{a b:Nat→Option rA}(h:bD n a b)(hm:m≤n):bD m a b:=λr row hr=>h r row (by have:r<m:=hr;show r<n;omega)
omit [iA]in
def zjI{C:Cx}{st:St}{n:Nat}{i:Nat}(hi:n≤i)(o:Oper):YC (lP (λr=>r<n) o.dst st) (oB C i o st some):=ziR (λq _ h=>by omega) o
end Go.D

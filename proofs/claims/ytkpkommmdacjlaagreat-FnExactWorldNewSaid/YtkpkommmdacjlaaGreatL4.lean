/-
 One operation, continued: conversions, closures, what is made.
-/
import Derived.Test.YtkpkommmdacjlaaGreatL3
import Derived.Laws.IdiomStrings
import Derived.Laws.BytesArg
import Derived.Laws.MakeOwn
set_option linter.all false
namespace Go.D
variable [aA]
omit [aA]in
def cR(t:TN):sz t≤128:=by cases t<;>simp[sz]
section
variable {C:Cx} {w0:World} {outer:Nat→Prop} {own:Ow} {ρ:Nat→Option RI} {st st':St} {a:Act} {w:World} {h:Nat→Option gA}
omit [aA]in
def zU:∀(parts:List (Nat×Operand)) (k:Nat) (vs:List V),YM st.s k parts=some vs→vs.length=parts.length∧
  ∀j (hj:j<parts.length),(parts[j]).1=k+j∧∃(h:j<vs.length),vs[j]=opd st.s (parts[j]).2
 | [],k,vs,h=>by simp[YM]at h;subst h;exact⟨rfl,λj hj=>by simp at hj⟩
 | (j,x) :: r,k,vs,h=>by
  simp only[YM]at h;cases hb:Nat.beq k j
  case false=>simp[hb]at h
  have S9:=Nat.eq_of_beq_eq_true hb;simp only[hb,cond_true]at h;split at h
  ·cases h
  rename_i vs' hv;cases h;obtain⟨h1,h2⟩:=zU r (k+1) vs' hv;refine⟨by simp[h1],λq hq=>?_⟩;cases q with
  | zero=>exact⟨by simp[S9],by simp,rfl⟩
  | succ q=>
   obtain⟨h3,h4,h5⟩:=h2 q (by simpa using hq);refine⟨by simp[h3];omega,by simp;omega,?_⟩;simpa using h5
omit [aA]in
def zbm(off:Nat):∀(l:List (Value×Nat)) (k:Nat) (cs:Array Value),(∀j (hj:j<l.length),(l[j]).2=k+j)→
  (l.foldl (λcs (c,j)=>cs.setIfInBounds (off+j) c) cs).size=cs.size∧
  ∀p,p<cs.size→(l.foldl (λcs (c,j)=>cs.setIfInBounds (off+j) c) cs).getD p undef=if h:off+k≤p∧p<off+k+l.length then(l[p - (off+k)]'(by omega)).1 else cs.getD p undef
 | [],k,cs,_=>⟨rfl,λp hp=>by simp;omega⟩
 | (c,j) :: l,k,cs,hl=>by
  have hj:j=k:=hl 0 (by simp);subst hj;obtain⟨h1,h2⟩:=zbm off l (j+1) (cs.setIfInBounds (off+j) c) (λq hq=>by have:=hl (q+1) (by simp;omega);simp at this;omega);refine⟨by simp only[List.foldl_cons];rw[h1];simp,λp hp=>?_⟩;simp only[List.foldl_cons];rw[h2 p (by simpa using hp)]
  by_cases UV:off+(j+1)≤p∧p<off+(j+1)+l.length
  ·rw[dif_pos UV,dif_pos ⟨by omega,by simp;omega⟩];have:p - (off+j)=p - (off+(j+1))+1:=by omega
   simp[this]
  ·rw[dif_neg UV]
   by_cases he:p=off+j
   ·subst he;rw[dif_pos ⟨Nat.le_refl _,by simp⟩];rw[Array.getD_eq_getD_getElem?,Array.getElem?_setIfInBounds];simp[hp]
   ·rw[dif_neg (by simp;omega)];rw[Array.getD_eq_getD_getElem?,Array.getElem?_setIfInBounds,if_neg (by omega),Array.getD_eq_getD_getElem?]
omit [aA]in
def zae(v:Value)(off:Nat)(cs:Array Value):(v.cells.zipIdx.foldl (λcs (c,j)=>cs.setIfInBounds (off+j) c) cs).size=cs.size∧
  ∀p,p<cs.size→(v.cells.zipIdx.foldl (λcs (c,j)=>cs.setIfInBounds (off+j) c) cs).getD p undef=if off≤p∧p<off+v.cells.size then v.cells.getD (p - off) undef else cs.getD p undef:=by
 rw[←Array.foldl_toList];obtain⟨h1,h2⟩:=zbm off v.cells.zipIdx.toList 0 cs (λj hj=>by simp);refine⟨h1,λp hp=>?_⟩;rw[h2 p hp]
 by_cases UV:off≤p∧p<off+v.cells.size
 ·rw[if_pos UV,dif_pos (by simpa using UV)];rw[Array.getD_eq_getD_getElem?,Array.getElem?_eq_getElem (by omega)];simp
 ·rw[if_neg UV,dif_neg (by simpa using UV)]
omit [aA]in
def zbi(size:Nat):∀(parts:List (Nat×Value)) (k:Nat) (cs:Array Value),(∀j (hj:j<parts.length),(parts[j]).1=k+j∧(parts[j]).2.cells.size=size)→
  (k+parts.length) *size≤cs.size→∃ cs',Instr.fill (fun i=>some (i *size,size)) cs parts=some cs'∧cs'.size=cs.size∧
   (∀j (hj:j<parts.length) q,q<size→cs'.getD ((k+j) *size+q) undef=(parts[j]).2.cells.getD q undef)∧∀p,p<k *size→cs'.getD p undef=cs.getD p undef
 | [],k,cs,_,_=>⟨cs,rfl,rfl,λj hj=>by simp at hj,λ_ _=>rfl⟩
 | (i,v) :: r,k,cs,hp,hs=>by
  obtain⟨h1,h2⟩:=hp 0 (by simp);simp only[List.getElem_cons_zero,Nat.add_zero]at h1 h2;subst h1;simp only[List.length_cons]at hs;have JZ:(i+1+r.length) *size=i *size+size+r.length *size:=by rw[Nat.add_mul,Nat.add_mul,Nat.one_mul]
  have hs3:(i+(r.length+1)) *size=i *size+size+r.length *size:=by rw[Nat.add_mul,Nat.add_mul,Nat.one_mul];omega
  obtain⟨h3,h4⟩:=zae v (i *size) cs;obtain⟨cs',h5,h6,h7,h8⟩:=zbi size r (i+1) _ (λj hj=>by have:=hp (j+1) (by simp;omega);simpa[Nat.add_assoc,Nat.add_comm 1 j]using this) (by rw[h3];omega);have xV:∀j,j<r.length→(i+1+j) *size≥i *size+size:=λj _=>by rw[Nat.add_mul,Nat.add_mul,Nat.one_mul];omega
  refine⟨cs',?_,by rw[h6,h3],λj hj q hq=>?_,λp t6=>?_⟩
  ·simp only[Instr.fill];rw[if_neg]
   ·exact h5
   ·simp[h2];omega
  ·cases j with
   | zero=>
    rw[Nat.add_zero,h8 _ (by rw[Nat.add_mul,Nat.one_mul];omega),h4 _ (by omega),if_pos ⟨by omega,by omega⟩];simp
   | succ j=>
    have:=h7 j (by simpa using hj) q hq;rw[show i+(j+1)=i+1+j by omega,this];simp
  ·rw[h8 p (by rw[Nat.add_mul,Nat.one_mul];omega),h4 p (by omega),if_neg (by omega)]
omit [aA]in
def zar(t:TN):∀(css:List (List V)) (l:List (El t)),EN t css=some l→l.length=css.length∧∀j (hj:j<css.length) (YV:j<l.length),ZA css[j] (enc t l[j])
 | [],l,h=>by simp[EN]at h;subst h;exact⟨rfl,λj hj=>by simp at hj⟩
 | cs :: css,l,h=>by
  simp only[EN]at h;split at h
  ·cases h
  rename_i x hx;split at h
  ·cases h
  rename_i l' hl;cases h;obtain⟨h1,h2⟩:=zar t css l' hl;refine⟨by simp[h1],λj hj YV=>?_⟩;cases j with
  | zero=>exact LC t hx
  | succ j=>simpa using h2 j (by simpa using hj) (by simpa using YV)
variable {o:Oper} {i:Nat} (hr:AA C w0 outer own ρ st a w)
include hr
def zeu(xs:List Operand):∀j (hj:j<(xs.map (opd st.s)).length),VR w ρ (bA outer ρ st.h) ((xs.map a.eval).getD j undef) (xs.map (opd st.s))[j]:=λj hj=>by
 have YV:j<xs.length:=by simpa using hj
 rw[List.getD_eq_getElem?_getD,List.getElem?_map,List.getElem?_eq_getElem YV,List.getElem_map];exact hr.opd xs[j]
def zet(f:Nat)(first captured:Array Operand)(ho:o.op= .makeFunc (.func f) first captured)(hk:OA C i o st some=some st'):yB C.P o a w (tB C w0 outer own i ρ st'):=by
 simp only[OA,ho]at hk;cases he:first.isEmpty
 case false=>simp[he]at hk
 simp only[he,iB]at hk;split at hk
 case h_2=>cases hk
 rename_i cs ids lX;have he:first= #[]:=by simpa using he
 subst he;obtain⟨h1,h2⟩:=hr.heap.mark ids;obtain⟨h3,h4⟩:=KR hr.heap (zeu hr captured.toList) lX;have tW:AA C w0 outer own ρ {st with h:=eB st.h ids} a w:=hr.turn h1 h2;refine bB (v:= .func (.func f) #[] (captured.map a.eval)) (w':=w) (by simp[execOp,ho,Instr.makeFunc]) (tW.after (.fn f cs _ (by simp[h3]) λj hj=>?_) hk);have:=(h4 j hj).1;rw[Array.getD_eq_getD_getElem?];rw[List.getD_eq_getElem?_getD]at this;simpa using this
def zd8(hC:VC C)(t:TypeId)(len:Nat)(parts:Array (Nat×Operand))(ho:o.op= .buildSlice t len parts)(hi:ρ i=none)(hk:OA C i o st some=some st'):
  yB C.P o a w (tB C w0 outer own i ρ st'):=by
 simp only[OA,ho]at hk;split at hk
 ·cases hk
 rename_i tn jW;obtain⟨e,he,MZ⟩:=Option.bind_eq_some_iff.1 jW
 have hu:C.P.underlying t=some (.slice e):=by
  unfold hJ at he;split at he
  ·rename_i h1;cases he;exact h1
  ·cases he
 obtain⟨info,z,NW,hi2,F1,wZ,NZ⟩:=hC.ok e tn MZ;split at hk
 ·cases hk
 rename_i vs J0;cases hb:(Nat.beq vs.length len&&Nat.ble len 1000)
 case false=>simp[hb]at hk
 simp only[hb,iB]at hk;simp only[Bool.and_eq_true]at hb;have tV:=Nat.eq_of_beq_eq_true hb.1;have JV:=Nat.le_of_ble_eq_true hb.2;split at hk
 ·cases hk
 rename_i vs' ids lX;obtain⟨l,hl,hk⟩:=Option.bind_eq_some_iff.1 ((eF _ _).symm.trans hk);obtain⟨X7,Y7⟩:=zU parts.toList 0 vs J0;have yX:parts.toList.length=len:=by omega
 have Z7:parts.size=len:=by rw[←Array.length_toList];exact yX
 have DW:∀j (hj:j<vs.length),VR w ρ (bA outer ρ st.h) (a.eval ((parts.toList.map (·.2)).getD j (.const undef))) vs[j]:=λj hj=>by
  obtain⟨_,h4,h5⟩:=Y7 j (by omega);rw[h5,List.getD_eq_getElem?_getD,List.getElem?_map,List.getElem?_eq_getElem (by omega)];exact hr.opd _
 obtain⟨h1,h2⟩:=hr.heap.mark ids;obtain⟨h3,h4⟩:=KR hr.heap DW lX;obtain⟨h5,h6⟩:=zar tn _ l hl;have tW:AA C w0 outer own ρ {st with h:=eB st.h ids} a w:=hr.turn h1 h2
 -- the cells
 let pv:List (Nat×Value):=parts.toList.map λp=>(p.1,a.eval p.2);have u6:pv.length=len:=by simp[pv];omega
 have C4:l.length=len:=by rw[h5,List.length_map];omega
 have D4:∀j (hj:j<pv.length),(pv[j]).1=0+j∧(pv[j]).2.cells.size=sz tn∧∀q,q<sz tn→∃(YV:j<l.length),VR w ρ (bA outer ρ (eB st.h ids)) ((pv[j]).2.cells.getD q undef) ((enc tn l[j]).getD q .undef):=λj hj=>by
  have GY:j<vs'.length:=by omega
  have SX:j<l.length:=by omega
  obtain⟨e1,e2,e3⟩:=Y7 j (by omega);obtain⟨g1,g2⟩:=h4 j GY
  have pW:(parts.toList.map (·.2)).getD j (.const undef)=(parts.toList[j]'(by omega)).2:=by
   rw[List.getD_eq_getElem?_getD,List.getElem?_map,List.getElem?_eq_getElem (by omega)];rfl
  rw[pW]at g1;have GV:=h6 j (by simpa using GY) SX;rw[List.getElem_map]at GV;have kZ:(cellsOf vs'[j]).length=sz tn:=by rw[GV.len,WA]
  have v6:pv[j]=((parts.toList[j]'(by omega)).1,a.eval (parts.toList[j]'(by omega)).2):=by simp[pv]
  rw[v6]
  have QY:xE (cellsOf vs'[j])=true:=by
   rw[xE,List.all_eq_true];intro c hc;obtain⟨q,hq,rfl⟩:=List.mem_iff_getElem.1 hc;have hs:=GV.get q hq (by rw[←GV.len];exact hq);have EW:=nU tn l[j] q (by omega);rw[vE _ _ _ (by rw[WA];omega)]at EW;generalize (cellsOf vs'[j])[q]=c at hs;generalize (enc tn l[j])[q]'_=d at hs EW;cases hs<;>first | exact EW | rfl
  obtain⟨f1,f2,f3⟩:=cN g1 QY;refine⟨e1,by rw[f1,kZ],λq hq=>⟨SX,?_⟩⟩;have:=VR.sub (GV.get q (by omega) (by rw[WA];exact hq)) (f2 q (by omega));rwa [vE _ _ _ (by rw[WA];exact hq)]
 obtain⟨cs',c1,c2,c3,_⟩:=zbi (sz tn) pv 0 ((Array.range (len *sz tn)).map (λk=>(if len *sz tn=0 then(#[]:Array Value)else z.cells)[k % (if len *sz tn=0 then(#[]:Array Value)else z.cells).size]!))
  (λj hj=>⟨(D4 j hj).1,(D4 j hj).2.1⟩) (by simp[u6])
 have J2:cs'.size=len *sz tn:=by rw[c2];simp
 have z6:¬(2^24<len *sz tn):=by
  have h1:=cR tn;have:len *sz tn≤1000 *128:=Nat.mul_le_mul JV h1;omega
 have qV:(execOp a.eval o).run C.P w= .ok (.value (.slice (some ⟨w.heap.size,0,none⟩) len len)) (w.alloc (.cells cs' e)):=by
  have d8:(parts.map λx=>(x.1,a.eval x.2)).toList=pv:=by simp[pv]
  simp only[execOp,ho,Instr.buildSlice,Sem.run_bind,BD hu,Result.andThen_ok,sizeOf,typeInfo,run_program,NW,Sem.run_pure,hi2,gt_iff_lt,z6,if_false]
  by_cases h0:len *sz tn=0
  ·simp only[h0,if_true]at c1⊢;simp only[Sem.run_bind,Sem.run_pure,Result.andThen_ok,d8,c1];rfl
  ·simp only[h0,if_false]at c1⊢;simp only[Sem.run_bind,Sem.run_pure,Result.andThen_ok,zeroValue,typeInfo,run_program,NW,wZ,d8,c1];rfl
 refine bB qV (tW.newRowM hi ⟨w.heap.size,len,len,false⟩ (λ_=>rfl) _ (vL _ _) (λb hb=>VG _ _ _ hb) (λ_=>by simp) (c:= .arr tn l) (zD (!tn.flat&&vD st.h [] (vs.flatMap cellsOf))) (λbad fX=>?_) (λbad=>?_) ?_ hk)
 ·refine⟨C4.symm, .inr ⟨rfl,mS (hC.tys e tn MZ),Nat.le_refl _,by unfold maxLen;simp;omega,λj hj=>⟨World.frozen?_alloc_new _ _ _ _,?_⟩,λi' BW j hj=>?_⟩⟩
  ·have YV:j<len *sz tn:=hj;rw[zG w cs' e j (by omega)];rfl
  ·have g8:i'<pv.length:=by omega
   have vV:i' *sz tn+j<cs'.size:=by
    rw[J2];have:(i'+1) *sz tn≤len *sz tn:=Nat.mul_le_mul_right _ (by omega);rw[Nat.add_mul,Nat.one_mul]at this;omega
   obtain⟨_,_,g3⟩:=D4 i' g8;obtain⟨_,g4⟩:=g3 j hj;refine⟨_,zG w cs' e _ vV,?_⟩;have:=c3 i' g8 j hj;rw[Nat.zero_add]at this;rw[this];exact fX _ _ g4
 ·exact .ow i ⟨w.heap.size,len,len,false⟩ (tA _ _ _) (Nat.le_refl _) (by unfold maxLen;simp;omega) rfl
 ·cases ht:(!tn.flat&&vD st.h [] (vs.flatMap cellsOf))
  ·exact .inl rfl
  refine .inr ⟨rfl,λuV=>?_⟩;have ht:=(Bool.and_eq_true_iff.1 ht).2;refine pB.build hr.heap (f:=λo=>cs'.getD o undef) (λk hk j hj=>?_) lX (by omega) (λk hk SV=>?_) ht (λb hb=>VG _ _ _ hb) (λo ho=>zG w cs' e o (by rw[J2];rwa [C4]at ho)) uV
  ·have QY:xE (cellsOf vs[k])=true:=by
    rw[xE,List.all_eq_true];intro c hc;obtain⟨q,hq⟩:=List.mem_iff_getElem?.1 (List.mem_flatMap.2 ⟨_,List.getElem_mem hk,hc⟩)
    rcases(PI _ _ ht).1 q c hq with⟨_,_,_,_,rfl,_⟩ | ⟨h1,_⟩
    ·rfl
    ·exact(bP 8 c h1).2
   obtain⟨f1,f2,_⟩:=cN (DW k hk) QY
   have pW:(parts.toList.map (·.2)).getD k (.const undef)=(parts.toList[k]'(by omega)).2:=by
    rw[List.getD_eq_getElem?_getD,List.getElem?_map,List.getElem?_eq_getElem (by omega)];rfl
   rw[pW]at f1 f2;have i8:k<pv.length:=by omega
   have j8:pv[k]=((parts.toList[k]'(by omega)).1,a.eval (parts.toList[k]'(by omega)).2):=by simp[pv]
   have MV:j<sz tn:=by
    have:=(D4 k i8).2.1;rw[j8]at this;simp only at this;omega
   have hc:=c3 k i8 j MV;rw[Nat.zero_add,j8]at hc;show VR w ρ _ (cs'.getD (k *sz tn+j) undef) _
   rw[hc];exact f2 j hj
  ·have:=h6 k (by simpa using hk) SV;rwa [List.getElem_map]at this
end
end Go.D
namespace Go.D
variable [aA]
section
variable {C:Cx} {w0:World} {outer:Nat→Prop} {own:Ow} {ρ:Nat→Option RI} {st st':St} {a:Act} {w:World}
def zaa(hr:AA C w0 outer own ρ st a w)(pl:List (Nat×Nat)):∀(parts:List (Nat×Operand)) (cs cs':List V) (vs:Array Value),
  rN pl st.s cs parts=some cs'→vs.size=cs.length→(∀j (hj:j<cs.length),VR w ρ (bA outer ρ st.h) (vs.getD j undef) cs[j])→
  ∃vs',Instr.fill (λi=>pl[i]?) vs (parts.map λp=>(p.1,a.eval p.2))=some vs'∧vs'.size=cs'.length∧∀j (hj:j<cs'.length),VR w ρ (bA outer ρ st.h) (vs'.getD j undef) cs'[j]
 | [],cs,cs',vs,hf,hs,hv=>by simp[rN]at hf;subst hf;exact⟨vs,rfl,hs,hv⟩
 | (f,x) :: r,cs,cs',vs,hf,hs,hv=>by
  simp only[rN]at hf;split at hf
  ·cases hf
  rename_i off n hp;cases hb:(Nat.beq n (cellsOf (opd st.s x)).length&&xE (cellsOf (opd st.s x))&&Nat.ble (off+n) cs.length)
  case false=>simp[hb]at hf
  simp only[hb,cond_true]at hf;simp only[Bool.and_eq_true]at hb;obtain⟨⟨I0,OY⟩,W7⟩:=hb;have hn:=Nat.eq_of_beq_eq_true I0;have JV:=Nat.le_of_ble_eq_true W7;obtain⟨g1,g2,_⟩:=cN (hr.opd x) OY;obtain⟨k1,k2⟩:=zae (a.eval x) off vs;obtain⟨s1,s2⟩:=MK cs off (cellsOf (opd st.s x)) (by omega)
  obtain⟨vs',h1,h2,h3⟩:=zaa hr pl r _ cs' _ hf (by rw[k1,s1,hs]) (λj hj=>by
   rw[s2 j (by omega) hj,k2 j (by omega)]
   by_cases UV:off≤j∧j<off+(cellsOf (opd st.s x)).length
   ·rw[dif_pos UV,if_pos (by omega)];exact g2 _ (by omega)
   ·rw[dif_neg UV,if_neg (by omega)];exact hv j (by omega))
  refine⟨vs',?_,h2,h3⟩;simp only[List.map_cons,Instr.fill,hp];rw[if_neg]
  ·exact h1
  ·simp;omega
omit [aA]in
def zaD{f g:Nat→Option (Nat×Nat)}(m8:∀k p,f k=some p→g k=some p):∀(cs:Array Value) (l:List (Nat×Value)) (r:Array Value),Instr.fill f cs l=some r→Instr.fill g cs l=some r
 | cs,[],r,h=>h
 | cs,(i,v) :: l,r,h=>by
  simp only[Instr.fill]at h⊢;cases hf:f i with
  | none=>rw[hf]at h;cases h
  | some p=>
   obtain⟨off,n⟩:=p;rw[hf]at h;rw[m8 i _ hf];simp only at h⊢;split at h
   ·cases h
   ·rename_i hc;rw[if_neg hc];exact zaD m8 _ l r h
variable {o:Oper} {i:Nat} (hr:AA C w0 outer own ρ st a w)
include hr
def zgA(t:TypeId)(parts:Array (Nat×Operand))(ho:o.op= .build t parts)(hk:OA C i o st some=some st'):yB C.P o a w (tB C w0 outer own i ρ st'):=by
 simp only[OA,ho]at hk;split at hk
 case h_2=>cases hk
 rename_i cs pl hz yX;obtain⟨cs',hf,fX⟩:=Option.bind_eq_some_iff.1 ((eF _ _).symm.trans hk);unfold zeroCells at hz;split at hz
 case h_2=>cases hz
 rename_i z kX;cases hb:xE (z.cells.toList.map xH)<;>simp[hb]at hz
 subst hz;obtain⟨info,NW,hi2⟩:=Option.bind_eq_some_iff.1 kX
 obtain⟨vs',h1,h2,h3⟩:=zaa hr pl parts.toList _ cs' z.cells hf (by simp) (λj hj=>by
  rw[List.getElem_map];have YV:j<z.cells.size:=by simpa using hj
  rw[Array.getD_eq_getD_getElem?,Array.getElem?_eq_getElem YV];exact CL _)
 have K0:C.P.built t (parts.map λ(i,x)=>(i,a.eval x)).toList=some vs':=by
  unfold zb4 at yX;split at yX
  ·rename_i fs hu;simp only[Program.built,NW,hu,hi2,yX,Array.toList_map];simpa using h1
  ·rename_i n e hu;split at yX
   case h_2=>cases yX
   rename_i ie M2;cases hb:Nat.ble n 128<;>simp[hb]at yX
   subst yX;simp only[Program.built,NW,hu,hi2,M2,Array.toList_map];refine zaD (λk p hp=>?_) _ _ _ h1;simp only[List.getElem?_map]at hp;cases hk:(List.range n)[k]? with
   | none=>simp[hk]at hp
   | some y=>
    simp[hk]at hp
    have:y=k:=by
     obtain⟨vV,hy⟩:=List.getElem?_eq_some_iff.1 hk;simpa using hy.symm
    subst this;rw[←hp]
  ·cases yX
 refine bB (v:= .agg vs') (w':=w) ?_ (hr.after (.agg cs' vs' h2 h3) fX);simp only[execOp,ho,Sem.run_bind,run_build w t _ vs' K0,Result.andThen_ok];rfl
def zed(hC:VC C)(t:TypeId)(x y:Operand)(ho:o.op= .makeSlice t x y)(hi:ρ i=none)(hk:OA C i o st some=some st'):yB C.P o a w (tB C w0 outer own i ρ st'):=by
 simp only[OA,ho]at hk;split at hk
 case h_2=>cases hk
 rename_i tn z jW hz;obtain⟨e,he,MZ⟩:=Option.bind_eq_some_iff.1 jW
 have hu:C.P.underlying t=some (.slice e):=by
  unfold hJ at he;split at he
  ·rename_i h1;cases he;exact h1
  ·cases he
 obtain⟨info,z',NW,hi2,F1,wZ,NZ⟩:=hC.ok e tn MZ;rw[he,Option.bind_some]at hz;unfold zeroCells at hz;rw[NW,Option.bind_some,wZ]at hz;simp only at hz;cases hb:xE (z'.cells.toList.map xH)<;>simp[hb]at hz
 subst hz;split at hk
 case h_2=>cases hk
 rename_i n c hn hc;cases jY:(decide (0≤n)&&decide (n≤(eA:Int))&&(n==c))
 case false=>simp[jY]at hk
 simp only[jY,cond_true]at hk;simp only[Bool.and_eq_true,decide_eq_true_eq,beq_iff_eq]at jY;obtain⟨⟨h0,aW⟩,rfl⟩:=jY;obtain⟨x0,PW,hk⟩:=Option.bind_eq_some_iff.1 ((eF _ _).symm.trans hk);have hx:=hr.opd x;rw[hn]at hx;have hy:=hr.opd y;rw[hc]at hy;generalize xY:a.eval x=vx at hx;generalize yY:a.eval y=vy at hy;cases hx;cases hy
 have qV:=run_make (P:=C.P) w t e info z' hu NW wZ .i64 .i64 n n h0 (Int.le_refl _) (by
  have h1:info.bytes *n≤1024 *n:=Int.mul_le_mul_of_nonneg_right (by omega) h0;unfold eA at aW;omega) (by unfold eA at aW;omega)
 have N2:(execOp a.eval o).run C.P w= .ok (.value (.slice (some ⟨w.heap.size,0,none⟩) n.toNat n.toNat)) (w.alloc (.cells (madeCells z'.cells (n.toNat *info.size)) e)):=by
  simp only[execOp,ho,xY,yY,Sem.run_bind,qV,Result.andThen_ok];rfl
 have o8:n.toNat≤maxLen:=by unfold maxLen;unfold eA at aW;omega
 have xV:(madeCells z'.cells (n.toNat *info.size)).size=n.toNat *sz tn:=by rw[size_madeCells,hi2]
 refine bB N2 (hr.newRowM hi ⟨w.heap.size,n.toNat,n.toNat,false⟩ (λ_=>rfl) _ (vL _ _) (λb hb=>VG _ _ _ hb) (λ_=>by simp) (c:= .arr tn (List.replicate n.toNat x0)) (zD (!tn.flat)) (λbad fX=>?_) (λbad=>?_) ?_ hk)
 ·refine⟨by simp, .inr ⟨rfl,mS (hC.tys e tn MZ),Nat.le_refl _,o8,λj hj=>⟨World.frozen?_alloc_new _ _ _ _,?_⟩,λi' BW j hj=>?_⟩⟩
  ·have YV:j<n.toNat *sz tn:=hj;rw[zG w _ e j (by omega)];rfl
  ·have UV:i'<n.toNat:=by simpa using BW
   have vV:i' *sz tn+j<(madeCells z'.cells (n.toNat *info.size)).size:=by
    rw[xV];have:(i'+1) *sz tn≤n.toNat *sz tn:=Nat.mul_le_mul_right _ UV;rw[Nat.add_mul,Nat.one_mul]at this;omega
   refine⟨_,zG w _ e _ vV,?_⟩;have MV:j<z'.cells.size:=by omega
   have pW:(madeCells z'.cells (n.toNat *info.size)).getD (i' *sz tn+j) undef=z'.cells.getD j undef:=by
    rw[Array.getD_eq_getD_getElem?,Array.getElem?_eq_getElem vV,Array.getD_eq_getD_getElem?,Array.getElem?_eq_getElem MV];simp only[madeCells,Array.getElem_map,Array.getElem_range,Option.getD_some]
    have M0:(i' *sz tn+j) % z'.cells.size=j:=by
     rw[NZ,Nat.add_comm,Nat.mul_comm,Nat.add_mul_mod_self_left,Nat.mod_eq_of_lt hj]
    rw[M0,getElem!_pos z'.cells j MV]
   rw[pW,List.getElem_replicate];have hs:=LC tn PW;have JZ:=hs.get j (by simpa using MV) (by rw[WA];exact hj);rw[vE _ _ _ (by rw[WA];exact hj)];refine fX _ _ (VR.sub JZ ?_);rw[List.getElem_map,Array.getD_eq_getD_getElem?,Array.getElem?_eq_getElem MV];simpa using CL z'.cells[j]
 ·exact .ow i ⟨w.heap.size,n.toNat,n.toNat,false⟩ (tA _ _ _) (Nat.le_refl _) o8 rfl
 ·cases Q7:tn.flat
  ·refine .inr ⟨rfl,λuV=>pB.made hr.heap hi rfl (λb hb=>VG _ _ _ hb) (λk SV j hj=>?_) uV⟩;have UV:k<n.toNat:=by simpa using SV
   have vV:k *sz tn+j<(madeCells z'.cells (n.toNat *info.size)).size:=by
    rw[xV];have:(k+1) *sz tn≤n.toNat *sz tn:=Nat.mul_le_mul_right _ UV;rw[Nat.add_mul,Nat.one_mul]at this;omega
   refine⟨_,zG w _ e _ vV,λw2 ρ2 bad2=>?_⟩;have MV:j<z'.cells.size:=by omega
   have pW:(madeCells z'.cells (n.toNat *info.size)).getD (k *sz tn+j) undef=z'.cells.getD j undef:=by
    rw[Array.getD_eq_getD_getElem?,Array.getElem?_eq_getElem vV,Array.getD_eq_getD_getElem?,Array.getElem?_eq_getElem MV];simp only[madeCells,Array.getElem_map,Array.getElem_range,Option.getD_some]
    have M0:(k *sz tn+j) % z'.cells.size=j:=by
     rw[NZ,Nat.add_comm,Nat.mul_comm,Nat.add_mul_mod_self_left,Nat.mod_eq_of_lt hj]
    rw[M0,getElem!_pos z'.cells j MV]
   rw[pW,List.getElem_replicate];have JZ:=(LC tn PW).get j (by simpa using MV) (by rw[WA];exact hj);rw[vE _ _ _ (by rw[WA];exact hj)];refine VR.sub JZ ?_;rw[List.getElem_map,Array.getD_eq_getD_getElem?,Array.getElem?_eq_getElem MV];simpa using CL z'.cells[j]
  ·exact .inl rfl
def zfa(hC:VC C)(src d:TypeId)(x:Operand)(ho:o.op= .convert src d x)(hi:ρ i=none)(hk:OA C i o st some=some st'):yB C.P o a w (tB C w0 outer own i ρ st'):=by
 simp only[OA,ho]at hk;have hx:=hr.opd x
 have BV:∀v w',(convert src d (a.eval x)).run C.P w= .ok v w'→(execOp a.eval o).run C.P w= .ok (.value v) w':=λv w' h1=>by
  simp[execOp,ho,h1]
 split at hk
 ·rename_i k0 k k1 n h1 h2 h3;rw[h3]at hx;generalize hv:a.eval x=v at hx BV;cases hx;refine bB (BV (.int k (k.wrap n)) w ?_) (hr.after (.int _ _ (QK _ _)) hk);simp[convert,run_underlying h1,run_underlying h2,Conv.intToInt]
 ·rename_i e s h1 h2 h3;split at hk
  case h_2=>cases hk
  rename_i h4 h5;rw[h3]at hx;cases aW:Nat.ble s.length eA
  case false=>simp[aW]at hk
  simp only[aW,cond_true]at hk;have aW:=Nat.le_of_ble_eq_true aW;generalize hv:a.eval x=v at hx BV;cases hx with
  | str _ hs=>
  obtain⟨info,z,NW,hi2,F1,wZ,NZ⟩:=hC.ok e .byte h4;have qV:=run_bytes_of_string (P:=C.P) w src d e ⟨s.toArray⟩ h1 h2 h5;have s8:(ByteArray.mk s.toArray).size=s.length:=by simp[ByteArray.size]
  rw[s8]at qV;have GW:=grownCap_ge w s.length 0 e;have GZ:grownCap w s.length 0 e≤maxLen:=grownCap_le_maxLen w s.length 0 e hs;generalize tX:grownCap w s.length 0 e=cap at qV GW GZ;have O0:(bytesRow ⟨s.toArray⟩ cap).size=cap:=by simp[bytesRow,s8];omega
  refine bB (BV _ _ qV) (hr.newRow hi ⟨w.heap.size,s.length,cap,false⟩ (λ_=>rfl) _ (Wx.trans (zbP w) (vL _ _))
   (λb hb=>VG w.drew _ b hb) (λ_=>by simp) (c:= .arr .byte s) (λbad fX=>?_) (λbad=>?_) hk)
  ·have wV:∀j,j<cap→(w.drew.alloc (.cells (bytesRow ⟨s.toArray⟩ cap) e ((bytesRow ⟨s.toArray⟩ cap).size,(bytesRow ⟨s.toArray⟩ cap).size+1))).cell? (iA w.heap.size j)=(bytesRow ⟨s.toArray⟩ cap)[j]?:=λj hj=>by
    have hh:(w.drew.alloc (.cells (bytesRow ⟨s.toArray⟩ cap) e ((bytesRow ⟨s.toArray⟩ cap).size,(bytesRow ⟨s.toArray⟩ cap).size+1))).heap[w.heap.size]?=some (.cells (bytesRow ⟨s.toArray⟩ cap) e ((bytesRow ⟨s.toArray⟩ cap).size,(bytesRow ⟨s.toArray⟩ cap).size+1)):=by
     show(w.heap.push _)[w.heap.size]?=_
     simp
    unfold World.cell? iA;rw[hh];rfl
   refine⟨rfl, .inr ⟨rfl,⟨_,e,_,by show(w.heap.push _)[w.heap.size]?=_;rw[Array.getElem?_push_size],hC.tys e .byte h4⟩,GW,GZ,λj hj=>?_,λi' BW j hj=>?_⟩⟩
   ·have YV:j<cap:=by simpa[sz]using hj
    refine⟨?_,?_⟩
    ·have:=World.frozen?_alloc_mark w.drew (bytesRow ⟨s.toArray⟩ cap) e (bytesRow ⟨s.toArray⟩ cap).size ((bytesRow ⟨s.toArray⟩ cap).size+1) j;rw[World.size_drew]at this;show World.frozen? _ ⟨w.heap.size,j,none⟩=false
     rw[this,O0];simp;omega
    ·rw[wV j YV,Array.getElem?_eq_getElem (by omega)];rfl
   ·have yZ:j=0:=by simp[sz]at hj;exact hj
    subst yZ;have D2:i'<s.length:=BW;refine⟨.int .u8 (s[i'].toNat:Int),?_,?_⟩
    ·simp only[sz,Nat.mul_one,Nat.add_zero];rw[wV i' (by omega),bytesRow_at _ _ _ (by simpa using D2)];simp
    ·have:=s[i'].toNat_lt;exact .int _ _ ⟨by simp[IntKind.min,IntKind.signed],by simp[IntKind.max,IntKind.signed,IntKind.bits];omega⟩
  ·exact .ow i ⟨w.heap.size,s.length,cap,false⟩ (tA _ _ _) GW GZ rfl
 ·rename_i e h1 h2;split at hk
  case h_2=>cases hk
  rename_i l h5 h4;cases aW:Nat.ble l.length eA
  case false=>simp[aW]at hk
  simp only[aW,cond_true]at hk;have aW:=Nat.le_of_ble_eq_true aW;obtain⟨ao,cap,hv,GX⟩:=zbd hr hx h4;refine bB (BV (.string ⟨l.toArray⟩) w ?_) (hr.after (.str l (by unfold eA at aW;unfold maxLen;omega)) hk);rw[hv]
  have empty:∀(ao:Option Addr) (c:Nat),(convert src d (.slice ao 0 c)).run C.P w= .ok (.string ⟨#[]⟩) w:=λao c=>by
   cases ao with
   | none=>exact run_convert_bytes_nil w src e h1 h5 0 c d h2
   | some ad=>exact run_convert_bytes_back w src d e ad c [] h1 h5 h2 (λj hj=>by simp at hj)
  rcases GX with rfl | ⟨b,off,rfl,hc⟩
  ·exact empty ao cap
  ·refine run_convert_bytes_back w src d e (iA b off) cap l h1 h5 h2 λj hj=>?_;obtain⟨u,c1,c2⟩:=hc j hj 0 (by simp[sz]);simp only[sz,Nat.mul_one,Nat.add_zero]at c1;rw[uD,c1];have:(enc .byte l[j]).getD 0 .undef= .int .u8 (l[j].toNat:Int):=rfl;rw[this]at c2;cases c2;rfl
 ·rename_i e0 e r h1 h2 h3;split at hk
  case h_2=>cases hk
  rename_i y l A6 h5 h4;have A6:=Nat.eq_of_beq_eq_true A6;subst A6;have he:e0=e:=by rw[h1]at h2;cases h2;rfl
  subst he;rw[h3]at hx;obtain⟨ri,hρ,FV,j0⟩:=hr.heap.rows r _ h4;obtain⟨tV,GX⟩:=FV;generalize hv:a.eval x=v at hx BV;cases hx with
  | owN _ ri' ao wW hn CV=>
   rw[hρ]at wW;cases wW;rw[hn]at tV;simp at tV
  | ow _ ri' wW hn hc CV=>
  rw[hρ]at wW;cases wW
  rcases GX with⟨O2,_⟩ | ⟨_,ce,_,_,IV,WW⟩
  ·rw[CV]at O2;cases O2
  have OZ:0<ri.cap *sz .byte:=by
   have:0<ri.n:=by rw[tV];simp
   simp[sz];omega
  obtain⟨c,elem,lo,BW,zZ⟩:∃c elem lo BW,w.heap[ri.b]?=some (.cells c elem (lo,BW)):=by
   have:=(IV 0 OZ).2;unfold World.cell? iA at this;simp only at this;split at this
   ·rename_i c elem fr hb;exact⟨c,elem,fr.1,fr.2,hb⟩
   ·cases this
  have eW:(w.freeze ⟨ri.b,c.size,none⟩ 1).heap=w.heap.modify ri.b fun
    | .cells c' elem (lo,hi)=> .cells c' elem (if lo==hi then(c.size,c.size+1)else(min lo c.size,max hi (c.size+1)))
    | o=>o:=by
   unfold World.freeze;rw[if_neg (by decide)];rfl
  generalize hW:w.freeze ⟨ri.b,c.size,none⟩ 1=W at eW
  have zX:∀b,b≠ri.b→W.heap[b]?=w.heap[b]?:=λb hb=>by
   rw[eW,Array.getElem?_modify,if_neg (Ne.symm hb)]
  have wV:∀j,W.cell? (iA ri.b j)=w.cell? (iA ri.b j):=λj=>by
   unfold World.cell? iA;simp only[eW,Array.getElem?_modify,zZ,if_true,Option.map_some]
  have ceW:ID W ri.b .byte:=by
   obtain⟨c',e',z',k1,k2⟩:=ce;rw[zZ]at k1;cases k1;exact⟨c,elem,_,by rw[eW,Array.getElem?_modify,if_pos rfl,zZ];rfl,k2⟩
  have qV:(convert src src (.slice (some (iA ri.b 0)) ri.n ri.cap)).run C.P w= .ok (.slice (some (iA ri.b 0)) ri.n ri.cap) W:=by
   have B6:w.shape? ri.b=some (elem,c.size):=by simp[World.shape?,zZ]
   simp[convert,run_underlying h1,run_underlying h5,markStringish,iA,B6];exact hW
  have lW:Wx w W:=by
   rw[←hW];unfold World.freeze;rw[if_neg (by decide)];exact⟨rfl,rfl,rfl,by simp⟩
  have cW:=hr.heap.write h4 rfl hρ CV W lW (by rw[eW];simp) zX (.box []) (λ_=>⟨CV,λj hj=>by simp at hj⟩)
  have yV:=cW.1.less (h':=cA st.h r none) (λq row' hq=>by
   by_cases zV:q=r
   ·subst zV;rw[tA]at hq;cases hq
   ·rw[kA _ _ _ _ zV]at hq;exact⟨row',by rw[kA _ _ _ _ zV];exact hq,rfl,λh=>h,λh=>h⟩)
  have RY:=hr.turn yV.1 (λu d hu=>yV.2 _ _ (cW.2 u d hu))
  have wY:¬bA outer ρ (cA st.h r none) ri.b:=by
   rintro(hb | ⟨q,row,qi,q1,q2,q3,q4,q5⟩)
   ·exact(j0 CV).1.1 hb
   ·by_cases zV:q=r
    ·subst zV;rw[tA]at q1;cases q1
    ·rw[kA _ _ _ _ zV]at q1;exact zV (hr.heap.inj q r row _ qi ri q1 h4 q3 hρ q4 CV q5)
  refine bB (BV _ _ qV) (RY.after ?_ hk);have SY:ri.n=(y :: l).length:=tV;rw[SY];rw[SY]at hn;refine .slC .byte (y :: l) ri.b 0 ri.cap (λi _=> .int .u8 ((((y :: l).getD i 0:UInt8).toNat:Nat):Int)) wY hn hc (λ_=> .inr ceW) (λi hi j hj=>?_) (λi hi j hj=>?_)
  ·have yZ:j=0:=by simp[sz]at hj;exact hj
   subst yZ;obtain⟨u,c1,c2⟩:=WW i hi 0 (by simp[sz]);rw[wV];simp only[Nat.zero_add];rw[c1];have e2:(enc .byte (y :: l)[i]).getD 0 .undef= .int .u8 ((y :: l)[i].toNat:Int):=rfl;rw[e2]at c2;cases c2;have e3:(y :: l).getD i (0:UInt8)=(y :: l)[i]:=by rw[List.getD_eq_getElem?_getD,List.getElem?_eq_getElem hi];rfl
   rw[e3]
  ·have yZ:j=0:=by simp[sz]at hj;exact hj
   subst yZ;have e3:(y :: l).getD i (0:UInt8)=(y :: l)[i]:=by rw[List.getD_eq_getElem?_getD,List.getElem?_eq_getElem hi];rfl
   rw[e3];have:=UInt8.toNat_lt (y :: l)[i];show VR _ _ _ _ (.int .u8 ((((y :: l)[i]:UInt8).toNat:Nat):Int))
   exact .int _ _ ⟨by simp[IntKind.min,IntKind.signed],by simp[IntKind.max,IntKind.signed,IntKind.bits];omega⟩
 ·cases hk
end
end Go.D
namespace Go.D
variable [aA]
section
variable {C:Cx} {w0:World} {outer:Nat→Prop} {own:Ow} {ρ:Nat→Option RI} {st st':St} {a:Act} {w:World} {h:Nat→Option gA}
def Out(base N r:Nat):Prop:=¬(base≤r∧r<base+N)
omit [aA]in
def PA(ow:List Nat)(base:Nat)(h:Nat→Option gA):∀(es:List V) (p r:Nat),HA ow base h p es r=match HA ow base (λ_=>none) p es r with | some x=>some x | none=>h r
 | [],p,r=>rfl
 | e :: es,p,r=>by
  have ih:=PA ow base h es (p+1) r;cases e<;>simp only[HA]<;>try exact ih
  cases hb:ow.any (Nat.beq p)
  ·simpa using ih
  ·simp only[cond_true]
   by_cases hr:r=base+p
   ·subst hr;simp[tA]
   ·simp only[kA _ _ _ _ hr];exact ih
omit [aA]in
def CB(ow:List Nat)(base:Nat):∀(es:List V) (p r:Nat),(r<base+p∨base+p+es.length≤r)→HA ow base (λ_=>none) p es r=none
 | [],p,r,_=>rfl
 | e :: es,p,r,hr=>by
  have ih:=CB ow base es (p+1) r (by simp at hr;omega);cases e<;>simp only[HA]<;>try exact ih
  cases hb:ow.any (Nat.beq p)
  ·simpa using ih
  ·simp only[cond_true];rw[kA _ _ _ _ (by simp at hr;omega)];exact ih
omit [aA]in
def SC(ow:List Nat)(base:Nat):∀(es:List V) (p:Nat),(zA ow base p es).length=es.length
 | [],p=>rfl
 | e :: es,p=>by cases e<;>simp[zA,SC ow base es (p+1)]
def OE(h g:Nat→Option gA):Prop:=∀r row,h r=some row→g r=some row
omit [aA]in
def xR{c:V}{h g:Nat→Option gA}{x:V×List Nat}(hg:OE h g)(hf:kC h c=some x):kC g c=some x∧∀r∈x.2,∃row,h r=some row:=by
 unfold kC at hf;split at hf
 ·rename_i r;split at hf
  ·rename_i t l m hr;refine⟨by simp only[kC,hg _ _ hr];exact hf,?_⟩;cases hm:m.isLock<;>simp[hm]at hf
   subst hf;intro q hq;simp at hq;subst hq;exact⟨_,hr⟩
  ·cases hf
 ·rename_i r t off len;split at hf
  ·rename_i t' l m hr;refine⟨by simp only[kC,hg _ _ hr];exact hf,?_⟩;cases hm:m.isLock
   ·simp only[hm,cond_false]at hf;split at hf
    ·simp at hf;subst hf;intro q hq;simp at hq;subst hq;exact⟨_,hr⟩
    ·cases hf
   ·simp[hm]at hf
  ·cases hf
 ·cases hb:RD 8 c<;>simp[hb]at hf
  subst hf;refine⟨?_,by simp⟩;unfold kC;split
  ·simp[RD]at hb
  ·simp[RD]at hb
  ·simp[hb]
omit [aA]in
def zR{h g:Nat→Option gA}(hg:OE h g):∀{cs:List V} {x:List V×List Nat},ZC h cs=some x→ZC g cs=some x∧∀r∈x.2,∃row,h r=some row
 | [],x,hf=>by simp[ZC]at hf;subst hf;simp[ZC]
 | c :: cs,x,hf=>by
  simp only[ZC]at hf;split at hf
  ·cases hf
  rename_i c' i h1;split at hf
  ·cases hf
  rename_i cs' j h2;cases hf;obtain⟨k1,k2⟩:=xR hg h1;obtain⟨k3,k4⟩:=zR hg h2;refine⟨by simp[ZC,k1,k3],λr hr=>?_⟩
  rcases List.mem_append.1 hr with hr | hr
  ·exact k2 r hr
  ·exact k4 r hr
omit [aA]in
def za8{c:V}{h g:Nat→Option gA}{x:V×List Nat}(hg:OE h g)(hf:cE h c=some x):cE g c=some x∧∀r∈x.2,∃row,h r=some row:=by
 unfold cE at hf;split at hf
 ·split at hf
  ·rename_i cs cs' i h1;cases hf;obtain⟨k1,k2⟩:=zR hg h1;exact⟨by simp[cE,k1],k2⟩
  ·cases hf
 ·rename_i r off;split at hf
  ·rename_i cs m hr;cases hb:(m.isLock||cs.isEmpty)
   case true=>simp[hb]at hf
   simp only[hb,cond_false]at hf;split at hf
   ·rename_i cs' i h1;cases hf;obtain⟨k1,k2⟩:=zR hg h1;refine⟨by simp[cE,hg _ _ hr,hb,k1],λq hq=>?_⟩
    rcases List.mem_cons.1 hq with rfl | hq
    ·exact⟨_,hr⟩
    ·exact k2 q hq
   ·cases hf
  ·cases hf
 ·rename_i h1 h2;obtain⟨k1,k2⟩:=xR hg hf;refine⟨?_,k2⟩;unfold cE;split
  ·exact absurd rfl (h1 _)
  ·exact absurd rfl (h2 _ _)
  ·exact k1
omit [aA]in
def fS{h g:Nat→Option gA}(hg:OE h g)(ids:List Nat):OE (eB h ids) (eB g ids):=by
 intro r row hr;rw[pD]at hr⊢
 by_cases hm:r∈ids
 ·simp only[hm,if_true,Option.map_eq_some_iff]at hr⊢;obtain⟨row',h1,rfl⟩:=hr;exact⟨row',hg _ _ h1,rfl⟩
 ·simp only[hm,if_false]at hr⊢;exact hg _ _ hr
def YR{bad bad':Nat→Prop}{ri:RI}{ρ':Nat→Option RI}{t:TN}{l:List (El t)}(hr:uC w ρ bad ri (.arr t l))
  (hv:∀u d,VR w ρ bad u d→VR w ρ' bad' u d):uC w ρ' bad' ri (.arr t l):=hr.keep (λ_=>rfl) hv
def pB.namedT(hh:EA w0 outer own ρ h w){r i n:Nat}{t:TN}{l l':List (El t)}{m:cB}{ri ri':RI}(hr:h r=some ⟨.arr t l,m⟩)(hm:m.isRo=false)(hρ:ρ r=some ri)
  (hi:ρ i=none) (hf:m= .tre∨t.flat=true) (hb:∀b,bA outer (cA ρ i (some ri')) (cA (cA h r none) i (some ⟨.arr t l', .tre⟩)) b→bA outer ρ h b) (hl:l'=l.take n)
  (j0:ri'.nl=false→ri.nl=false∧ri'.b=ri.b):
  pB w (bA outer (cA ρ i (some ri')) (cA (cA h r none) i (some ⟨.arr t l', .tre⟩))) (XC w0 own) (cA ρ i (some ri')) (cA (cA h r none) i (some ⟨.arr t l', .tre⟩)):=by
 obtain⟨par,hd⟩:=hh.dep;obtain⟨ri1,k1,k2,k3⟩:=hh.rows r _ hr;rw[hρ]at k1;cases k1;have tV:l'.length≤l.length:=by rw[hl,List.length_take];exact Nat.min_le_right _ _
 have AX:∀j (hj:j<l'.length),l'[j]=l[j]'(by omega):=λj hj=>by subst hl;simp
 have bW:∀q t1 (l1:List (El t1)) m1 qi,q≠i→cA (cA h r none) i (some ⟨.arr t l', .tre⟩) q=some ⟨.arr t1 l1,m1⟩→cA ρ i (some ri') q=some qi→q≠r∧h q=some ⟨.arr t1 l1,m1⟩∧ρ q=some qi:=λq t1 l1 m1 qi hq h1 h2=>by
  rw[kA _ _ _ _ hq]at h1 h2
  by_cases zV:q=r
  ·subst zV;rw[tA]at h1;cases h1
  ·rw[kA _ _ _ _ zV]at h1;exact⟨zV,h1,h2⟩
 rcases hf with rfl | hf
 ·refine⟨par,λq t1 l1 m1 qi h1 cX h2 h3=>?_⟩
  by_cases hq:q=i
  ·subst hq;rw[tA]at h1 h2;cases h1;cases h2;obtain⟨e1,e2⟩:=j0 h3;obtain⟨g1,g2⟩:=hd r t l _ ri hr rfl hρ e1;refine⟨by rw[e2];exact g1,λk hk j hj=>?_⟩;obtain⟨u,g3,g4⟩:=g2 k (by omega) j hj;rw[e2,AX k hk];exact⟨u,g3,g4.gen (λ_ _ _ _=>rfl) (λb _ _ h=>hb b h) (λ_ h=>h) (λ_ _ _ _ h=>h) λ_ _ _ _ _ _ h=>h⟩
  ·obtain⟨_,h4,h5⟩:=bW q t1 l1 m1 qi hq h1 h2;have:=hd q t1 l1 m1 qi h4 cX h5 h3;exact this.gen rfl rfl (λ_ _ _ _=>rfl) (λb _ _ h=>hb b h) (λ_ h=>h) this.1 λ_ _ _ _ _ h=>h
 ·refine⟨λb=>if ri.nl=false∧b=ri.b then none else par b,λq t1 l1 m1 qi h1 cX h2 h3=>?_⟩
  by_cases hq:q=i
  ·subst hq;rw[tA]at h1 h2;cases h1;cases h2;obtain⟨e1,e2⟩:=j0 h3;refine⟨by simp[e1,e2],λk hk j hj=>?_⟩
   rcases k2.2 with h | ⟨_,_,_,_,_,h4⟩
   ·rw[e1]at h;cases h.1
   obtain⟨u,h5,h6⟩:=h4 k (by omega) j hj;rw[e2,AX k hk];exact⟨u,h5, .triv _ _ _ (GO hf h6 hj)⟩
  ·obtain⟨zV,h4,h5⟩:=bW q t1 l1 m1 qi hq h1 h2;have:=hd q t1 l1 m1 qi h4 cX h5 h3;refine this.gen rfl rfl (λ_ _ _ _=>rfl) (λb _ _ h=>hb b h) (λ_ h=>h) ?_ λb p wY _ _ hp=>?_
   ·show(if ri.nl=false∧qi.b=ri.b then none else par qi.b)=none
    split
    ·rfl
    ·exact this.1
   ·show(if ri.nl=false∧b=ri.b then none else par b)=some p
    split
    ·rename_i e;exact absurd (.inr ⟨r,_,ri,hr,hm,hρ,e.1,e.2.symm⟩) wY
    ·exact hp
omit [aA]in
def DL{tr:Bool}{t:TN}{m:cB}(h:AB tr t m=true):m.isRo=false:=by cases m<;>first | rfl | simp[AB]at h
omit [aA]in
def zbJ{tr:Bool}{t:TN}{m:cB}(h:AB tr t m=true):m.isOwn=true:=by cases m<;>first | rfl | simp[AB]at h
omit [aA]in
def zb8{ow:List Nat}{p:Nat}{t:TN}{m:cB}(h:AB (ZD ow p) t m=true):PC ow p= .own∨PC ow p= .tre∧(m= .tre∨t.flat=true):=by
 unfold PC;cases ht:ZD ow p
 ·exact .inl rfl
 ·rw[ht]at h;refine .inr ⟨rfl,?_⟩;cases m<;>simp[AB]at h
  ·exact .inr h
  ·exact .inl rfl
omit [aA]in
def mT(ow:List Nat)(p:Nat):PC ow p= .own∨PC ow p= .tre:=by
 unfold PC;cases ZD ow p
 ·exact .inl rfl
 ·exact .inr rfl
omit [aA]in
def zhX(ow:List Nat)(p:Nat):(PC ow p).isOwn=true:=by rcases mT ow p with h | h<;>rw[h]<;>rfl
omit [aA]in
def CQ(ow:List Nat)(p:Nat):(PC ow p).isRo=false:=by rcases mT ow p with h | h<;>rw[h]<;>rfl
def EA.rename(hh:EA w0 outer own ρ h w){r i:Nat}{t:TN}{l:List (El t)}{m:cB}{ri:RI}(m':cB)(hr:h r=some ⟨.arr t l,m⟩)(hm:m.isRo=false)(LW:m'= .own∨m'= .tre∧(m= .tre∨t.flat=true))(hρ:ρ r=some ri)(hi:ρ i=none):
  EA w0 outer own (cA ρ i (some ri)) (cA (cA h r none) i (some ⟨.arr t l,m'⟩)) w∧
   ∀u d,VR w ρ (bA outer ρ h) u d→VR w (cA ρ i (some ri)) (bA outer (cA ρ i (some ri)) (cA (cA h r none) i (some ⟨.arr t l,m'⟩))) u d:=by
 obtain⟨ri',h1,h2,h3⟩:=hh.rows r _ hr;rw[hρ]at h1;cases h1
 have own:EA w0 outer own (cA ρ i (some ri)) (cA (cA h r none) i (some ⟨.arr t l, .own⟩)) w∧
   ∀u d,VR w ρ (bA outer ρ h) u d→VR w (cA ρ i (some ri)) (bA outer (cA ρ i (some ri)) (cA (cA h r none) i (some ⟨.arr t l, .own⟩))) u d:=by
  cases hn:ri.nl
  ·exact hh.move hr hm hρ hn hi rfl hn w (Wx.refl _) rfl (λ_ _=>rfl) _ λbad hv=>YR h2 hv
  ·obtain⟨k1,k2⟩:=hh.less (h':=cA h r none) (λq row' hq=>by
    by_cases zV:q=r
    ·subst zV;rw[tA]at hq;cases hq
    ·rw[kA _ _ _ _ zV]at hq;exact⟨row',hq,rfl,id,id⟩)
   obtain⟨k3,k4⟩:=k1.alloc i hi ri (λh=>by rw[hn]at h;cases h) w (Wx.refl _) (λ_ _=>rfl) (λh=>by rw[hn]at h;cases h) (.arr t l)
    λhv=>YR (YR h2 k2) hv
   exact⟨k3,λu d hu=>k4 _ _ (k2 _ _ hu)⟩
 rcases LW with rfl | ⟨rfl,hf⟩
 ·exact own
 obtain⟨g1,g2⟩:=own;have P2:cA (cA (cA h r none) i (some ⟨.arr t l, .own⟩)) i (some ⟨.arr t l, .tre⟩)=cA (cA h r none) i (some ⟨.arr t l, .tre⟩):=GG _ _ _ _
 have:=g1.turn (m':= .tre) (tA _ _ _) rfl λuV=>by
  rw[P2]at uV⊢;have hb:∀b,bA outer (cA ρ i (some ri)) (cA (cA h r none) i (some ⟨.arr t l, .tre⟩)) b→bA outer ρ h b:=λb=>qS hr hm hρ λh=>⟨rfl,h⟩;exact pB.namedT (n:=l.length) hh hr hm hρ hi hf hb (List.take_length).symm λh=>⟨h,rfl⟩
 rw[P2]at this;exact⟨this.1,λu d hu=>this.2 _ _ (g2 _ _ hu)⟩
def EA.empty(hh:EA w0 outer own ρ h w){i:Nat}(t:TN)(m:cB)(hm:m= .own∨m= .tre)(hi:ρ i=none):
  EA w0 outer own (cA ρ i (some ⟨0,0,0,true⟩)) (cA h i (some ⟨.arr t [],m⟩)) w∧
   ∀u d,VR w ρ (bA outer ρ h) u d→VR w (cA ρ i (some ⟨0,0,0,true⟩)) (bA outer (cA ρ i (some ⟨0,0,0,true⟩)) (cA h i (some ⟨.arr t [],m⟩))) u d:=by
 have own:=hh.alloc i hi ⟨0,0,0,true⟩ (λh=>by cases h) w (Wx.refl _) (λ_ _=>rfl) (λh=>by cases h) (.arr t []) λ_=>⟨rfl, .inl ⟨rfl,rfl⟩⟩
 rcases hm with rfl | rfl
 ·exact own
 obtain⟨g1,g2⟩:=own
 have:=g1.turn (m':= .tre) (tA _ _ _) rfl λuV=>by
  rw[GG]at uV⊢;refine g1.dep.keep (λq t' l' m' qi e1 em e2 e3=>?_) (λ_ _ _=>rfl) (λb hb=> .inl (uV b hb)) λ_ h=>h
  by_cases hq:q=i
  ·subst hq;rw[tA]at e2;cases e2;cases e3
  ·rw[kA _ _ _ _ hq]at e1;exact⟨q,m',by rw[kA _ _ _ _ hq];exact e1,em,e2,rfl⟩
 rw[GG]at this;exact⟨this.1,λu d hu=>this.2 _ _ (g2 _ _ hu)⟩
def EA.cut(hh:EA w0 outer own ρ h w){r i len:Nat}{t t0:TN}{l:List (El t)}{m:cB}{v:Value}(m':cB)(hr:h r=some ⟨.arr t l,m⟩)(hm:m.isRo=false)(LW:m'= .own∨m'= .tre∧(m= .tre∨t.flat=true))(hi:ρ i=none)(hv:VR w ρ (bA outer ρ h) v (.ov r t0 0 len)):
  ∃ri',EA w0 outer own (cA ρ i (some ri')) (cA (cA h r none) i (some ⟨.arr t (l.take len),m'⟩)) w∧
   (∀u d,VR w ρ (bA outer ρ h) u d→VR w (cA ρ i (some ri')) (bA outer (cA ρ i (some ri')) (cA (cA h r none) i (some ⟨.arr t (l.take len),m'⟩))) u d)∧
   VR w (cA ρ i (some ri')) (bA outer (cA ρ i (some ri')) (cA (cA h r none) i (some ⟨.arr t (l.take len),m'⟩))) v (.ow i):=by
 obtain⟨ri,hρq,FV,Q2⟩:=hh.rows r _ hr;have RX:ri.n=l.length:=FV.1;obtain⟨ao,cap,h1,h2,h3,h4,h5⟩:=hv.ov_inv hρq
 rcases h3 with⟨rfl,rfl⟩ | ⟨rfl,CV,hc⟩
 ·obtain⟨k1,k2⟩:=hh.less (h':=cA h r none) (λq row' hq=>by
   by_cases zV:q=r
   ·subst zV;rw[tA]at hq;cases hq
   ·rw[kA _ _ _ _ zV]at hq;exact⟨row',hq,rfl,id,id⟩)
  obtain⟨n1,n2⟩:=k1.empty t m' (LW.imp id λh=>h.1) hi;rw[List.take_zero];exact⟨⟨0,0,0,true⟩,n1,λu d hu=>n2 _ _ (k2 _ _ hu),by rw[h1];exact .owN _ ⟨0,0,0,true⟩ ao (tA _ _ _) rfl rfl⟩
 ·rw[Nat.zero_mul]at h1
  rcases FV.2 with h6 | ⟨_,ce,c1,c2,c3,c4⟩
  ·rw[CV]at h6;cases h6.1
  obtain⟨n1,n2⟩:=hh.move hr hm hρq CV hi (ri':=⟨ri.b,len,cap,false⟩) rfl rfl w (Wx.refl _) rfl (λ_ _=>rfl) (.arr t (l.take len)) λbad fX=>by
   refine⟨by simp;omega, .inr ⟨rfl,ce,h4,h5,λj hj=>c3 j ?_,λi hi j hj=>?_⟩⟩
   ·have:cap *sz t≤ri.cap *sz t:=Nat.mul_le_mul_right _ (by omega);have hj:j<cap *sz t:=hj;omega
   ·obtain⟨u,f1,f2⟩:=c4 i (by simp at hi;omega) j hj;refine⟨u,f1,?_⟩;rw[List.getElem_take];exact fX _ _ f2
  rcases LW with rfl | ⟨rfl,hf⟩
  ·exact⟨_,n1,n2,by rw[h1];exact .ow _ ⟨ri.b,len,cap,false⟩ (tA _ _ _) h4 h5 rfl⟩
  have P2:cA (cA (cA h r none) i (some ⟨.arr t (l.take len), .own⟩)) i (some ⟨.arr t (l.take len), .tre⟩)=cA (cA h r none) i (some ⟨.arr t (l.take len), .tre⟩):=GG _ _ _ _
  have:=n1.turn (m':= .tre) (tA _ _ _) rfl λuV=>by
   rw[P2]at uV⊢;have hb:∀b,bA outer (cA ρ i (some ⟨ri.b,len,cap,false⟩)) (cA (cA h r none) i (some ⟨.arr t (l.take len), .tre⟩)) b→bA outer ρ h b:=λb=>qS (ri':=⟨ri.b,len,cap,false⟩) hr hm hρq λh=>⟨rfl,CV⟩;exact pB.namedT (n:=len) hh hr hm hρq hi hf hb rfl λ_=>⟨CV,rfl⟩
  rw[P2]at this;exact⟨_,this.1,λu d hu=>this.2 _ _ (n2 _ _ hu),by rw[h1];exact .ow _ ⟨ri.b,len,cap,false⟩ (tA _ _ _) h4 h5 rfl⟩
omit [aA]in
def zix(tr:Bool):zD tr= .own∨zD tr= .tre:=by
 cases tr
 ·exact .inl rfl
 ·exact .inr rfl
omit [aA]in
def zb0{tr:Bool}{t:TN}{m:cB}(h:AB tr t m=true):zD tr= .own∨zD tr= .tre∧(m= .tre∨t.flat=true):=by
 cases tr
 ·exact .inl rfl
 ·refine .inr ⟨rfl,?_⟩;cases m<;>simp[AB]at h
  ·exact .inr h
  ·exact .inl rfl
structure zcy(w0:World)(outer:Nat→Prop)(own:Ow)(w:World)(ow:List Nat)(base N p:Nat)(ρ:Nat→Option RI)(g h h':Nat→Option gA)(es:List V)(u:Nat→Value)
  (ρ':Nat→Option RI) (g':Nat→Option gA):Prop where
 heap:EA w0 outer own ρ' g' w
 lies:OE h' g'
 out:∀r,Out base N r→ρ' r=ρ r∧(h r=none→g' r=g r)
 less:∀r,h r=none→h' r=none
 before:∀q,q<p→g' (base+q)=g (base+q)∧ρ' (base+q)=ρ (base+q)
 new:∀q,p≤q→q<N→g' (base+q)=HA ow base (λ_=>none) p es (base+q)
 ext:∀r ri,ρ r=some ri→ρ' r=some ri
 keep:∀v d,VR w ρ (bA outer ρ g) v d→VR w ρ' (bA outer ρ' g') v d
 vals:∀j (hj:j<(zA ow base p es).length),VR w ρ' (bA outer ρ' g') (u j) (zA ow base p es)[j]
 closed:∀j (hj:j<es.length),vB es[j]∧(es[j]).leaf=true
omit [aA]in
def ZA.closed1{c e:V}(hs:dE c e)(h:vB c∧c.leaf=true):vB e∧e.leaf=true:=by
 cases hs with
 | refl=>exact h
 | byte n=>exact⟨λ_=> .int _ _,rfl⟩
 | nil t=>exact⟨eH _ _,rfl⟩
def SK(ow:List Nat)(base N:Nat):∀(cs:List V) (p:Nat) (h h':Nat→Option gA) (cs' es:List V) (ρ:Nat→Option RI) (g:Nat→Option gA) (u:Nat→Value),
  qC ow p cs h=some (cs',h')→ZA cs' es→p+cs.length≤N→EA w0 outer own ρ g w→
  (∀j (hj:j<cs.length),VR w ρ (bA outer ρ g) (u j) cs[j])→OE h g→(∀q,q<N→h (base+q)=none)→
  (∀q,p≤q→q<N→ρ (base+q)=none)→∃ρ' g',zcy w0 outer own w ow base N p ρ g h h' es u ρ' g'∧es.length=cs.length
 | [],p,h,h',cs',es,ρ,g,u,ht,hs,hN,hh,hv,hg,KV,hf=>by
  simp only[qC,Option.some.injEq,Prod.mk.injEq]at ht;obtain⟨rfl,rfl⟩:=ht;cases hs;refine⟨ρ,g,⟨hh,hg,λr hr=>⟨rfl,λ_=>rfl⟩,λ_ h=>h,λq hq=>⟨rfl,rfl⟩,λq h1 h2=>?_,λ_ _ h=>h,λ_ _ h=>h,λj hj=>by simp[zA]at hj,λj hj=>by simp at hj⟩,rfl⟩;cases I1:g (base+q)with
  | none=>rfl
  | some row=>obtain⟨ri,h3,_⟩:=hh.rows _ _ I1;rw[hf q h1 h2]at h3;cases h3
 | c :: cs,p,h,h',cs',es,ρ,g,u,ht,hs,hN,hh,hv,hg,KV,hf=>by
  simp only[List.length_cons]at hN;have UV:¬Out base N (base+p):=λho=>ho ⟨by omega,by omega⟩
  have TY:∀r row,h r=some row→Out base N r:=λr row hr=>by
   rintro⟨h1,h2⟩;have:=KV (r - base) (by omega);rw[show base+(r - base)=r by omega,hr]at this;cases this
  -- behind a step
  have go:∀(ρ1:Nat→Option RI) (g1 h1:Nat→Option gA) (cs1 es1:List V) (e:V),qC ow (p+1) cs h1=some (cs1,h')→ZA cs1 es1→es=e :: es1→EA w0 outer own ρ1 g1 w→
    (∀v d,VR w ρ (bA outer ρ g) v d→VR w ρ1 (bA outer ρ1 g1) v d)→OE h1 g1→(∀r,Out base N r→ρ1 r=ρ r∧(h r=none→g1 r=g r))→(∀r,h r=none→h1 r=none)→(∀q,q<p→g1 (base+q)=g (base+q)∧ρ1 (base+q)=ρ (base+q))→
    (∀q,p+1≤q→q<N→ρ1 (base+q)=ρ (base+q))→(∀r ri,ρ r=some ri→ρ1 r=some ri)→(vB e∧e.leaf=true)→
    (∀ (ρ':Nat→Option RI) (g':Nat→Option gA),(∀ v d,VR w ρ1 (bA outer ρ1 g1) v d→VR w ρ' (bA outer ρ' g') v d)→
     ∃(hl:0<(zA ow base p (e :: es1)).length),VR w ρ' (bA outer ρ' g') (u 0) (zA ow base p (e :: es1))[0])→
    HA ow base (λ_=>none) p (e :: es1) (base+p)=g1 (base+p)→(∀q,q≠p→HA ow base (λ_=>none) p (e :: es1) (base+q)=HA ow base (λ_=>none) (p+1) es1 (base+q))→
    (∀j (hj:j<(zA ow base (p+1) es1).length),∃(hl:j+1<(zA ow base p (e :: es1)).length),(zA ow base p (e :: es1))[j+1]=(zA ow base (p+1) es1)[j])→
    ∃ρ' g',zcy w0 outer own w ow base N p ρ g h h' es u ρ' g'∧es.length=(c :: cs).length:=by
   rintro ρ1 g1 h1 cs1 es1 e lZ nX rfl uZ KZ gY E4 VX I0 T9 QZ he gW C0 RX C6
   obtain⟨ρ',g',T,tV⟩:=SK ow base N cs (p+1) h1 h' cs1 es1 ρ1 g1 (λj=>u (j+1)) lZ nX (by omega) uZ
    (λj hj=>KZ _ _ (hv (j+1) (by simp;omega))) gY (λq hq=>VX _ (KV q hq))
    (λq h1 h2=>by rw[T9 q h1 h2];exact hf q (by omega) h2)
   refine⟨ρ',g',⟨T.heap,T.lies,λr hr=>⟨(T.out r hr).1.trans (E4 r hr).1,λhn=>((T.out r hr).2 (VX r hn)).trans ((E4 r hr).2 hn)⟩,λr hr=>T.less r (VX r hr),λq hq=>?_,λq h1 h2=>?_,λr ri hr=>T.ext _ _ (QZ r ri hr),λv d hd=>T.keep _ _ (KZ _ _ hd),λj hj=>?_,λj hj=>?_⟩,by simp[tV]⟩
   ·obtain⟨b1,b2⟩:=T.before q (by omega);exact⟨b1.trans (I0 q hq).1,b2.trans (I0 q hq).2⟩
   ·by_cases hq:q=p
    ·subst hq;rw[(T.before q (by omega)).1];exact C0.symm
    ·rw[T.new q (by omega) h2,RX q hq]
   ·cases j with
    | zero=>exact(gW ρ' g' T.keep).2
    | succ j=>
     have YV:j<(zA ow base (p+1) es1).length:=by
      rw[SC]at hj⊢;simpa using hj
     obtain⟨_,h2⟩:=C6 j YV;rw[h2];exact T.vals j YV
   ·cases j with
    | zero=>exact he
    | succ j=>exact T.closed j (by simpa using hj)
  simp only[qC]at ht;have WX:ρ (base+p)=none:=hf p (Nat.le_refl _) (by omega)
  have t8:g (base+p)=none:=by
   cases I1:g (base+p)with
   | none=>rfl
   | some row=>obtain⟨ri,h3,_⟩:=hh.rows _ _ I1;rw[WX]at h3;cases h3
  have sY:=hv 0 (by simp);simp only[List.getElem_cons_zero]at sY;cases hb:ow.any (Nat.beq p)
  ·simp only[hb,cond_false]at ht;split at ht
   case h_2=>cases ht
   rename_i c' ids lX;split at ht
   case h_2=>cases ht
   rename_i cs1 h1 lZ;simp only[Option.some.injEq,Prod.mk.injEq]at ht;obtain⟨rfl,rfl⟩:=ht;cases hs with
   | cons NX nX=>
   rename_i e es1;obtain⟨D6,CW⟩:=xR hg lX;simp only at CW;obtain⟨k1,k2⟩:=hh.mark ids;have k3:=MO hh sY D6;have mZ:∀r,h r=none→r∉ids:=λr hn hm=>by obtain⟨row,h5⟩:=CW r hm;rw[hn]at h5;cases h5
   have he:=ZA.closed1 NX k3.2;have hl:zA ow base p (e :: es1)=e :: zA ow base (p+1) es1:=by cases e<;>simp[zA,hb]
   have R2:∀q,HA ow base (λ_=>none) p (e :: es1) q=HA ow base (λ_=>none) (p+1) es1 q:=λq=>by cases e<;>simp[HA,hb]
   refine go ρ (eB g ids) (eB h ids) cs1 es1 e lZ nX rfl k1 k2 (fS hg ids) (λr hr=>⟨rfl,λhn=>?_⟩) (λr hn=>?_) (λq hq=>⟨?_,rfl⟩) (λ_ _ _=>rfl) (λ_ _ h=>h) he (λρ' g' hk=>?_) ?_ (λq hq=>R2 _) (λj hj=>?_)
   ·rw[pD,if_neg (mZ r hn)]
   ·rw[pD,if_neg (mZ r hn)];exact hn
   ·rw[pD,if_neg (mZ _ (KV q (by omega)))]
   ·simp only[hl];exact⟨by simp,(VR.sub NX (hk _ _ k3.1))⟩
   ·rw[R2,CB _ _ _ _ _ (by omega),pD,if_neg (mZ _ (KV p (by omega))),t8]
   ·simp only[hl];exact⟨by simpa using hj,by simp⟩
  ·simp only[hb,cond_true]at ht;split at ht
   ·rename_i r;split at ht
    case h_2=>cases ht
    rename_i t l m sV;cases EV:AB (ZD ow p) t m
    case false=>simp[EV]at ht
    simp only[EV,cond_true]at ht;split at ht
    case h_2=>cases ht
    rename_i cs1 h1 lZ;simp only[Option.some.injEq,Prod.mk.injEq]at ht;obtain⟨rfl,rfl⟩:=ht;cases hs with
    | cons NX nX=>
    rename_i e es1;cases NX;have FV:=TY r _ sV;have F4:g r=some ⟨.arr t l,m⟩:=hg _ _ sV;obtain⟨ri,hρr,_,_⟩:=hh.rows r _ F4;obtain⟨k1,k2⟩:=hh.rename (PC ow p) F4 (DL EV) (zb8 EV) hρr WX;have E6:r≠base+p:=by rintro rfl;exact UV FV
    have hl:zA ow base p (.sl t l :: es1)= .ow (base+p) :: zA ow base (p+1) es1:=by simp[zA,hb]
    refine go _ _ (cA h r none) cs1 es1 (.sl t l) lZ nX rfl k1 k2 (λq row hq=>?_) (λq hq=>⟨kA _ _ _ _ ?_,λhn=>?_⟩) (λq hn=>?_) (λq hq=>⟨?_,kA _ _ _ _ (by omega)⟩) (λq h1 _=>kA _ _ _ _ (by omega))
     (λq qi hq=>by rw[kA];exact hq;rintro rfl;rw[WX]at hq;cases hq) ⟨eH _ _,rfl⟩ (λρ' g' hk=>?_) ?_ (λq hq=>?_) (λj hj=>?_)
    ·by_cases zV:q=r
     ·subst zV;rw[tA]at hq;cases hq
     ·rw[kA _ _ _ _ zV]at hq;have:q≠base+p:=by rintro rfl;exact UV (TY _ _ hq)
      rw[kA _ _ _ _ this,kA _ _ _ _ zV];exact hg _ _ hq
    ·rintro rfl;exact UV hq
    ·have z0:q≠base+p:=by rintro rfl;exact UV hq
     have zV:q≠r:=by rintro rfl;rw[sV]at hn;cases hn
     rw[kA _ _ _ _ z0,kA _ _ _ _ zV]
    ·by_cases zV:q=r
     ·subst zV;exact tA _ _ _
     ·rw[kA _ _ _ _ zV];exact hn
    ·rw[kA _ _ _ _ (by omega),kA];rintro rfl;exact FV ⟨by omega,by omega⟩
    ·simp only[hl];refine⟨by simp,?_⟩
     have:VR w (cA ρ (base+p) (some ri)) (bA outer (cA ρ (base+p) (some ri)) (cA (cA g r none) (base+p) (some ⟨.arr t l,PC ow p⟩))) (u 0) (.ow (base+p)):=by
      rcases sY.ow_inv hρr with⟨e1,e2,e3,e4⟩ | ⟨ao,e1,e2,e3⟩
      ·rw[e1];exact .ow _ ri (tA _ _ _) e3 e4 e2
      ·rw[e1];exact .owN _ ri ao (tA _ _ _) e3 e2
     exact hk _ _ this
    ·simp only[HA,hb,cond_true,tA]
    ·simp only[HA,hb,cond_true];rw[kA _ _ _ _ (by omega)]
    ·simp only[hl];exact⟨by simpa using hj,by simp⟩
   ·split at ht
    case h_2=>cases ht
    rename_i cs1 h1 lZ;simp only[Option.some.injEq,Prod.mk.injEq]at ht;obtain⟨rfl,rfl⟩:=ht;have kY:u 0= .slice none 0 0:=by generalize u 0=x at sY;cases sY;rfl
    cases hs with
    | cons NX nX=>
    rename_i e es1;cases NX with
    | refl=>
     have hl:zA ow base p (.nil :: es1)= .nil :: zA ow base (p+1) es1:=by simp[zA]
     have R2:∀q,HA ow base (λ_=>none) p (.nil :: es1) q=HA ow base (λ_=>none) (p+1) es1 q:=λq=>by simp[HA]
     refine go ρ g h cs1 es1 .nil lZ nX rfl hh (λ_ _ h=>h) hg (λr hr=>⟨rfl,λ_=>rfl⟩) (λ_ h=>h) (λq hq=>⟨rfl,rfl⟩) (λ_ _ _=>rfl) (λ_ _ h=>h) ⟨λ_=> .nil,rfl⟩ (λρ' g' hk=>?_) ?_ (λq hq=>R2 _) (λj hj=>?_)
     ·simp only[hl];exact⟨by simp,by rw[kY];exact .nil⟩
     ·rw[R2,CB _ _ _ _ _ (by omega),t8]
     ·simp only[hl];exact⟨by simpa using hj,by simp⟩
    | nil t=>
     have hl:zA ow base p (.sl t [] :: es1)= .ow (base+p) :: zA ow base (p+1) es1:=by simp[zA,hb]
     obtain⟨k1,k2⟩:=hh.empty t (PC ow p) (mT ow p) WX
     refine go _ _ h cs1 es1 (.sl t []) lZ nX rfl k1 k2 (λq row hq=>?_) (λq hq=>⟨kA _ _ _ _ ?_,λhn=>kA _ _ _ _ ?_⟩) (λ_ h=>h) (λq hq=>⟨kA _ _ _ _ (by omega),kA _ _ _ _ (by omega)⟩) (λq h1 _=>kA _ _ _ _ (by omega))
      (λq qi hq=>by rw[kA];exact hq;rintro rfl;rw[WX]at hq;cases hq) ⟨eH _ _,rfl⟩ (λρ' g' hk=>?_) ?_ (λq hq=>?_) (λj hj=>?_)
     ·rw[kA _ _ _ _ (by rintro rfl;exact UV (TY _ _ hq))];exact hg _ _ hq
     ·rintro rfl;exact UV hq
     ·rintro rfl;exact UV hq
     ·simp only[hl];refine⟨by simp,hk _ _ ?_⟩;rw[kY];exact .owN _ ⟨0,0,0,true⟩ none (tA _ _ _) rfl rfl
     ·simp only[HA,hb,cond_true,tA]
     ·simp only[HA,hb,cond_true];rw[kA _ _ _ _ (by omega)]
     ·simp only[hl];exact⟨by simpa using hj,by simp⟩
   ·rename_i r t0 len;split at ht
    case h_2=>cases ht
    rename_i t l m sV;cases EV:AB (ZD ow p) t m
    case false=>simp[EV]at ht
    simp only[EV,cond_true]at ht;split at ht
    case h_2=>cases ht
    rename_i cs1 h1 hd lZ;have hd:=of_decide_eq_true hd;subst hd;simp only[Option.some.injEq,Prod.mk.injEq]at ht;obtain⟨rfl,rfl⟩:=ht;cases hs with
    | cons NX nX=>
    rename_i e es1;cases NX;have FV:=TY r _ sV;have F4:g r=some ⟨.arr t l,m⟩:=hg _ _ sV;obtain⟨ri,k1,k2,k3⟩:=hh.cut (PC ow p) F4 (DL EV) (zb8 EV) WX sY;have E6:r≠base+p:=by rintro rfl;exact UV FV
    have hl:zA ow base p (.sl t (l.take len) :: es1)= .ow (base+p) :: zA ow base (p+1) es1:=by simp[zA,hb]
    refine go _ _ (cA h r none) cs1 es1 (.sl t (l.take len)) lZ nX rfl k1 k2 (λq row hq=>?_) (λq hq=>⟨kA _ _ _ _ ?_,λhn=>?_⟩) (λq hn=>?_) (λq hq=>⟨?_,kA _ _ _ _ (by omega)⟩) (λq h1 _=>kA _ _ _ _ (by omega))
     (λq qi hq=>by rw[kA];exact hq;rintro rfl;rw[WX]at hq;cases hq) ⟨eH _ _,rfl⟩ (λρ' g' hk=>?_) ?_ (λq hq=>?_) (λj hj=>?_)
    ·by_cases zV:q=r
     ·subst zV;rw[tA]at hq;cases hq
     ·rw[kA _ _ _ _ zV]at hq;have:q≠base+p:=by rintro rfl;exact UV (TY _ _ hq)
      rw[kA _ _ _ _ this,kA _ _ _ _ zV];exact hg _ _ hq
    ·rintro rfl;exact UV hq
    ·have z0:q≠base+p:=by rintro rfl;exact UV hq
     have zV:q≠r:=by rintro rfl;rw[sV]at hn;cases hn
     rw[kA _ _ _ _ z0,kA _ _ _ _ zV]
    ·by_cases zV:q=r
     ·subst zV;exact tA _ _ _
     ·rw[kA _ _ _ _ zV];exact hn
    ·rw[kA _ _ _ _ (by omega),kA];rintro rfl;exact FV ⟨by omega,by omega⟩
    ·simp only[hl];refine⟨by simp,?_⟩;exact hk _ _ k3
    ·simp only[HA,hb,cond_true,tA]
    ·simp only[HA,hb,cond_true];rw[kA _ _ _ _ (by omega)]
    ·simp only[hl];exact⟨by simpa using hj,by simp⟩
   ·cases ht
def zK{bad bad2:Nat→Prop}{ρ2:Nat→Option RI}(ow:List Nat)(B B2:Nat):∀(es:List V) (p:Nat) (u:Nat→Value),
  (∀q,p≤q→q<p+es.length→ow.any (Nat.beq q)=true→(∃t l,es[q - p]?=some (.sl t l))→ρ2 (B2+q)=ρ (B+q))→(∀j (hj:j<es.length),vB es[j])→(∀b,bad2 b→bad b)→
  (∀j (hj:j<(zA ow B p es).length),VR w ρ bad (u j) (zA ow B p es)[j])→∀j (hj:j<(zA ow B2 p es).length),VR w ρ2 bad2 (u j) (zA ow B2 p es)[j]
 | [],p,u,hρ,hc,hb,hv,j,hj=>by simp[zA]at hj
 | e :: es,p,u,hρ,hc,hb,hv,j,hj=>by
  have split1:∀(B:Nat),∃e',zA ow B p (e :: es)=e' :: zA ow B (p+1) es∧(e'=e∨e'= .ow (B+p))∧((∃t l,e= .sl t l∧ow.any (Nat.beq p)=true)→e'= .ow (B+p))∧
    ((¬∃t l,e= .sl t l∧ow.any (Nat.beq p)=true)→e'=e):=λB=>by
   cases e<;>simp only[zA]<;>try exact⟨_,rfl, .inl rfl,λ⟨_,_,h,_⟩=>(by cases h),λ_=>rfl⟩
   rename_i t l;cases hb:ow.any (Nat.beq p)
   ·exact⟨_,rfl, .inl rfl,λ⟨_,_,_,h⟩=>(by cases h),λ_=>rfl⟩
   ·exact⟨_,rfl, .inr rfl,λ_=>rfl,λh=>absurd ⟨t,l,rfl,rfl⟩ h⟩
  obtain⟨e1,s1,_,s2,s3⟩:=split1 B;obtain⟨e2,t1,_,t2,t3⟩:=split1 B2
  have ih:=zK ow B B2 es (p+1) (λj=>u (j+1)) (λq h1 h2 h3 h4=>hρ q (by omega) (by simp;omega) h3 (by
    obtain⟨t,l,h4⟩:=h4;exact⟨t,l,by rw[show q - p=(q - (p+1))+1 by omega,List.getElem?_cons_succ];exact h4⟩)) (λj hj=>hc (j+1) (by simp;omega)) hb
   (fun j hj=>by
    have:=hv (j+1) (by rw[s1];simp;omega);simpa[s1]using this)
  simp only[t1]at hj⊢;cases j with
  | succ j=>exact ih j (by simpa using hj)
  | zero=>
   have gW:=hv 0 (by rw[s1];simp);simp only[s1,List.getElem_cons_zero]at gW⊢
   by_cases hs:∃t l,e= .sl t l∧ow.any (Nat.beq p)=true
   ·rw[s2 hs]at gW;rw[t2 hs];have hq:=hρ p (Nat.le_refl _) (by simp) (by obtain⟨_,_,_,h⟩:=hs;exact h) (by obtain⟨t,l,h,_⟩:=hs;exact⟨t,l,by simp[h]⟩);generalize u 0=u0 at gW;cases gW with
    | ow _ ri h1 h2 h3 h4=>exact .ow _ ri (by rw[hq];exact h1) h2 h3 h4
    | owN _ ri ao h1 h2 h3=>exact .owN _ ri ao (by rw[hq];exact h1) h2 h3
   ·rw[s3 hs]at gW;rw[t3 hs];exact(gW.noRef (hc 0 (by simp)) ρ2).mono (λ_ _ h=>h) (λ_ _ _=>rfl) λb h=> .inl (hb b h)
def EA.reread(hh:EA w0 outer own ρ h w){r:Nat}{cs es:List V}{m:cB}(hr:h r=some ⟨.box cs,m⟩)(tV:es.length=cs.length)
  (hv:∀ri,ρ r=some ri→∀j (hj:j<es.length),VR w ρ (bA outer ρ h) ((w.cell? (iA ri.b j)).getD undef) es[j]):
  EA w0 outer own ρ (cA h r (some ⟨.box es,m⟩)) w∧∀u d,VR w ρ (bA outer ρ h) u d→VR w ρ (bA outer ρ (cA h r (some ⟨.box es,m⟩))) u d:=by
 have uV:∀b,bA outer ρ (cA h r (some ⟨.box es,m⟩)) b→bA outer ρ h b:=λb hb=>hb.mono λq row' h1 h2=>by
  by_cases hq:q=r
  ·subst hq;rw[tA]at h1;cases h1;exact⟨_,hr,h2⟩
  ·rw[kA _ _ _ _ hq]at h1;exact⟨row',h1,h2⟩
 have hk:∀u d,VR w ρ (bA outer ρ h) u d→VR w ρ (bA outer ρ (cA h r (some ⟨.box es,m⟩))) u d:=λu d hu=>hu.mono (λ_ _ h=>h) (λ_ _ _=>rfl) λb hb=> .inl (uV b hb)
 have old:∀q row,cA h r (some ⟨.box es,m⟩) q=some row→∃row',h q=some row'∧(q=r∧row=⟨.box es,m⟩∨row=row'):=λq row hq=>by
  by_cases zV:q=r
  ·subst zV;rw[tA]at hq;cases hq;exact⟨_,hr, .inl ⟨rfl,rfl⟩⟩
  ·rw[kA _ _ _ _ zV]at hq;exact⟨row,hq, .inr rfl⟩
 refine⟨⟨hh.wx,hh.old,hh.outLt,λq row hq=>?_,λq q' row row' qi qi' h1 h2 h3 h4=>?_,?_⟩,hk⟩
 rotate_right
 ·refine hh.dep.keep (λq t l m' qi h1 LW h2 h3=>?_) (λ_ _ _=>rfl) (λb hb=> .inl (uV b hb)) λ_ h=>h;obtain⟨row',g1,g2⟩:=old q _ h1
  rcases g2 with⟨_,g2⟩ | rfl
  ·cases g2
  ·exact⟨q,m',g1,LW,h2,rfl⟩
 ·obtain⟨row',h1,h2⟩:=old q row hq;obtain⟨ri,h3,h4,h5⟩:=hh.rows q row' h1
  have S5:ri.nl=false→(¬outer ri.b∧(row.m.isRo=false→w0.heap.size≤ri.b∨own ri.b))∧ri.b<w.heap.size:=by
   rcases h2 with⟨rfl,rfl⟩ | rfl
   ·rw[hr]at h1;cases h1;exact h5
   ·exact h5
  refine⟨ri,h3,?_,S5⟩
  rcases h2 with⟨rfl,rfl⟩ | rfl
  ·rw[hr]at h1;cases h1;refine⟨h4.1,λj hj=>?_⟩;obtain⟨f1,u,f2,_⟩:=h4.2 j (by omega);refine⟨f1,u,f2,?_⟩;have:=hv ri h3 j hj;rw[f2]at this;exact hk _ _ this
  ·exact h4.keep (λ_=>rfl) hk
 ·obtain⟨_,g1,_⟩:=old q row h1;obtain⟨_,g2,_⟩:=old q' row' h2;exact hh.inj q q' _ _ qi qi' g1 g2 h3 h4
end
end Go.D
namespace Go.D
variable [aA]
def pA:List IA→Nat→List V→Nat→Option gA
 | .plain :: ks,k,_ :: as=>pA ks (k+1) as
 | .ptr ow :: ks,k, .agg cs :: as=>cA (HA ow (128 *k) (pA ks (k+1) as) 0 cs) (128 *k+127) (some ⟨.box (zA ow (128 *k) 0 cs), .own⟩)
 | .mv ow :: ks,k, .agg cs :: as=>HA ow (128 *k) (pA ks (k+1) as) 0 cs
 | .ms :: ks,k,v :: as=>HA [0] (128 *k) (pA ks (k+1) as) 0 [v]
 | _,_,_=>λ_=>none
def UA:List IA→Nat→List V→List V
 | .plain :: ks,k,v :: as=>v :: UA ks (k+1) as
 | .ptr _ :: ks,k,_ :: as=> .bp (128 *k+127) 0 :: UA ks (k+1) as
 | .mv ow :: ks,k, .agg cs :: as=> .agg (zA ow (128 *k) 0 cs) :: UA ks (k+1) as
 | .ms :: ks,k,v :: as=>YQ (128 *k) v :: UA ks (k+1) as
 | _,_,_=>[]
def NA:List IA→Nat→List Nat→Nat→Option Nat
 | .plain :: ks,k,bs,q=>NA ks (k+1) bs q
 | .ptr _ :: ks,k,b :: bs,q=>if q=128 *k+127 then some b else NA ks (k+1) bs q
 | .mv _ :: ks,k,bs,q=>NA ks (k+1) bs q
 | .ms :: ks,k,bs,q=>NA ks (k+1) bs q
 | _,_,_,_=>none
omit [aA]in
def iD:∀(ks:List IA) (k:Nat) (bs:List Nat) (q b:Nat),NA ks k bs q=some b→128 *k+127≤q∧q % 128=127∧b∈bs
 | [],k,bs,q,b,h=>by simp[NA]at h
 | .plain :: ks,k,bs,q,b,h=>by
  simp only[NA]at h;obtain⟨h1,h2,h3⟩:=iD ks (k+1) bs q b h;exact⟨by omega,h2,h3⟩
 | .mv ow :: ks,k,bs,q,b,h=>by
  simp only[NA]at h;obtain⟨h1,h2,h3⟩:=iD ks (k+1) bs q b h;exact⟨by omega,h2,h3⟩
 | .ms :: ks,k,bs,q,b,h=>by
  simp only[NA]at h;obtain⟨h1,h2,h3⟩:=iD ks (k+1) bs q b h;exact⟨by omega,h2,h3⟩
 | .ptr ow :: ks,k,[],q,b,h=>by simp[NA]at h
 | .ptr ow :: ks,k,c :: bs,q,b,h=>by
  simp only[NA]at h;split at h
  ·cases h;exact⟨by omega,by omega,by simp⟩
  ·obtain⟨h1,h2,h3⟩:=iD ks (k+1) bs q b h;exact⟨by omega,h2,by simp[h3]⟩
omit [aA]in
def VK:∀(ks:List IA) (k:Nat) (bs:List Nat) (q q' b:Nat),bs.Nodup→NA ks k bs q=some b→NA ks k bs q'=some b→q=q'
 | [],k,bs,q,q',b,hn,h,h'=>by simp[NA]at h
 | .plain :: ks,k,bs,q,q',b,hn,h,h'=>VK ks (k+1) bs q q' b hn h h'
 | .mv ow :: ks,k,bs,q,q',b,hn,h,h'=>VK ks (k+1) bs q q' b hn h h'
 | .ms :: ks,k,bs,q,q',b,hn,h,h'=>VK ks (k+1) bs q q' b hn h h'
 | .ptr ow :: ks,k,[],q,q',b,hn,h,h'=>by simp[NA]at h
 | .ptr ow :: ks,k,c :: bs,q,q',b,hn,h,h'=>by
  simp only[NA]at h h';simp only[List.nodup_cons]at hn;split at h<;>split at h'
  ·omega
  ·cases h;exact absurd (iD _ _ _ _ _ h').2.2 hn.1
  ·cases h';exact absurd (iD _ _ _ _ _ h).2.2 hn.1
  ·exact VK ks (k+1) bs q q' b hn.2 h h'
omit [aA]in
def dN:∀(ks:List IA) (k:Nat) (bs:List Nat) (q b:Nat),NA ks k bs q=some b→q<128 *(k+ks.length)
 | [],k,bs,q,b,h=>by simp[NA]at h
 | .plain :: ks,k,bs,q,b,h=>by
  simp only[NA]at h;have:=dN ks (k+1) bs q b h;simp;omega
 | .mv ow :: ks,k,bs,q,b,h=>by
  simp only[NA]at h;have:=dN ks (k+1) bs q b h;simp;omega
 | .ms :: ks,k,bs,q,b,h=>by
  simp only[NA]at h;have:=dN ks (k+1) bs q b h;simp;omega
 | .ptr ow :: ks,k,[],q,b,h=>by simp[NA]at h
 | .ptr ow :: ks,k,c :: bs,q,b,h=>by
  simp only[NA]at h;split at h
  ·simp;omega
  ·have:=dN ks (k+1) bs q b h;simp;omega
omit [aA]in
def sK(ow:List Nat)(B B2:Nat):∀(es:List V) (p q:Nat),HA ow B (λ_=>none) p es (B+q)=HA ow B2 (λ_=>none) p es (B2+q)
 | [],p,q=>rfl
 | e :: es,p,q=>by
  have ih:=sK ow B B2 es (p+1) q;cases e<;>simp only[HA]<;>try exact ih
  cases hb:ow.any (Nat.beq p)
  ·simpa using ih
  ·simp only[cond_true]
   by_cases hq:q=p
   ·subst hq;rw[tA,tA]
   ·rw[kA _ _ _ _ (by omega),kA _ _ _ _ (by omega)];exact ih
omit [aA]in
def UB(ow:List Nat)(B:Nat):∀(es:List V) (p r:Nat) (row:gA),HA ow B (λ_=>none) p es r=some row→∃t l,row=⟨.arr t l,PC ow (r - B)⟩∧B+p≤r∧r<B+p+es.length
 | [],p,r,row,h=>by simp[HA]at h
 | e :: es,p,r,row,h=>by
  have ih:=UB ow B es (p+1) r row
  have nx:HA ow B (λ_=>none) (p+1) es r=some row→∃t l,row=⟨.arr t l,PC ow (r - B)⟩∧B+p≤r∧r<B+p+(e :: es).length:=λh=>by
   obtain⟨t,l,h1,h2,h3⟩:=ih h;exact⟨t,l,h1,by omega,by simp;omega⟩
  cases e<;>simp only[HA]at h<;>try exact nx h
  cases hb:ow.any (Nat.beq p)
  ·simp only[hb,cond_false]at h;exact nx h
  ·simp only[hb,cond_true]at h
   by_cases hr:r=B+p
   ·subst hr;rw[tA]at h;cases h;exact⟨_,_,by rw[Nat.add_sub_cancel_left],Nat.le_refl _,by simp⟩
   ·rw[kA _ _ _ _ hr]at h;exact nx h
omit [aA]in
def SO(ow:List Nat)(B:Nat):∀(es:List V) (p q:Nat) (t:TN) (l:List (El t)),p≤q→es[q - p]?=some (.sl t l)→ow.any (Nat.beq q)=true→HA ow B (λ_=>none) p es (B+q)=some ⟨.arr t l,PC ow q⟩
 | [],p,q,t,l,hp,he,ho=>by simp at he
 | e :: es,p,q,t,l,hp,he,ho=>by
  by_cases hq:q=p
  ·subst hq;simp at he;subst he;simp only[HA,ho,cond_true,tA]
  ·have ih:=SO ow B es (p+1) q t l (by omega) (by rw[show q - p=(q - (p+1))+1 by omega,List.getElem?_cons_succ]at he;exact he) ho;cases e<;>simp only[HA]<;>try exact ih
   cases hb:ow.any (Nat.beq p)
   ·simpa using ih
   ·simp only[cond_true];rw[kA _ _ _ _ (by omega)];exact ih
section
variable {C:Cx} {w0:World} {outer:Nat→Prop} {own:Ow} {ρ:Nat→Option RI} {st st':St} {a:Act} {w:World} {h:Nat→Option gA}
inductive WD(w:World)(ρ:Nat→Option RI)(bad:Nat→Prop)(g:Nat→Option gA)(N0:Nat):List IA→Nat→List V→List Nat→(Nat→Value)→Prop
 | nil (k:Nat) (u:Nat→Value):WD w ρ bad g N0 [] k [] [] u
 | plain {ks:List IA} {k:Nat} {v:V} {as:List V} {bs:List Nat} {u:Nat→Value} (hv:VR w ρ bad (u 0) v) (hn:vB v) (hr:WD w ρ bad g N0 ks (k+1) as bs λj=>u (j+1)):
   WD w ρ bad g N0 (.plain :: ks) k (v :: as) bs u
 | ptr {ow:List Nat} {ks:List IA} {k b:Nat} {cs as:List V} {bs:List Nat} {u:Nat→Value} (ri:RI) (hρ:ρ b=some ri) (CV:ri.nl=false) (hu:u 0= .pointer (some (iA ri.b 0)))
   (hg:g b=some ⟨.box (zA ow (N0+128 *k) 0 cs), .own⟩) (hl:cs.length≤127) (hq:∀q,q<128→g (N0+128 *k+q)=HA ow (N0+128 *k) (λ_=>none) 0 cs (N0+128 *k+q))
   (hc:∀j (hj:j<cs.length),vB cs[j]∧(cs[j]).leaf=true) (hb:b<N0) (hr:WD w ρ bad g N0 ks (k+1) as bs λj=>u (j+1)):
   WD w ρ bad g N0 (.ptr ow :: ks) k (.agg cs :: as) (b :: bs) u
 | mv {ow:List Nat} {ks:List IA} {k:Nat} {cs as:List V} {bs:List Nat} {u:Nat→Value} (hv:VR w ρ bad (u 0) (.agg (zA ow (N0+128 *k) 0 cs)))
   (hl:cs.length≤127) (hq:∀q,q<128→g (N0+128 *k+q)=HA ow (N0+128 *k) (λ_=>none) 0 cs (N0+128 *k+q))
   (hc:∀j (hj:j<cs.length),vB cs[j]∧(cs[j]).leaf=true) (hr:WD w ρ bad g N0 ks (k+1) as bs λj=>u (j+1)):
   WD w ρ bad g N0 (.mv ow :: ks) k (.agg cs :: as) bs u
 | ms {ks:List IA} {k:Nat} {v:V} {as:List V} {bs:List Nat} {u:Nat→Value} (hv:VR w ρ bad (u 0) (YQ (N0+128 *k) v))
   (hq:∀q,q<128→g (N0+128 *k+q)=HA [0] (N0+128 *k) (λ_=>none) 0 [v] (N0+128 *k+q))
   (hc:vB v∧v.leaf=true) (hr:WD w ρ bad g N0 ks (k+1) as bs λj=>u (j+1)):
   WD w ρ bad g N0 (.ms :: ks) k (v :: as) bs u
omit [aA]in
def ZA.rfl':∀(cs:List V),ZA cs cs
 | []=> .nil
 | c :: cs=> .cons (.refl c) (ZA.rfl' cs)
omit [aA]in
def AR{ow:List Nat}{ks:List IA}{v:V}{vs:List V}{x:List V×(Nat→Option gA)×List Nat}(ht:kB (.ptr ow :: ks) (v :: vs) h=some x):∃r,v= .bp r 0:=by
 unfold kB at ht;split at ht
 ·simp_all
 ·simp_all
 ·rename_i e1 e2;simp only[List.cons.injEq]at e2;exact⟨_,e2.1⟩
 ·simp_all
 ·simp_all
 ·cases ht
omit [aA]in
def IR{ow:List Nat}{ks:List IA}{v:V}{vs:List V}{x:List V×(Nat→Option gA)×List Nat}(ht:kB (.mv ow :: ks) (v :: vs) h=some x):∃cs,v= .agg cs:=by
 unfold kB at ht;split at ht
 ·simp_all
 ·simp_all
 ·simp_all
 ·rename_i e1 e2;simp only[List.cons.injEq]at e2;exact⟨_,e2.1⟩
 ·simp_all
 ·cases ht
def XM(N0:Nat):∀(ks:List IA) (as:List V) (h h':Nat→Option gA) (as':List V) (bs:List Nat) (k:Nat) (ρ:Nat→Option RI) (g:Nat→Option gA) (u:Nat→Value),
  kB ks as h=some (as',h',bs)→EA w0 outer own ρ g w→(∀j (hj:j<as.length),VR w ρ (bA outer ρ g) (u j) as[j])→OE h g→(∀r,N0+128 *k≤r→ρ r=none)→(∀r,N0≤r→h r=none)→
  ∃ρ' g',EA w0 outer own ρ' g' w∧OE h' g'∧(∀r,h r=none→h' r=none)∧(∀r,h r=none→r<N0+128 *k→g' r=g r)∧(∀r ri,ρ r=some ri→ρ' r=some ri)∧
   (∀v d,VR w ρ (bA outer ρ g) v d→VR w ρ' (bA outer ρ' g') v d)∧WD w ρ' (bA outer ρ' g') g' N0 ks k as' bs u∧
   (∀b∈bs,h' b=none∧h b≠none)∧bs.Nodup∧as.length=ks.length∧(∀r,r<N0→ρ' r=ρ r)
 | [],[],h,h',as',bs,k,ρ,g,u,ht,hh,hv,hg,hf,hN=>by
  simp only[kB,Option.some.injEq,Prod.mk.injEq]at ht;obtain⟨rfl,rfl,rfl⟩:=ht;exact⟨ρ,g,hh,hg,λ_ h=>h,λ_ _ _=>rfl,λ_ _ h=>h,λ_ _ h=>h, .nil _ _,λb hb=>by simp at hb,by simp,rfl,λ_ _=>rfl⟩
 | [],_ :: _,h,h',as',bs,k,ρ,g,u,ht,hh,hv,hg,hf,hN=>by simp[kB]at ht
 | .plain :: ks,[],h,h',as',bs,k,ρ,g,u,ht,hh,hv,hg,hf,hN=>by simp[kB]at ht
 | .ptr _ :: ks,[],h,h',as',bs,k,ρ,g,u,ht,hh,hv,hg,hf,hN=>by simp[kB]at ht
 | .mv _ :: ks,[],h,h',as',bs,k,ρ,g,u,ht,hh,hv,hg,hf,hN=>by simp[kB]at ht
 | .ms :: ks,[],h,h',as',bs,k,ρ,g,u,ht,hh,hv,hg,hf,hN=>by simp[kB]at ht
 | .plain :: ks,v :: vs,h,h',as',bs,k,ρ,g,u,ht,hh,hv,hg,hf,hN=>by
  simp only[kB]at ht;split at ht
  ·cases ht
  rename_i v' ids lX;split at ht
  ·cases ht
  rename_i as2 h2 bs2 UY;simp only[Option.some.injEq,Prod.mk.injEq]at ht;obtain⟨rfl,rfl,rfl⟩:=ht;obtain⟨k1,k2⟩:=za8 hg lX;have k2:∀r∈ids,∃row,h r=some row:=k2;obtain⟨m1,m2⟩:=hh.mark ids;obtain⟨f1,f2⟩:=wT hh (hv 0 (by simp)) k1;have mZ:∀r,h r=none→r∉ids:=λr hn hm=>by obtain⟨row,h5⟩:=k2 r hm;rw[hn]at h5;cases h5
  have G4:∀r,h r=none→eB h ids r=none:=λr hn=>by rw[pD,if_neg (mZ r hn)];exact hn
  obtain⟨ρ',g',c1,c2,c3,c4,c5,c6,c7,c8,c9,c10,c11⟩:=XM N0 ks vs (eB h ids) h2 as2 bs2 (k+1) ρ (eB g ids) (λj=>u (j+1)) UY m1
   (λj hj=>m2 _ _ (hv (j+1) (by simp;omega))) (fS hg ids) (λr hr=>hf r (by omega)) (λr hr=>G4 r (hN r hr))
  refine⟨ρ',g',c1,c2,λr hr=>c3 r (G4 r hr),λr hr hk=>?_,c5,λv d hd=>c6 _ _ (m2 _ _ hd), .plain (c6 _ _ f1) f2 c7,λb hb=>?_,c9,by simp[c10],c11⟩
  ·rw[c4 r (G4 r hr) (by omega),pD,if_neg (mZ r hr)]
  ·obtain⟨d1,d2⟩:=c8 b hb;exact⟨d1,λhn=>d2 (G4 b hn)⟩
 | .ptr ow :: ks,v :: vs,h,h',as',bs,k,ρ,g,u,ht,hh,hv,hg,hf,hN=>by
  obtain⟨r,rfl⟩:=AR ht;simp only[kB]at ht;split at ht
  case h_2=>cases ht
  rename_i cs sV;cases JV:Nat.ble cs.length 127
  case false=>simp[JV]at ht
  simp only[JV,cond_true]at ht;have JV:=Nat.le_of_ble_eq_true JV;split at ht
  ·cases ht
  rename_i cs' h1 AZ;split at ht
  ·cases ht
  rename_i as2 h2 bs2 UY;simp only[Option.some.injEq,Prod.mk.injEq]at ht;obtain⟨rfl,rfl,rfl⟩:=ht
  have U9:r<N0:=by
   rcases Nat.lt_or_ge r N0 with h3 | h3
   ·exact h3
   ·rw[hN r h3]at sV;cases sV
  have v8:=hg _ _ sV;have gW:=hv 0 (by simp);simp only[List.getElem_cons_zero]at gW;obtain⟨ri,hρ,FV,_⟩:=hh.rows r _ v8
  have kY:u 0= .pointer (some (iA ri.b 0))∧ri.nl=false:=by
   generalize u 0=x at gW;cases gW with
   | bp _ _ ri' h3 h4=>rw[hρ]at h3;cases h3;exact⟨rfl,h4⟩
  have yV:∀q,h q=none→cA h r none q=none:=λq hq=>by
   by_cases zV:q=r
   ·subst zV;exact tA _ _ _
   ·rw[kA _ _ _ _ zV];exact hq
  obtain⟨ρ1,g1,T,tV⟩:=SK ow (N0+128 *k) 128 cs 0 (cA h r none) h1 cs' cs' ρ g (λj=>(w.cell? (iA ri.b j)).getD undef) AZ (ZA.rfl' _) (by omega) hh
   (λj hj=>by obtain⟨_,x,f1,f2⟩:=FV.2 j hj;rw[f1];exact f2)
   (fun q row hq=>by
    by_cases zV:q=r
    ·subst zV;rw[tA]at hq;cases hq
    ·rw[kA _ _ _ _ zV]at hq;exact hg _ _ hq)
   (λq hq=>yV _ (hN _ (by omega))) (λq _ _=>hf _ (by omega))
  have S2:Out (N0+128 *k) 128 r:=λh3=>by omega
  have F6:g1 r=some ⟨.box cs, .own⟩:=by rw[(T.out r S2).2 (tA _ _ _)];exact v8
  have hρ1:ρ1 r=some ri:=T.ext _ _ hρ;obtain⟨n1,n2⟩:=T.heap.reread F6 (es:=zA ow (N0+128 *k) 0 cs') (by rw[SC];exact tV) (λri' h3 j hj=>by rw[hρ1]at h3;cases h3;exact T.vals j hj);have BZ:h1 r=none:=T.less r (tA _ _ _)
  obtain⟨ρ',g',c1,c2,c3,c4,c5,c6,c7,c8,c9,c10,c11⟩:=XM N0 ks vs h1 h2 as2 bs2 (k+1) ρ1 _ (λj=>u (j+1)) UY n1
   (λj hj=>n2 _ _ (T.keep _ _ (hv (j+1) (by simp;omega))))
   (fun q row hq=>by
    have zV:q≠r:=by rintro rfl;rw[BZ]at hq;cases hq
    rw[kA _ _ _ _ zV];exact T.lies _ _ hq)
   (λq hq=>by rw[(T.out q (λh3=>by omega)).1];exact hf q (by omega)) (λq hq=>T.less q (yV q (hN q hq)))
  have VV:∀q,h q=none→q<N0+128 *k→Out (N0+128 *k) 128 q:=λq _ h3 h4=>by omega
  refine⟨ρ',g',c1,c2,λq hq=>c3 q (T.less q (yV q hq)),λq hq hk=>?_,λq qi hq=>c5 _ _ (T.ext _ _ hq),λv d hd=>c6 _ _ (n2 _ _ (T.keep _ _ hd)),
   .ptr ri (c5 _ _ hρ1) kY.2 kY.1 ?_ (by omega) (λq hq=>?_) T.closed U9 c7,λb hb=>?_,?_,by simp[c10],λq hq=>?_⟩
  ·have zV:q≠r:=by rintro rfl;rw[sV]at hq;cases hq
   rw[c4 q (T.less q (yV q hq)) (by omega),kA _ _ _ _ zV,(T.out q (VV q hq hk)).2 (yV q hq)]
  ·rw[c4 r BZ (by omega),tA]
  ·rw[c4 _ (T.less _ (yV _ (hN _ (by omega)))) (by omega),kA _ _ _ _ (by omega),T.new q (by omega) hq]
  ·rcases List.mem_cons.1 hb with rfl | hb
   ·exact⟨c3 _ BZ,by rw[sV];simp⟩
   ·obtain⟨d1,d2⟩:=c8 b hb;exact⟨d1,λhn=>d2 (T.less b (yV b hn))⟩
  ·refine List.nodup_cons.2 ⟨λhm=>(c8 r hm).2 BZ,c9⟩
  ·rw[c11 q hq,(T.out q (λh3=>by omega)).1]
 | .mv ow :: ks,v :: vs,h,h',as',bs,k,ρ,g,u,ht,hh,hv,hg,hf,hN=>by
  obtain⟨cs,rfl⟩:=IR ht;simp only[kB]at ht;cases JV:Nat.ble cs.length 127
  case false=>simp[JV]at ht
  simp only[JV,cond_true]at ht;have JV:=Nat.le_of_ble_eq_true JV;split at ht
  ·cases ht
  rename_i cs' h1 AZ;split at ht
  ·cases ht
  rename_i as2 h2 bs2 UY;simp only[Option.some.injEq,Prod.mk.injEq]at ht;obtain⟨rfl,rfl,rfl⟩:=ht;have gW:=hv 0 (by simp);simp only[List.getElem_cons_zero]at gW
  obtain⟨vsA,kY,xV,E5⟩:∃vsA:Array Value,u 0= .agg vsA∧vsA.size=cs.length∧∀j (hj:j<cs.length),VR w ρ (bA outer ρ g) (vsA.getD j undef) cs[j]:=by
   generalize u 0=x at gW;cases gW with
   | agg _ vsA h1 h2=>exact⟨vsA,rfl,h1,h2⟩
  obtain⟨ρ1,g1,T,tV⟩:=SK ow (N0+128 *k) 128 cs 0 h h1 cs' cs' ρ g (λj=>vsA.getD j undef) AZ (ZA.rfl' _) (by omega) hh E5 hg
   (λq hq=>hN _ (by omega)) (λq _ _=>hf _ (by omega))
  obtain⟨ρ',g',c1,c2,c3,c4,c5,c6,c7,c8,c9,c10,c11⟩:=XM N0 ks vs h1 h2 as2 bs2 (k+1) ρ1 g1 (λj=>u (j+1)) UY T.heap
   (λj hj=>T.keep _ _ (hv (j+1) (by simp;omega))) T.lies
   (λq hq=>by rw[(T.out q (λh3=>by omega)).1];exact hf q (by omega)) (λq hq=>T.less q (hN q hq))
  have VV:∀q,h q=none→q<N0+128 *k→Out (N0+128 *k) 128 q:=λq _ h3 h4=>by omega
  refine⟨ρ',g',c1,c2,λq hq=>c3 q (T.less q hq),λq hq hk=>?_,λq qi hq=>c5 _ _ (T.ext _ _ hq),λv d hd=>c6 _ _ (T.keep _ _ hd),
   .mv ?_ (by omega) (λq hq=>?_) T.closed c7,λb hb=>?_,c9,by simp[c10],λq hq=>?_⟩
  ·rw[c4 q (T.less q hq) (by omega),(T.out q (VV q hq hk)).2 hq]
  ·rw[kY];refine .agg _ _ (by rw[SC,xV,tV]) λj hj=>?_;exact c6 _ _ (T.vals j hj)
  ·rw[c4 _ (T.less _ (hN _ (by omega))) (by omega),T.new q (by omega) hq]
  ·obtain⟨d1,d2⟩:=c8 b hb;exact⟨d1,λhn=>d2 (T.less b hn)⟩
  ·rw[c11 q hq,(T.out q (λh3=>by omega)).1]
 | .ms :: ks,v :: vs,h,h',as',bs,k,ρ,g,u,ht,hh,hv,hg,hf,hN=>by
  simp only[kB]at ht;split at ht
  case h_2=>cases ht
  rename_i v' h1 AZ;split at ht
  ·cases ht
  rename_i as2 h2 bs2 UY;simp only[Option.some.injEq,Prod.mk.injEq]at ht;obtain⟨rfl,rfl,rfl⟩:=ht;have gW:=hv 0 (by simp);simp only[List.getElem_cons_zero]at gW
  obtain⟨ρ1,g1,T,tV⟩:=SK [0] (N0+128 *k) 128 [v] 0 h h1 [v'] [v'] ρ g u AZ (ZA.rfl' _) (by simp) hh (λj hj=>by
    obtain rfl:j=0:=by simpa using hj
    exact gW) hg
   (λq hq=>hN _ (by omega)) (λq _ _=>hf _ (by omega))
  obtain⟨ρ',g',c1,c2,c3,c4,c5,c6,c7,c8,c9,c10,c11⟩:=XM N0 ks vs h1 h2 as2 bs2 (k+1) ρ1 g1 (λj=>u (j+1)) UY T.heap
   (λj hj=>T.keep _ _ (hv (j+1) (by simp;omega))) T.lies
   (λq hq=>by rw[(T.out q (λh3=>by omega)).1];exact hf q (by omega)) (λq hq=>T.less q (hN q hq))
  have VV:∀q,h q=none→q<N0+128 *k→Out (N0+128 *k) 128 q:=λq _ h3 h4=>by omega
  refine⟨ρ',g',c1,c2,λq hq=>c3 q (T.less q hq),λq hq hk=>?_,λq qi hq=>c5 _ _ (T.ext _ _ hq),λv d hd=>c6 _ _ (T.keep _ _ hd),
   .ms ?_ (λq hq=>?_) (T.closed 0 (by simp)) c7,λb hb=>?_,c9,by simp[c10],λq hq=>?_⟩
  ·rw[c4 q (T.less q hq) (by omega),(T.out q (VV q hq hk)).2 hq]
  ·have:=T.vals 0 (by rw[SC];simp);simp only[WM,List.getElem_cons_zero]at this;exact c6 _ _ this
  ·rw[c4 _ (T.less _ (hN _ (by omega))) (by omega),T.new q (by omega) hq]
  ·obtain⟨d1,d2⟩:=c8 b hb;exact⟨d1,λhn=>d2 (T.less b hn)⟩
  ·rw[c11 q hq,(T.out q (λh3=>by omega)).1]
end
end Go.D
namespace Go.D
variable [aA]
def MT(P:Program)(f:Nat)(args:Array Value)(w:World)(post:Value→World→Prop):Prop:=
 ((callFunc f args).run P w= .ok (.enter f args) w∧Calls P f args w λe w'=>∃v,e= .returned v∧post v w')∨
 ∃v w',(callFunc f args).run P w= .ok (.value v) w'∧post v w'
def oD(ks:List IA)(as:List V)(bs:List Nat)(ow:List Nat)(base:Nat)(shape:List (Bool×Nat))(rs:List V):Nat→Option gA:=
 RA ks as bs ((zA ow base 0 rs).drop (iH shape)) (HA ow base (λ_=>none) 0 rs)
def fC(ci:RB)(as:List V)(bs:List Nat)(base:Nat)(rs:List V):Nat→Option gA:=
 bif ci.pb then cA (λ_=>none) base (some ⟨.box rs, .own⟩)else oD ci.ks as bs ci.own base ci.shape rs
def nA(P:Program)(f:Nat)(ci:RB)(g:Gl:=IB):Prop:=
 ci.ks.all IA.noTre=true∧∀(w:World) (args:Array Value) (as:List V) (outer:Nat→Prop) (own:Ow) (ρ:Nat→Option RI) (a:ci.A) (r:ci.R) (base:Nat) (bs:List Nat),
  args.size=ci.ks.length→(UA ci.ks 0 as).length=ci.ks.length→EA w outer own ρ (pA ci.ks 0 as) w→
  (∀j (hj:j<(UA ci.ks 0 as).length),VR w ρ (bA outer ρ (pA ci.ks 0 as)) (args.getD j undef) (UA ci.ks 0 as)[j])→(∀q,pA ci.ks 0 as q=none→ρ q=none)→
  bs.Nodup→(∀b∈bs,Out base 128 b)→ci.dA as=some a→ci.F a=some r→(ci.eR r).length≤128→RL g own w→
  MT P f args w λv w'=>∃ρ',EA w outer own ρ' (fC ci as bs base (ci.eR r)) w'∧
   VR w' ρ' (bA outer ρ' (fC ci as bs base (ci.eR r))) v (HF ci base (ci.eR r))∧
   (∀q b,NA ci.ks 0 bs q=some b→ρ' b=ρ q)∧(∀r,ρ' r≠none→(base≤r∧r<base+128)∨r∈bs)
omit [aA]in
def zcu{ow:List Nat}(h:noTre ow=true)(p:Nat):PC ow p= .own:=by
 unfold PC
 have:ZD ow p=false:=by
  unfold ZD;rw[List.any_eq_false];intro q hq hb;have h1:=Nat.le_of_ble_eq_true (List.all_eq_true.1 h q hq);have h2:=Nat.eq_of_beq_eq_true hb;omega
 rw[this];rfl
omit [aA]in
def EK:∀(ks:List IA) (k:Nat) (as:List V) (q:Nat) (row:gA),ks.all IA.noTre=true→pA ks k as q=some row→row.m= .own
 | [],k,as,q,row,hn,h=>by cases as<;>simp[pA]at h
 | .plain :: ks,k,[],q,row,hn,h=>by simp[pA]at h
 | .plain :: ks,k,a :: as,q,row,hn,h=>by
  simp only[List.all_cons,Bool.and_eq_true]at hn;exact EK ks (k+1) as q row hn.2 (by simpa only[pA]using h)
 | .mv ow :: ks,k,[],q,row,hn,h=>by simp[pA]at h
 | .mv ow :: ks,k,a :: as,q,row,hn,h=>by
  simp only[List.all_cons,Bool.and_eq_true]at hn;cases a<;>simp only[pA]at h<;>try (cases h;done)
  rw[PA]at h;split at h
  ·rename_i x hx;obtain⟨_,_,h0,_⟩:=UB _ _ _ _ _ _ hx;cases h;rw[h0];exact zcu hn.1 _
  ·exact EK ks (k+1) as q row hn.2 h
 | .ms :: ks,k,[],q,row,hn,h=>by simp[pA]at h
 | .ms :: ks,k,a :: as,q,row,hn,h=>by
  simp only[List.all_cons,Bool.and_eq_true]at hn;simp only[pA]at h;rw[PA]at h;split at h
  ·rename_i x hx;obtain⟨_,_,h0,_⟩:=UB _ _ _ _ _ _ hx;cases h;rw[h0];rfl
  ·exact EK ks (k+1) as q row hn.2 h
 | .ptr ow :: ks,k,[],q,row,hn,h=>by simp[pA]at h
 | .ptr ow :: ks,k,a :: as,q,row,hn,h=>by
  simp only[List.all_cons,Bool.and_eq_true]at hn;cases a<;>simp only[pA]at h<;>try (cases h;done)
  by_cases hq:q=128 *k+127
  ·subst hq;rw[tA]at h;cases h;rfl
  ·rw[kA _ _ _ _ hq,PA]at h;split at h
   ·rename_i x hx;obtain⟨_,_,h0,_⟩:=UB _ _ _ _ _ _ hx;cases h;rw[h0];exact zcu hn.1 _
   ·exact EK ks (k+1) as q row hn.2 h
omit [aA]in
def Calls.mono'{P:Program}{f:Nat}{args:Array Value}{w:World}{R R':Ending→World→Prop}(h:Calls P f args w R)(hr:∀e w',R e w'→R' e w'):Calls P f args w R':=
 λcs=>let ⟨e,w',fr,h1,h2⟩:=h cs;⟨e,w',fr,hr _ _ h1,h2⟩
omit [aA]in
def YG:∀(ks:List IA) (as:List V) (bs:List Nat) (vs:List V) (h:Nat→Option gA) (r:Nat),
  RA ks as bs vs h r=match RA ks as bs vs (λ_=>none) r with | some x=>some x | none=>h r
 | [],as,bs,vs,h,r=>by cases as<;>rfl
 | .plain :: ks,[],bs,vs,h,r=>rfl
 | .plain :: ks,a :: as,bs,vs,h,r=>by simp only[RA];exact YG ks as bs vs h r
 | .mv ow :: ks,[],bs,vs,h,r=>rfl
 | .mv ow :: ks,a :: as,bs,vs,h,r=>by simp only[RA];exact YG ks as bs vs h r
 | .ms :: ks,[],bs,vs,h,r=>rfl
 | .ms :: ks,a :: as,bs,vs,h,r=>by simp only[RA];exact YG ks as bs vs h r
 | .ptr ow :: ks,[],bs,vs,h,r=>rfl
 | .ptr ow :: ks,a :: as,[],vs,h,r=>by cases a<;>rfl
 | .ptr ow :: ks,a :: as,b :: bs,vs,h,r=>by
  cases a<;>try rfl
  simp only[RA]
  by_cases hr:r=b
  ·subst hr;simp[tA]
  ·rw[kA _ _ _ _ hr,kA _ _ _ _ hr];exact YG ks as bs _ h r
omit [aA]in
def yM:∀(ks:List IA) (as:List V) (bs:List Nat) (vs:List V) (r:Nat) (row:gA),RA ks as bs vs (λ_=>none) r=some row→r∈bs
 | [],as,bs,vs,r,row,h=>by cases as<;>simp[RA]at h
 | .plain :: ks,[],bs,vs,r,row,h=>by simp[RA]at h
 | .plain :: ks,a :: as,bs,vs,r,row,h=>by simp only[RA]at h;exact yM ks as bs vs r row h
 | .mv ow :: ks,[],bs,vs,r,row,h=>by simp[RA]at h
 | .mv ow :: ks,a :: as,bs,vs,r,row,h=>by simp only[RA]at h;exact yM ks as bs vs r row h
 | .ms :: ks,[],bs,vs,r,row,h=>by simp[RA]at h
 | .ms :: ks,a :: as,bs,vs,r,row,h=>by simp only[RA]at h;exact yM ks as bs vs r row h
 | .ptr ow :: ks,[],bs,vs,r,row,h=>by simp[RA]at h
 | .ptr ow :: ks,a :: as,[],vs,r,row,h=>by cases a<;>simp[RA]at h
 | .ptr ow :: ks,a :: as,b :: bs,vs,r,row,h=>by
  cases a<;>try (simp[RA]at h;done)
  simp only[RA]at h
  by_cases hr:r=b
  ·subst hr;simp
  ·rw[kA _ _ _ _ hr]at h;exact List.mem_cons_of_mem _ (yM ks as bs _ r row h)
omit [aA]in
def zip{ks:List IA}{as:List V}{bs ow:List Nat}{base:Nat}{shape:List (Bool×Nat)}{rs:List V}{r:Nat}{row:gA}(hl:rs.length≤128)
  (h:oD ks as bs ow base shape rs r=some row):r∈bs∨(base≤r∧r<base+128):=by
 unfold oD at h;rw[YG]at h;split at h
 ·rename_i x hx;exact .inl (yM _ _ _ _ _ _ hx)
 ·obtain⟨_,_,_,h1,h2⟩:=UB _ _ _ _ _ _ h;exact .inr ⟨by omega,by omega⟩
omit [aA]in
def tM:∀(ks:List IA) (as:List V) (bs:List Nat) (vs:List V) (r:Nat) (row:gA),RA ks as bs vs (λ_=>none) r=some row→row.m= .own
 | [],as,bs,vs,r,row,h=>by cases as<;>simp[RA]at h
 | .plain :: ks,[],bs,vs,r,row,h=>by simp[RA]at h
 | .plain :: ks,a :: as,bs,vs,r,row,h=>by simp only[RA]at h;exact tM ks as bs vs r row h
 | .mv ow :: ks,[],bs,vs,r,row,h=>by simp[RA]at h
 | .mv ow :: ks,a :: as,bs,vs,r,row,h=>by simp only[RA]at h;exact tM ks as bs vs r row h
 | .ms :: ks,[],bs,vs,r,row,h=>by simp[RA]at h
 | .ms :: ks,a :: as,bs,vs,r,row,h=>by simp only[RA]at h;exact tM ks as bs vs r row h
 | .ptr ow :: ks,[],bs,vs,r,row,h=>by simp[RA]at h
 | .ptr ow :: ks,a :: as,[],vs,r,row,h=>by cases a<;>simp[RA]at h
 | .ptr ow :: ks,a :: as,b :: bs,vs,r,row,h=>by
  cases a<;>try (simp[RA]at h;done)
  simp only[RA]at h
  by_cases hr:r=b
  ·subst hr;rw[tA]at h;cases h;rfl
  ·rw[kA _ _ _ _ hr]at h;exact tM ks as bs _ r row h
omit [aA]in
def zhE{ks:List IA}{as:List V}{bs ow:List Nat}{base:Nat}{shape:List (Bool×Nat)}{rs:List V}{r:Nat}{row:gA}(hl:rs.length≤128)
  (h:oD ks as bs ow base shape rs r=some row):row.m.isOwn=true:=by
 unfold oD at h;rw[YG]at h;split at h
 ·rename_i x hx;cases h;rw[tM _ _ _ _ _ _ hx];rfl
 ·obtain⟨_,_,h0,_,_⟩:=UB _ _ _ _ _ _ h;rw[h0];exact zhX _ _
omit [aA]in
def zi3(ks:List IA)(as:List V)(bs ow:List Nat)(base:Nat)(shape:List (Bool×Nat))(rs:List V)(h:Nat→Option gA)(r:Nat):
  RA ks as bs ((zA ow base 0 rs).drop (iH shape)) (HA ow base h 0 rs) r=match oD ks as bs ow base shape rs r with | some x=>some x | none=>h r:=by
 unfold oD;rw[YG ks as bs _ (HA ow base h 0 rs),YG ks as bs _ (HA ow base (λ_=>none) 0 rs),PA ow base h];cases RA ks as bs ((zA ow base 0 rs).drop (iH shape)) (λ_=>none) r<;>rfl
omit [aA]in
def zb6{ci:RB}{as:List V}{bs:List Nat}{base:Nat}{rs:List V}{r:Nat}{row:gA}(hl:rs.length≤128)(h:fC ci as bs base rs r=some row):r∈bs∨(base≤r∧r<base+128):=by
 unfold fC at h;cases hp:ci.pb
 ·rw[hp]at h;exact zip hl h
 ·rw[hp]at h;simp only[cond_true]at h
  by_cases hr:r=base
  ·subst hr;exact .inr ⟨Nat.le_refl _,by omega⟩
  ·rw[kA _ _ _ _ hr]at h;cases h
omit [aA]in
def SS{ci:RB}{as:List V}{bs:List Nat}{base:Nat}{rs:List V}{r:Nat}{row:gA}(hl:rs.length≤128)(h:fC ci as bs base rs r=some row):row.m.isOwn=true:=by
 unfold fC at h;cases hp:ci.pb
 ·rw[hp]at h;exact zhE hl h
 ·rw[hp]at h;simp only[cond_true]at h
  by_cases hr:r=base
  ·subst hr;rw[tA]at h;cases h;rfl
  ·rw[kA _ _ _ _ hr]at h;cases h
omit [aA]in
def cJ(ci:RB)(as:List V)(bs:List Nat)(base:Nat)(rs:List V)(h:Nat→Option gA)(r:Nat):
  QE ci as bs base rs h r=match fC ci as bs base rs r with | some x=>some x | none=>h r:=by
 unfold fC QE;cases hp:ci.pb
 ·exact zi3 _ _ _ _ _ _ _ _ _
 ·simp only[cond_true]
  by_cases hr:r=base
  ·subst hr;rw[tA,tA]
  ·rw[kA _ _ _ _ hr,kA _ _ _ _ hr]
def UD(h' h:Nat→Option gA):Prop:=∀r row',h' r=some row'→∃row,h r=some row∧row.c=row'.c∧(row'.m.isRo=false→row.m.isRo=false)∧(row'.m.isTre=true→row.m.isTre=true)
omit [aA]in
def UD.refl(h:Nat→Option gA):UD h h:=λ_ row' h=>⟨row',h,rfl,id,id⟩
omit [aA]in
def UD.trans{a b c:Nat→Option gA}(h:UD a b)(k:UD b c):UD a c:=λr row' hr=>by
 obtain⟨row,h1,h2,h3,h4⟩:=h r row' hr;obtain⟨row2,k1,k2,k3,k4⟩:=k r row h1;exact⟨row2,k1,k2.trans h2,λh=>k3 (h3 h),λh=>k4 (h4 h)⟩
omit [aA]in
def rP(h:Nat→Option gA)(r:Nat):UD (cA h r none) h:=λq row' hq=>by
 by_cases zV:q=r
 ·subst zV;rw[tA]at hq;cases hq
 ·rw[kA _ _ _ _ zV]at hq;exact⟨row',hq,rfl,id,id⟩
omit [aA]in
def vG(ow:List Nat):∀(cs:List V) (p:Nat) (h:Nat→Option gA) (x:List V×(Nat→Option gA)),qC ow p cs h=some x→UD x.2 h
 | [],p,h,x,ht=>by simp[qC]at ht;subst ht;exact UD.refl h
 | c :: cs,p,h,x,ht=>by
  simp only[qC]at ht;cases hb:ow.any (Nat.beq p)
  ·simp only[hb,cond_false]at ht;split at ht
   case h_2=>cases ht
   split at ht
   case h_2=>cases ht
   rename_i hr;cases ht;exact(vG ow cs _ _ _ hr).trans (EM h _)
  ·simp only[hb,cond_true]at ht;split at ht
   ·split at ht
    case h_2=>cases ht
    rename_i t0 l0 m0 _;cases EV:AB (ZD ow p) t0 m0
    case false=>simp[EV]at ht
    simp only[EV,cond_true]at ht;split at ht
    case h_2=>cases ht
    rename_i hr;cases ht;exact(vG ow cs _ _ _ hr).trans (rP h _)
   ·split at ht
    case h_2=>cases ht
    rename_i hr;cases ht;have:=vG ow cs _ _ _ hr;exact this
   ·split at ht
    case h_2=>cases ht
    rename_i t0 l0 m0 _;cases EV:AB (ZD ow p) t0 m0
    case false=>simp[EV]at ht
    simp only[EV,cond_true]at ht;split at ht
    case h_2=>cases ht
    rename_i hr;cases ht;exact(vG ow cs _ _ _ hr).trans (rP h _)
   ·cases ht
omit [aA]in
def FJ:∀(ks:List IA) (as:List V) (h:Nat→Option gA) (x:List V×(Nat→Option gA)×List Nat),kB ks as h=some x→UD x.2.1 h
 | [],[],h,x,ht=>by simp[kB]at ht;subst ht;exact UD.refl h
 | [],_ :: _,h,x,ht=>by simp[kB]at ht
 | .plain :: ks,[],h,x,ht=>by simp[kB]at ht
 | .ptr _ :: ks,[],h,x,ht=>by simp[kB]at ht
 | .mv _ :: ks,[],h,x,ht=>by simp[kB]at ht
 | .ms :: ks,[],h,x,ht=>by simp[kB]at ht
 | .ms :: ks,v :: vs,h,x,ht=>by
  simp only[kB]at ht;split at ht
  case h_2=>cases ht
  rename_i hl;split at ht
  ·cases ht
  rename_i hr;cases ht;exact(FJ ks vs _ _ hr).trans (vG _ _ _ _ _ hl)
 | .mv ow :: ks,v :: vs,h,x,ht=>by
  obtain⟨cs,rfl⟩:=IR ht;simp only[kB]at ht;cases hb:Nat.ble cs.length 127
  case false=>simp[hb]at ht
  simp only[hb,cond_true]at ht;split at ht
  ·cases ht
  rename_i hl;split at ht
  ·cases ht
  rename_i hr;cases ht;exact(FJ ks vs _ _ hr).trans (vG _ _ _ _ _ hl)
 | .plain :: ks,v :: vs,h,x,ht=>by
  simp only[kB]at ht;split at ht
  ·cases ht
  split at ht
  ·cases ht
  rename_i hr;cases ht;exact(FJ ks vs _ _ hr).trans (EM h _)
 | .ptr ow :: ks,v :: vs,h,x,ht=>by
  obtain⟨r,rfl⟩:=AR ht;simp only[kB]at ht;split at ht
  case h_2=>cases ht
  rename_i cs _;cases hb:Nat.ble cs.length 127
  case false=>simp[hb]at ht
  simp only[hb,cond_true]at ht;split at ht
  ·cases ht
  rename_i hl;split at ht
  ·cases ht
  rename_i hr;cases ht;exact(FJ ks vs _ _ hr).trans ((vG _ _ _ _ _ hl).trans (rP h r))
section
variable {C:Cx} {w0:World} {outer:Nat→Prop} {own:Ow} {ρ:Nat→Option RI} {st st':St} {a:Act} {w:World} {h:Nat→Option gA}
def pB.sub(hh:EA w0 outer own ρ h w){outer' fr':Nat→Prop}{e:Nat→Option gA}{ρe:Nat→Option RI}(φ:Nat→Nat)(uV:∀b,bA outer' ρe e b→bA outer ρ h b)(KV:∀b,XC w0 own b→fr' b)
  (T2:∀q t (l:List (El t)) m,e q=some ⟨.arr t l,m⟩→m.isTre=true→(∃m',h (φ q)=some ⟨.arr t l,m'⟩∧m'.isTre=true)∧ρe q=ρ (φ q)):pB w (bA outer' ρe e) fr' ρe e:=
 hh.dep.keep (λq t l m ri h1 hm h2 _=>(T2 q t l m h1 hm).1.elim λm' h3=>⟨φ q,m',h3.1,h3.2,by rw[←(T2 q t l m h1 hm).2];exact h2,rfl⟩) (λ_ _ _=>rfl) (λb hb=> .inl (uV b hb)) KV
def EA.sub(hh:EA w0 outer own ρ h w){w1:World}{outer':Nat→Prop}{own':Ow}{e:Nat→Option gA}{ρe:Nat→Option RI}(φ:Nat→Nat)(lW:Wx w1 w)
  (bW:∀b,b<w1.heap.size→¬own' b→w.heap[b]?=w1.heap[b]?) (VV:∀b,outer' b→b<w1.heap.size∧¬own' b)
  (sV:∀q row,e q=some row→∃row' ri,h (φ q)=some row'∧ρe q=some ri∧ρ (φ q)=some ri∧uC w ρe (bA outer' ρe e) ri row.c∧(ri.nl=false→¬outer' ri.b∧(row.m.isRo=false→w1.heap.size≤ri.b∨own' ri.b)))
  (G6:∀q q' row row',e q=some row→e q'=some row'→φ q=φ q'→q=q') (H6:pB w (bA outer' ρe e) (XC w1 own') ρe e):EA w1 outer' own' ρe e w:=by
 refine⟨lW,bW,VV,λq row hq=>?_,λq q' row row' qi qi' h1 h2 h3 h4 h5 h6 h7=>?_,H6⟩
 ·obtain⟨row',ri,h1,h2,h3,h4,h5⟩:=sV q row hq;obtain⟨ri',k1,_,k2⟩:=hh.rows _ _ h1;rw[h3]at k1;cases k1;exact⟨ri,h2,h4,λhn=>⟨h5 hn,(k2 hn).2⟩⟩
 ·obtain⟨r1,ri1,g1,g2,g3,_,_⟩:=sV q row h1;obtain⟨r2,ri2,g4,g5,g6,_,_⟩:=sV q' row' h2;rw[h3]at g2;cases g2;rw[h4]at g5;cases g5;exact G6 q q' row row' h1 h2 (hh.inj _ _ _ _ _ _ g1 g4 g3 g6 h5 h6 h7)
variable {bad:Nat→Prop} {g:Nat→Option gA} {N0:Nat}
def WD.row{ks:List IA}{k:Nat}{as:List V}{bs:List Nat}{u:Nat→Value}(he:WD w ρ bad g N0 ks k as bs u):∀{q:Nat} {row:gA},pA ks k as q=some row→
  128 *k≤q∧q<128 *(k+ks.length)∧
  ((∃ b ow k' cs ri,NA ks k bs q=some b∧q=128 *k'+127∧k≤k'∧k'<k+ks.length∧row=⟨.box (zA ow (128 *k') 0 cs), .own⟩∧g b=some ⟨.box (zA ow (N0+128 *k') 0 cs), .own⟩∧ρ b=some ri∧ri.nl=false∧
    cs.length≤127∧(∀j (hj:j<cs.length),vB cs[j])∧b<N0∧∀p t l,cs[p]?=some (.sl t l)→ow.any (Nat.beq p)=true→∃m,pA ks k as (128 *k'+p)=some ⟨.arr t l,m⟩)∨
  (∃t l m,row=⟨.arr t l,m⟩∧m.isRo=false∧g (N0+q)=some row∧q % 128≠127)):=by
 induction he with
 | nil=>intro q row h;simp[pA]at h
 | plain hv hn hr ih=>
  rename_i ks k v as bs u;intro q row h;simp only[pA]at h;obtain⟨h1,h2,h3⟩:=ih h;refine⟨by omega,by simp;omega,?_⟩
  rcases h3 with⟨b,ow,k',cs,ri,e1,e2,e3,e4,e5,e6,e7,e8,e9,e10,e11,e12⟩ | h3
  ·exact .inl ⟨b,ow,k',cs,ri,e1,e2,by omega,by simp;omega,e5,e6,e7,e8,e9,e10,e11,λp t l h4 h5=>by simp only[pA];exact e12 p t l h4 h5⟩
  ·exact .inr h3
 | ptr ri hρ CV hu hg hl hq hc hb hr ih=>
  rename_i ow ks k b cs as bs u;intro q row h;simp only[pA]at h
  by_cases YX:q=128 *k+127
  ·subst YX;rw[tA]at h;cases h
   exact⟨by omega,by simp;omega, .inl ⟨b,ow,k,cs,ri,by simp[NA],rfl,Nat.le_refl _,by simp,rfl,hg,hρ,CV,hl,λj hj=>(hc j hj).1,hb,λp t l h4 h5=>by
    have hp:p<cs.length:=by
     rcases Nat.lt_or_ge p cs.length with h | h
     ·exact h
     ·rw[List.getElem?_eq_none h]at h4;cases h4
    refine⟨PC ow p,?_⟩;simp only[pA];rw[kA _ _ _ _ (by omega),PA,SO ow (128 *k) cs 0 p t l (Nat.zero_le _) h4 h5]⟩⟩
  ·rw[kA _ _ _ _ YX,PA]at h;split at h
   ·rename_i x hx;cases h;obtain⟨t,l,e1,e2,e3⟩:=UB _ _ _ _ _ _ hx;refine⟨by omega,by simp;omega, .inr ⟨t,l,_,e1,CQ _ _,?_,by omega⟩⟩;have h1:=hq (q - 128 *k) (by omega);have h2:=sK ow (128 *k) (N0+128 *k) cs 0 (q - 128 *k);rw[show 128 *k+(q - 128 *k)=q by omega,hx]at h2;rw[show N0+128 *k+(q - 128 *k)=N0+q by omega]at h1 h2;rw[h1, ←h2]
   ·obtain⟨h1,h2,h3⟩:=ih h;refine⟨by omega,by simp;omega,?_⟩
    rcases h3 with⟨b',ow',k',cs',ri',e1,e2,e3,e4,e5,e6,e7,e8,e9,e10,e11,e12⟩ | h3
    ·refine .inl ⟨b',ow',k',cs',ri',?_,e2,by omega,by simp;omega,e5,e6,e7,e8,e9,e10,e11,λp t l h4 h5=>?_⟩
     ·simp only[NA];rw[if_neg YX];exact e1
     ·have hp:p<cs'.length:=by
       rcases Nat.lt_or_ge p cs'.length with h | h
       ·exact h
       ·rw[List.getElem?_eq_none h]at h4;cases h4
      simp only[pA];rw[kA _ _ _ _ (by omega),PA,CB _ _ _ _ _ (by omega)];exact e12 p t l h4 h5
    ·exact .inr h3
 | mv hv hl hq hc hr ih=>
  rename_i ow ks k cs as bs u;intro q row h;simp only[pA]at h;rw[PA]at h;split at h
  ·rename_i x hx;cases h;obtain⟨t,l,e1,e2,e3⟩:=UB _ _ _ _ _ _ hx;refine⟨by omega,by simp;omega, .inr ⟨t,l,_,e1,CQ _ _,?_,by omega⟩⟩;have h1:=hq (q - 128 *k) (by omega);have h2:=sK ow (128 *k) (N0+128 *k) cs 0 (q - 128 *k);rw[show 128 *k+(q - 128 *k)=q by omega,hx]at h2;rw[show N0+128 *k+(q - 128 *k)=N0+q by omega]at h1 h2;rw[h1, ←h2]
  ·obtain⟨h1,h2,h3⟩:=ih h;refine⟨by omega,by simp;omega,?_⟩
   rcases h3 with⟨b',ow',k',cs',ri',e1,e2,e3,e4,e5,e6,e7,e8,e9,e10,e11,e12⟩ | h3
   ·refine .inl ⟨b',ow',k',cs',ri',e1,e2,by omega,by simp;omega,e5,e6,e7,e8,e9,e10,e11,λp t l h4 h5=>?_⟩
    have hp:p<cs'.length:=by
     rcases Nat.lt_or_ge p cs'.length with h | h
     ·exact h
     ·rw[List.getElem?_eq_none h]at h4;cases h4
    simp only[pA];rw[PA,CB _ _ _ _ _ (by omega)];exact e12 p t l h4 h5
   ·exact .inr h3
 | ms hv hq hc hr ih=>
  rename_i ks k v as bs u;intro q row h;simp only[pA]at h;rw[PA]at h;split at h
  ·rename_i x hx;cases h;obtain⟨t,l,e1,e2,e3⟩:=UB _ _ _ _ _ _ hx;simp only[List.length_singleton]at e3;refine⟨by omega,by simp;omega, .inr ⟨t,l,_,e1,CQ _ _,?_,by omega⟩⟩;have h1:=hq (q - 128 *k) (by omega);have h2:=sK [0] (128 *k) (N0+128 *k) [v] 0 (q - 128 *k);rw[show 128 *k+(q - 128 *k)=q by omega,hx]at h2;rw[show N0+128 *k+(q - 128 *k)=N0+q by omega]at h1 h2;rw[h1, ←h2]
  ·obtain⟨h1,h2,h3⟩:=ih h;refine⟨by omega,by simp;omega,?_⟩
   rcases h3 with⟨b',ow',k',cs',ri',e1,e2,e3,e4,e5,e6,e7,e8,e9,e10,e11,e12⟩ | h3
   ·refine .inl ⟨b',ow',k',cs',ri',e1,e2,by omega,by simp;omega,e5,e6,e7,e8,e9,e10,e11,λp t l h4 h5=>?_⟩
    have hp:p<cs'.length:=by
     rcases Nat.lt_or_ge p cs'.length with h | h
     ·exact h
     ·rw[List.getElem?_eq_none h]at h4;cases h4
    simp only[pA];rw[PA,CB _ _ _ _ _ (by simp;omega)];exact e12 p t l h4 h5
   ·exact .inr h3
def WD.vals{ks:List IA}{k:Nat}{as:List V}{bs:List Nat}{u:Nat→Value}(he:WD w ρ bad g N0 ks k as bs u){ρc:Nat→Option RI}{badc:Nat→Prop}
  (hb:∀b,badc b→bad b) (hρ:∀q b,NA ks k bs q=some b→ρc q=ρ b) (hρ2:∀q row,pA ks k as q=some row→q % 128≠127→ρc q=ρ (N0+q)):
  (UA ks k as).length=ks.length∧∀j (hj:j<(UA ks k as).length),VR w ρc badc (u j) (UA ks k as)[j]:=by
 induction he with
 | nil=>exact⟨rfl,λj hj=>by simp[UA]at hj⟩
 | plain hv hn hr ih=>
  rename_i ks k v as bs u;obtain⟨h1,h2⟩:=ih (λq b h=>hρ q b h) λq row h=>hρ2 q row h;refine⟨by simp[UA,h1],λj hj=>?_⟩;cases j with
  | zero=>exact(hv.noRef hn ρc).mono (λ_ _ h=>h) (λ_ _ _=>rfl) λb h=> .inl (hb b h)
  | succ j=>exact h2 j (by simpa[UA]using hj)
 | ptr ri hρb CV hu hg hl hq hc DX hr ih=>
  rename_i ow ks k b cs as bs u
  obtain⟨h1,h2⟩:=ih (λq b' h=>hρ q b' (by
   obtain⟨h3,_⟩:=iD _ _ _ _ _ h;simp only[NA];rw[if_neg (by omega)];exact h)) λq row h h3=>hρ2 q row (by
   have:=(hr.row h).1;simp only[pA];rw[kA _ _ _ _ (by omega),PA,CB _ _ _ _ _ (by omega)];exact h) h3
  refine⟨by simp[UA,h1],λj hj=>?_⟩;cases j with
  | zero=>
   show VR w ρc badc (u 0) (.bp (128 *k+127) 0)
   rw[hu];exact .bp _ _ ri (by rw[hρ (128 *k+127) b (by simp[NA])];exact hρb) CV
  | succ j=>exact h2 j (by simpa[UA]using hj)
 | mv hv hl hq hc hr ih=>
  rename_i ow ks k cs as bs u
  obtain⟨h1,h2⟩:=ih (λq b h=>hρ q b h) λq row h h3=>hρ2 q row (by
   have:=(hr.row h).1;simp only[pA];rw[PA,CB _ _ _ _ _ (by omega)];exact h) h3
  refine⟨by simp[UA,h1],λj hj=>?_⟩;cases j with
  | zero=>
   show VR w ρc badc (u 0) (.agg (zA ow (128 *k) 0 cs))
   generalize u 0=u0 at hv;cases hv with
   | agg _ vs hs DW=>
   refine .agg _ vs (by rw[SC];rw[SC]at hs;exact hs) ?_;refine zK ow (N0+128 *k) (128 *k) cs 0 (λj=>vs.getD j undef) (λq' h3 h4 h5 h6=>?_) (λj hj=>(hc j hj).1) hb (λj hj=>DW j hj);obtain⟨t,l,h6⟩:=h6
   have h0:pA (.mv ow :: ks) k (.agg cs :: as) (128 *k+q')=some ⟨.arr t l,PC ow q'⟩:=by
    simp only[pA];rw[PA,SO ow (128 *k) cs 0 q' t l (Nat.zero_le _) h6 h5]
   have:=hρ2 _ _ h0 (by omega);rw[this];congr 1;omega
  | succ j=>exact h2 j (by simpa[UA]using hj)
 | ms hv hq hc hr ih=>
  rename_i ks k v as bs u
  obtain⟨h1,h2⟩:=ih (λq b h=>hρ q b h) λq row h h3=>hρ2 q row (by
   have:=(hr.row h).1;simp only[pA];rw[PA,CB _ _ _ _ _ (by simp;omega)];exact h) h3
  refine⟨by simp[UA,h1],λj hj=>?_⟩;cases j with
  | zero=>
   show VR w ρc badc (u 0) (YQ (128 *k) v)
   have:=zK (w:=w) [0] (N0+128 *k) (128 *k) [v] 0 (ρ:=ρ) (ρ2:=ρc) (bad:=bad) (bad2:=badc) (λ_=>u 0) (λq' h3 h4 h5 h6=>by
    obtain⟨t,l,h6⟩:=h6
    have h0:pA (.ms :: ks) k (v :: as) (128 *k+q')=some ⟨.arr t l,PC [0] q'⟩:=by
     simp only[pA];rw[PA,SO [0] (128 *k) [v] 0 q' t l (Nat.zero_le _) h6 h5]
    have:=hρ2 _ _ h0 (by simp at h4;omega)
    rw[this];congr 1;omega) (λj hj=>by
     obtain rfl:j=0:=by simpa using hj
     exact hc.1) hb (λj hj=>by
     have yZ:j=0:=by simpa[SC]using hj
     subst yZ;simpa only[WM,List.getElem_cons_zero]using hv) 0 (by rw[SC];simp)
   simpa only[WM,List.getElem_cons_zero]using this
  | succ j=>exact h2 j (by simpa[UA]using hj)
def WD.found{ks:List IA}{k:Nat}{as:List V}{bs:List Nat}{u:Nat→Value}(he:WD w ρ bad g N0 ks k as bs u):∀{q b:Nat},NA ks k bs q=some b→∃row,pA ks k as q=some row:=by
 induction he with
 | nil=>intro q b h;simp[NA]at h
 | plain hv hn hr ih=>intro q b h;simp only[NA]at h;simp only[pA];exact ih h
 | ptr ri hρ CV hu hg hl hq hc hb hr ih=>
  rename_i ow ks k b0 cs as bs u;intro q b h;simp only[NA]at h;simp only[pA]
  by_cases YX:q=128 *k+127
  ·subst YX;exact⟨_,tA _ _ _⟩
  ·rw[if_neg YX]at h;obtain⟨row,h1⟩:=ih h;have:=(iD _ _ _ _ _ h).1;rw[kA _ _ _ _ YX,PA,CB _ _ _ _ _ (by omega)];exact⟨row,h1⟩
 | mv hv hl hq hc hr ih=>
  rename_i ow ks k cs as bs u;intro q b h;simp only[NA]at h;simp only[pA];obtain⟨row,h1⟩:=ih h;have:=(iD _ _ _ _ _ h).1;rw[PA,CB _ _ _ _ _ (by omega)];exact⟨row,h1⟩
 | ms hv hq hc hr ih=>
  rename_i ks k v as bs u;intro q b h;simp only[NA]at h;simp only[pA];obtain⟨row,h1⟩:=ih h;have:=(iD _ _ _ _ _ h).1;rw[PA,CB _ _ _ _ _ (by simp;omega)];exact⟨row,h1⟩
def WD.surj{ks:List IA}{k:Nat}{as:List V}{bs:List Nat}{u:Nat→Value}(he:WD w ρ bad g N0 ks k as bs u):∀b∈bs,∃q,NA ks k bs q=some b:=by
 induction he with
 | nil=>intro b hb;simp at hb
 | plain hv hn hr ih=>intro b hb;obtain⟨q,h⟩:=ih b hb;exact⟨q,h⟩
 | mv hv hl hq hc hr ih=>intro b hb;obtain⟨q,h⟩:=ih b hb;exact⟨q,h⟩
 | ms hv hq hc hr ih=>intro b hb;obtain⟨q,h⟩:=ih b hb;exact⟨q,h⟩
 | ptr ri hρb CV hu hg hl hq hc DX hr ih=>
  rename_i ow ks k b cs as bs u;intro b' NV
  rcases List.mem_cons.1 NV with rfl | NV
  ·exact⟨128 *k+127,by simp[NA]⟩
  ·obtain⟨q,h⟩:=ih b' NV;refine⟨q,?_⟩;have:=(iD _ _ _ _ _ h).1;simp only[NA];rw[if_neg (by omega)];exact h
def uM{bad2:Nat→Prop}{ri:RI}{t:TN}{l:List (El t)}(hr:uC w ρ bad ri (.arr t l))(hb:∀b,bad2 b→bad b)(ρ2:Nat→Option RI):uC w ρ2 bad2 ri (.arr t l):=by
 refine⟨hr.1,?_⟩
 rcases hr.2 with h | ⟨h1,he,h2,h3,h4,h5⟩
 ·exact .inl h
 ·refine .inr ⟨h1,he,h2,h3,h4,λi hi j hj=>?_⟩;obtain⟨u,h6,h7⟩:=h5 i hi j hj;exact⟨u,h6,(h7.noRef (λS=>oH S t _ j) ρ2).mono (λ_ _ h=>h) (λ_ _ _=>rfl) λb h=> .inl (hb b h)⟩
end
end Go.D
namespace Go.D
variable [aA]
inductive Rk(m:Nat):V→Prop where
 | undef:Rk m .undef
 | bool (b:Bool):Rk m (.bool b)
 | int (k:IntKind) (n:Int):Rk m (.int k n)
 | str (s:List UInt8):Rk m (.str s)
 | nil:Rk m .nil
 | sl (t:TN) (l:List (El t)) (h:t.rank<m):Rk m (.sl t l)
 | ow (r:Nat):Rk m (.ow r)
 | bp (r off:Nat):Rk m (.bp r off)
 | agg (cs:List V) (h:∀c∈cs,Rk m c):Rk m (.agg cs)
 | tup (cs:List V) (h:∀c∈cs,Rk m c):Rk m (.tup cs)
 | nili:Rk m .nili
 | ifc (b:Bool):Rk m (.ifc b)
def RG(m:Nat):V→Bool
 | .sl t _=>Nat.blt t.rank m
 | .bool _ | .int _ _ | .str _ | .nil | .undef | .nili | .ifc _=>true
 | _=>false
omit [aA]in
def Rk.of_low{m:Nat}{v:V}(h:RG m v=true):Rk m v:=by
 cases v<;>simp only[RG]at h<;>try (cases h;done)
 ·exact .undef
 ·exact .bool _
 ·exact .int _ _
 ·exact .str _
 ·exact .nil
 ·exact .sl _ _ (by simpa[Nat.blt_eq]using h)
 ·exact .nili
 ·exact .ifc _
omit [aA]in
def Rk.mono{m m':Nat}(hm:m≤m'){v:V}(h:Rk m v):Rk m' v:=by
 induction h with
 | undef=>exact .undef
 | bool=>exact .bool _
 | int=>exact .int _ _
 | str=>exact .str _
 | nil=>exact .nil
 | sl t l h=>exact .sl _ _ (Nat.lt_of_lt_of_le h hm)
 | ow=>exact .ow _
 | bp=>exact .bp _ _
 | agg cs h ih=>exact .agg _ ih
 | tup cs h ih=>exact .tup _ ih
 | nili=>exact .nili
 | ifc=>exact .ifc _
omit [aA]in
def fQ(t:TN)(x:El t):(enc t x).all (RG t.rank)=true:=by cases t<;>rfl
omit [aA]in
def za2(t:TN)(x:El t)(j:Nat):Rk t.rank ((enc t x).getD j .undef):=by
 rw[List.getD_eq_getElem?_getD]
 by_cases hj:j<(enc t x).length
 ·rw[List.getElem?_eq_getElem hj];exact .of_low (List.all_eq_true.1 (fQ t x) _ (List.getElem_mem hj))
 ·rw[List.getElem?_eq_none (by omega)];exact .undef
variable {w:World} {ρ:Nat→Option RI} {bad bad':Nat→Prop} {v:Value} {d:V}
def VR.widen(h:VR w ρ bad v d){m:Nat}(hd:Rk m d)(hb:∀b,bad' b→bad b∨(aA.base≤b∧∃t,ID w b t∧m≤t.rank)):VR w ρ bad' v d:=by
 induction h with
 | undef=>exact .undef _
 | bool=>exact .bool _
 | int k n h=>exact .int _ _ h
 | str s h=>exact .str _ h
 | nil=>exact .nil
 | slE t a cap h=>exact .slE _ _ _ h
 | slC t l b off cap u DX hl hc he hu hv ih=>
  cases hd with | sl _ _ hr=>
  by_cases SW:l.length=0
  ·obtain rfl:l=[]:=List.eq_nil_of_length_eq_zero SW;exact .slE _ _ _ hc
  ·refine .slC t l b off cap u (λh=>?_) hl hc he hu λi hi j hj=>ih i hi j hj ((za2 t l[i] j).mono (Nat.le_of_lt hr))
   rcases hb b h with h | ⟨h1,t',h2,h3⟩
   ·exact DX h
   ·rcases he (by rintro rfl;simp at SW)with h4 | h4
    ·omega
    ·have:=h4.uniq h2;subst this;omega
 | ow r ri h hn hc CV=>exact .ow _ _ h hn hc CV
 | owN r ri ao h hn CV=>exact .owN _ _ _ h hn CV
 | ov=>cases hd
 | bp r off ri h CV=>exact .bp _ _ _ h CV
 | ep=>cases hd
 | fp=>cases hd
 | fn=>cases hd
 | agg cs vs hs hv ih=>cases hd with | agg _ hd=>exact .agg _ _ hs λj hj=>ih j hj (hd _ (List.getElem_mem hj))
 | tup cs vs hs hv ih=>cases hd with | tup _ hd=>exact .tup _ _ hs λj hj=>ih j hj (hd _ (List.getElem_mem hj))
 | nili=>exact .nili
 | ifc=>exact .ifc _ _
 | ifn=>exact .ifn
 | raw=>cases hd
def dR(m:Nat):dD→Prop
 | .box cs=>∀c∈cs,Rk m c
 | .arr t _=>t.rank≤m
def uC.keepR{w':World}{ρ':Nat→Option RI}{ri:RI}{c:dD}{m:Nat}(hr:uC w ρ bad ri c)(hc:dR m c)
  (hw:ri.nl=false→w'.heap[ri.b]?=w.heap[ri.b]?)
  (hv:∀u d,Rk m d→VR w ρ bad u d→VR w' ρ' bad' u d):uC w' ρ' bad' ri c:=by
 cases c with
 | box cs=>
  refine⟨hr.1,λj hj=>?_⟩;obtain⟨h1,u,h2,h3⟩:=hr.2 j hj;have hb:=hw hr.1;exact⟨by rw[←h1];simp[World.frozen?,iA,hb],u,by rw[←h2];exact gD hb,hv _ _ (hc _ (List.getElem_mem hj)) h3⟩
 | arr t l=>
  refine⟨hr.1,?_⟩
  rcases hr.2 with h | ⟨h0,he,h1,h2,h3,h4⟩
  ·exact .inl h
  ·have hb:=hw h0;refine .inr ⟨h0,he.same hb,h1,h2,λj hj=>?_,λi hi j hj=>?_⟩
   ·have:=h3 j hj;exact⟨by rw[←this.1];simp[World.frozen?,iA,hb],by rw[←this.2];congr 1;exact gD hb⟩
   ·obtain⟨u,h5,h6⟩:=h4 i hi j hj;exact⟨u,by rw[←h5];exact gD hb,hv _ _ ((za2 t _ j).mono hc) h6⟩
omit [aA]in
def zfR{m:Nat}{v:V}(h:UH v=true):Rk m v:=by
 cases v<;>simp[UH]at h
 ·exact .bool _
 ·exact .int _ _
 ·exact .str _
omit [aA]in
def dQ(ow:List Nat)(base:Nat):∀(vs:List V) (p m m':Nat),kD ow p vs=some m→m≤m'→
  (∀v∈zA ow base p vs,Rk m' v)∧∀q t l mo,HA ow base (λ_=>none) p vs q=some ⟨.arr t l,mo⟩→t.rank≤m'
 | [],p,m,m',h,hm=>⟨λv hv=>by simp[zA]at hv,λq t l mo hq=>by simp[HA]at hq⟩
 | v :: vs,p,m,m',h,hm=>by
  cases v
  case sl t l=>
   simp only[kD]at h;split at h
   case h_2=>cases h
   rename_i m1 h1;cases h;have cX:m1≤m':=Nat.le_trans (Nat.le_max_right _ _) hm;have D1:=Nat.le_trans (Nat.le_max_left _ _) hm;obtain⟨i1,i2⟩:=dQ ow base vs (p+1) m1 m' h1 cX;cases ho:ow.any (Nat.beq p)
   ·simp only[ho,cond_false]at D1;simp only[zA,HA,ho,cond_false];refine⟨λv hv=>?_,i2⟩
    rcases List.mem_cons.1 hv with rfl | hv
    ·exact .sl _ _ (by omega)
    ·exact i1 v hv
   ·simp only[ho,cond_true]at D1;simp only[zA,HA,ho,cond_true];refine⟨λv hv=>?_,λq t' l' mo hq=>?_⟩
    ·rcases List.mem_cons.1 hv with rfl | hv
     ·exact .ow _
     ·exact i1 v hv
    ·by_cases U2:q=base+p
     ·subst U2;rw[tA]at hq;cases hq;exact D1
     ·rw[kA _ _ _ _ U2]at hq;exact i2 q t' l' mo hq
  case nil=>
   simp only[kD]at h;obtain⟨i1,i2⟩:=dQ ow base vs (p+1) m m' h hm;simp only[zA,HA];refine⟨λv hv=>?_,i2⟩
   rcases List.mem_cons.1 hv with rfl | hv
   ·exact .nil
   ·exact i1 v hv
  all_goals
   simp only[kD]at h
   first
   | (simp only[UH,cond_false]at h;cases h;done)
   | (simp only [UH,cond_true] at h
      obtain⟨i1,i2⟩:=dQ ow base vs (p+1) m m' h hm;simp only[zA,HA];refine⟨λv hv=>?_,i2⟩
      rcases List.mem_cons.1 hv with rfl | hv
      ·exact zfR rfl
      ·exact i1 v hv)
omit [aA]in
def za3{m:Nat}:∀(sh:List (Bool×Nat)) (vs:List V),(∀v∈vs,Rk m v)→∀v∈lD sh vs,Rk m v
 | [],vs,h,v,hv=>by simp[lD]at hv
 | (ag,n) :: sh,vs,h,v,hv=>by
  simp only[lD]at hv
  rcases List.mem_cons.1 hv with rfl | hv
  ·cases ag
   ·cases vs with
    | nil=>exact .undef
    | cons x vs=>exact h x (by simp)
   ·exact .agg _ λc hc=>h c (List.mem_of_mem_take hc)
  ·exact za3 sh (vs.drop n) (λv hv=>h v (List.mem_of_mem_drop hv)) v hv
omit [aA]in
def zh9{m:Nat}(sh:List (Bool×Nat))(vs:List V)(h:∀v∈vs,Rk m v):Rk m (JF sh vs):=by
 have:=za3 sh vs h;unfold JF;split
 ·rename_i v hv;exact this v (by rw[hv];simp)
 ·exact .tup _ this
omit [aA]in
def fN{m:Nat}:∀(ks:List IA) (as:List V) (bs:List Nat) (vs:List V) (r:Nat) (row:gA),(∀v∈vs,Rk m v)→RA ks as bs vs (λ_=>none) r=some row→dR m row.c
 | [],as,bs,vs,r,row,hv,h=>by cases as<;>simp[RA]at h
 | .plain :: ks,[],bs,vs,r,row,hv,h=>by simp[RA]at h
 | .plain :: ks,a :: as,bs,vs,r,row,hv,h=>by simp only[RA]at h;exact fN ks as bs vs r row hv h
 | .mv ow :: ks,[],bs,vs,r,row,hv,h=>by simp[RA]at h
 | .mv ow :: ks,a :: as,bs,vs,r,row,hv,h=>by simp only[RA]at h;exact fN ks as bs vs r row hv h
 | .ms :: ks,[],bs,vs,r,row,hv,h=>by simp[RA]at h
 | .ms :: ks,a :: as,bs,vs,r,row,hv,h=>by simp only[RA]at h;exact fN ks as bs vs r row hv h
 | .ptr ow :: ks,[],bs,vs,r,row,hv,h=>by simp[RA]at h
 | .ptr ow :: ks,a :: as,[],vs,r,row,hv,h=>by cases a<;>simp[RA]at h
 | .ptr ow :: ks,a :: as,b :: bs,vs,r,row,hv,h=>by
  cases a<;>try (simp[RA]at h;done)
  simp only[RA]at h
  by_cases hr:r=b
  ·subst hr;rw[tA]at h;cases h;exact λc hc=>hv c (List.mem_of_mem_take hc)
  ·rw[kA _ _ _ _ hr]at h;exact fN ks as bs _ r row (λv IZ=>hv v (List.mem_of_mem_drop IZ)) h
omit [aA]in
def ziz{ci:RB}{as:List V}{bs:List Nat}{base:Nat}{rs:List V}{m:Nat}(hm:kD ci.own 0 rs=some m)(hp:ci.pb=false):
  (∀r row,fC ci as bs base rs r=some row→dR m row.c)∧Rk m (HF ci base rs):=by
 obtain⟨h1,h2⟩:=dQ ci.own base rs 0 m m hm (Nat.le_refl _);refine⟨λr row h=>?_,?_⟩
 ·unfold fC oD at h;rw[hp,cond_false,YG]at h;split at h
  ·rename_i x hx;cases h;exact fN _ _ _ _ _ _ (λv hv=>h1 v (List.mem_of_mem_drop hv)) hx
  ·obtain⟨t,l,h0,_,_⟩:=UB _ _ _ _ _ _ h;subst h0;exact h2 r t l _ h
 ·unfold HF;rw[hp,cond_false];exact zh9 _ _ h1
end Go.D
namespace Go.D
variable [aA]
structure cD(C:Cx):Prop where
 ok:∀k ci,C.Φ k=some ci→nA C.P (k % 1048576) ci C.g
section
variable {C:Cx} {w0:World} {outer:Nat→Prop} {own:Ow} {ρ:Nat→Option RI} {st st':St} {a:Act} {w:World} {h:Nat→Option gA}
def AA.grow(hr:AA C w0 outer own ρ st a w){w1:World}(hx:Wx w w1)(ho:∀b,b<w.heap.size→w1.heap[b]?=w.heap[b]?):AA C w0 outer own ρ st a w1:=by
 have hv:∀u d,VR w ρ (bA outer ρ st.h) u d→VR w1 ρ (bA outer ρ st.h) u d:=λu d hu=>hu.mono (λ_ _ h=>h) (λb _ hb=>ho b hb) λb hb=> .inl hb
 refine⟨⟨hr.heap.wx.trans hx,λb hb hn=>(ho b (Nat.lt_of_lt_of_le hb hr.heap.wx.size)).trans (hr.heap.old b hb hn),hr.heap.outLt,λr row h=>?_,hr.heap.inj,
  hr.heap.dep.keep (λq t l m' ri h1 LW h2 h3=>⟨q,m',h1,LW,h2,by obtain⟨ri',k1,_,k2⟩:=hr.heap.rows q _ h1;rw[h2]at k1;cases k1;exact ho _ (k2 h3).2⟩) (λb _ hb=>ho b hb) (λ_ h=> .inl h) λ_ h=>h⟩,λi=>hv _ _ (hr.slots i),hr.size,hr.defers,hr.glob⟩
 obtain⟨ri,h1,h2,h3⟩:=hr.heap.rows r row h;exact⟨ri,h1,h2.keep (λhn=>ho _ (h3 hn).2) hv,λhn=>⟨(h3 hn).1,Nat.lt_of_lt_of_le (h3 hn).2 hx.size⟩⟩
inductive Sc:V→Prop where
 | undef:Sc .undef
 | bool (b:Bool):Sc (.bool b)
 | int (k:IntKind) (n:Int):Sc (.int k n)
 | str (s:List UInt8):Sc (.str s)
 | nil:Sc .nil
 | ow (r:Nat):Sc (.ow r)
 | agg (cs:List V) (h:∀c∈cs,Sc c):Sc (.agg cs)
 | tup (cs:List V) (h:∀c∈cs,Sc c):Sc (.tup cs)
def VR.sc{ρ':Nat→Option RI}{bad bad':Nat→Prop}{w':World}{v:Value}{d:V}(h:VR w ρ bad v d)(hs:Sc d)(hρ:∀r ri,ρ r=some ri→ρ' r=some ri):VR w' ρ' bad' v d:=by
 induction h with
 | undef=>exact .undef _
 | bool=>exact .bool _
 | int k n h=>exact .int _ _ h
 | str s h=>exact .str _ h
 | nil=>exact .nil
 | ow r ri h h1 h2 h3=>exact .ow _ _ (hρ _ _ h) h1 h2 h3
 | owN r ri ao h h1 h2=>exact .owN _ _ _ (hρ _ _ h) h1 h2
 | agg cs vs xV hv ih=>
  cases hs with
  | agg _ hs=>exact .agg _ _ xV λj hj=>ih j hj (hs _ (List.getElem_mem hj))
 | tup cs vs xV hv ih=>
  cases hs with
  | tup _ hs=>exact .tup _ _ xV λj hj=>ih j hj (hs _ (List.getElem_mem hj))
 | _=>cases hs
omit [aA]in
def VQ{v:V}(h:UH v=true):Sc v:=by
 cases v<;>simp[UH]at h
 ·exact .bool _
 ·exact .int _ _
 ·exact .str _
omit [aA]in
def ziJ{t:TN}(h:t.flat=true)(x:El t)(j:Nat):Sc ((enc t x).getD j .undef):=by
 have uX:∀c∈enc t x,Sc c:=by
  cases t<;>simp[TN.flat]at h<;>intro c hc<;>simp[enc]at hc<;>(try subst hc)<;>(try exact VQ rfl)<;>(repeat' (rcases hc with rfl | hc))<;>(try subst hc)<;>first | exact VQ rfl | skip
  all_goals (simp[mN,TK,kN,lN]at hc;repeat' (rcases hc with rfl | hc))<;>(try subst hc)<;>exact VQ rfl
 rw[List.getD_eq_getElem?_getD]
 by_cases hj:j<(enc t x).length
 ·rw[List.getElem?_eq_getElem hj];exact uX _ (List.getElem_mem hj)
 ·rw[List.getElem?_eq_none (by omega)];exact .undef
omit [aA]in
def zaW:∀(sh:List (Bool×Nat)) (vs:List V),(∀v∈vs,Sc v)→∀v∈lD sh vs,Sc v
 | [],vs,h,v,hv=>by simp[lD]at hv
 | (ag,n) :: sh,vs,h,v,hv=>by
  simp only[lD]at hv
  rcases List.mem_cons.1 hv with rfl | hv
  ·cases ag
   ·cases vs with
    | nil=>exact .undef
    | cons x vs=>exact h x (by simp)
   ·exact .agg _ λc hc=>h c (List.mem_of_mem_take hc)
  ·exact zaW sh (vs.drop n) (λv hv=>h v (List.mem_of_mem_drop hv)) v hv
omit [aA]in
def zid(sh:List (Bool×Nat))(vs:List V)(h:∀v∈vs,Sc v):Sc (JF sh vs):=by
 have:=zaW sh vs h;unfold JF;split
 ·rename_i v hv;exact this v (by rw[hv];simp)
 ·exact .tup _ this
omit [aA]in
def MS(ow:List Nat)(base:Nat):∀(vs:List V) (p:Nat),FN ow p vs=true→(∀v∈zA ow base p vs,Sc v)∧∀q t l m,HA ow base (λ_=>none) p vs q=some ⟨.arr t l,m⟩→t.flat=true
 | [],p,h=>⟨λv hv=>by simp[zA]at hv,λq t l m hq=>by simp[HA]at hq⟩
 | v :: vs,p,h=>by
  cases v<;>simp only[FN,Bool.and_eq_true]at h
  case sl t l=>
   obtain⟨⟨h1,h2⟩,h3⟩:=h;obtain⟨i1,i2⟩:=MS ow base vs (p+1) h3;simp only[zA,HA,h1,cond_true];refine⟨λv hv=>?_,λq t' l' m' hq=>?_⟩
   ·rcases List.mem_cons.1 hv with rfl | hv
    ·exact .ow _
    ·exact i1 v hv
   ·by_cases U2:q=base+p
    ·subst U2;rw[tA]at hq;cases hq;exact h2
    ·rw[kA _ _ _ _ U2]at hq;exact i2 q t' l' m' hq
  all_goals
   obtain⟨h1,h3⟩:=h;obtain⟨i1,i2⟩:=MS ow base vs (p+1) h3;simp only[zA,HA];refine⟨λv hv=>?_,i2⟩
   rcases List.mem_cons.1 hv with rfl | hv
   ·exact VQ h1
   ·exact i1 v hv
omit [aA]in
def mU:∀(ks:List IA) (as:List V) (bs:List Nat) (vs:List V) (h:Nat→Option gA),ks.all IA.isPlain=true→RA ks as bs vs h=h
 | [],as,bs,vs,h,hp=>by cases as<;>rfl
 | .plain :: ks,[],bs,vs,h,hp=>rfl
 | .plain :: ks,a :: as,bs,vs,h,hp=>by
  simp only[List.all_cons,Bool.and_eq_true]at hp;show RA ks as bs vs h=h
  exact mU ks as bs vs h hp.2
 | .ptr _ :: ks,as,bs,vs,h,hp=>by simp[IA.isPlain]at hp
 | .mv _ :: ks,as,bs,vs,h,hp=>by simp[IA.isPlain]at hp
 | .ms :: ks,as,bs,vs,h,hp=>by simp[IA.isPlain]at hp
omit [aA]in
def IU:∀(ks:List IA) (k:Nat) (as:List V),ks.all IA.isPlain=true→pA ks k as=λ_=>none
 | [],k,as,h=>by cases as<;>rfl
 | .plain :: ks,k,[],h=>rfl
 | .plain :: ks,k,a :: as,h=>by
  simp only[List.all_cons,Bool.and_eq_true]at h;show pA ks (k+1) as=_
  exact IU ks (k+1) as h.2
 | .ptr _ :: ks,k,as,h=>by simp[IA.isPlain]at h
 | .mv _ :: ks,k,as,h=>by simp[IA.isPlain]at h
 | .ms :: ks,k,as,h=>by simp[IA.isPlain]at h
omit [aA]in
def zav(h:Nat→Option gA):UD (lJ h) h:=λr row' hr=>by
 unfold lJ at hr;split at hr
 ·rename_i c h1;cases hr;exact⟨_,h1,rfl,λ_=>rfl,λh=>by cases h⟩
 ·rename_i c h1;cases hr;exact⟨_,h1,rfl,λ_=>rfl,λ_=>rfl⟩
 ·exact⟨row',hr,rfl,id,id⟩
omit [aA]in
def zfm(h:Nat→Option gA):UD h (lJ h):=λr row hr=>by
 unfold lJ;obtain⟨c,m⟩:=row;cases m
 ·exact⟨_,by rw[hr],rfl,λ_=>rfl,λh=>by cases h⟩
 ·exact⟨_,by rw[hr],rfl,λh=>h,λh=>by cases h⟩
 ·exact⟨⟨c, .own⟩,by rw[hr],rfl,λ_=>rfl,λh=>by cases h⟩
 ·exact⟨_,by rw[hr],rfl,λ_=>rfl,λ_=>rfl⟩
 ·exact⟨⟨c, .tre⟩,by rw[hr],rfl,λ_=>rfl,λ_=>rfl⟩
def AA.less(hr:AA C w0 outer own ρ st a w){h':Nat→Option gA}(hl:UD h' st.h):AA C w0 outer own ρ {st with h:=h'} a w:=
 ⟨(hr.heap.less hl).1,λi=>(hr.heap.less hl).2 _ _ (hr.slots i),hr.size,hr.defers,hr.glob⟩
variable {o:Oper} {i:Nat} (hr:AA C w0 outer own ρ st a w)
include hr
def zbq(dW:∃N,∀r,N≤r→ρ r=none)(KV:∀q,q<128→ρ (i+q)=none)(f:Nat)(args:Array Value)(as:List V)(xV:args.size=as.length)
  (QV:∀j (hj:j<as.length),VR w ρ (bA outer ρ st.h) (args.getD j undef) as[j]) (BV:(execOp a.eval o).run C.P w=(callFunc f args).run C.P w)
  {ci:RB} (V2:nA C.P f ci C.g) {as':List V} {h':Nat→Option gA} {bs:List Nat} (dX:kB ci.ks as st.h=some (as',h',bs)) {x:ci.A} (lY:ci.dA as'=some x) {r:ci.R} (hF:ci.F x=some r)
  (JV:(ci.eR r).length≤128) (hk:DA C o.dst {st with h:=QE ci as' bs i (ci.eR r) (rH ci (ci.eR r) st.h h')} (HF ci i (ci.eR r)) some=some st'):
  yB C.P o a w (tB C w0 outer own i ρ st'):=by
 obtain⟨N,hN⟩:=dW
 -- the arguments
 have I6:∀q,N≤q→st.h q=none:=λq hq=>by
  cases hg:st.h q with
  | none=>rfl
  | some row=>obtain⟨ri,h3,_⟩:=hr.heap.rows _ _ hg;rw[hN q hq]at h3;cases h3
 obtain⟨ρ',g',c1,c2,c3,c4,c5,c6,c7,c8,c9,c10,c11⟩:=XM N ci.ks as st.h h' as' bs 0 ρ st.h (λj=>args.getD j undef) dX hr.heap QV (λ_ _ h=>h) (λr hr=>hN r (by omega)) I6;have yV:=FJ _ _ _ _ dX;simp only at yV;let φ:Nat→Nat:=λq=>(NA ci.ks 0 bs q).getD (N+q);let E:=pA ci.ks 0 as';let ρc:Nat→Option RI:=λq=>if(E q).isSome=true then ρ' (φ q)else none
 let ownc:Ow:=Ow.of λb=>∃q row ri,E q=some row∧ρc q=some ri∧ri.nl=false∧ri.b=b;let outc:Nat→Prop:=bA outer ρ' h'
 have J6:∀b∈bs,b<N:=λb hb=>by
  rcases Nat.lt_or_ge b N with h3 | h3
  ·exact h3
  ·exact absurd (I6 b h3) (c8 b hb).2
 have hφbox:∀q b,NA ci.ks 0 bs q=some b→φ q=b:=λq b h=>by simp[φ,h]
 have hφarr:∀q,q % 128≠127→φ q=N+q:=λq hq=>by
  have:NA ci.ks 0 bs q=none:=by
   cases hb:NA ci.ks 0 bs q with
   | none=>rfl
   | some b=>exact absurd (iD _ _ _ _ _ hb).2.1 hq
  simp[φ,this]
 -- the rows of the entry
 have hE:∀q row,E q=some row→∃row' ri,g' (φ q)=some row'∧row'.m.isRo=false∧h' (φ q)=none∧ρc q=some ri∧ρ' (φ q)=some ri:=λq row hq=>by
  obtain⟨h1,h2,h3⟩:=c7.row hq;have vV:(E q).isSome=true:=by show(pA ci.ks 0 as' q).isSome=true;have h0:pA ci.ks 0 as' q=some row:=hq;rw[h0];rfl
  rcases h3 with⟨b,ow,k',cs,ri,e1,e2,e3,e4,e5,e6,e7,e8⟩ | ⟨t,l,m0,e1,em,e2,e3⟩
  ·refine⟨_,ri,by rw[hφbox q b e1];exact e6,rfl,by rw[hφbox q b e1];exact(c8 b (iD _ _ _ _ _ e1).2.2).1,?_,by rw[hφbox q b e1];exact e7⟩;simp only[ρc,vV,if_true,hφbox q b e1,e7]
  ·obtain⟨ri,f1,_⟩:=c1.rows _ _ e2;subst e1;refine⟨_,ri,by rw[hφarr q e3];exact e2,em,by rw[hφarr q e3];exact c3 _ (I6 _ (by omega)),?_,by rw[hφarr q e3];exact f1⟩;simp only[ρc,vV,if_true,hφarr q e3,f1]
 have P0:∀b,ownc b→∃q row ri,g' q=some row∧row.m.isRo=false∧h' q=none∧ρ' q=some ri∧ri.nl=false∧ri.b=b:=by
  rintro b ⟨q,row,ri,h1,h2,h3,h4⟩;obtain⟨row',ri',f1,f2,f3,f4,f5⟩:=hE q row h1;rw[h2]at f4;cases f4;exact⟨_,row',ri,f1,f2,f3,f5,h3,h4⟩
 have AV:∀q row,h' q=some row→∃ri,ρ' q=some ri∧(ri.nl=false→¬ownc ri.b∧ri.b<w.heap.size∧(¬outer ri.b∧(row.m.isRo=false→w0.heap.size≤ri.b∨own ri.b))):=λq row hq=>by
  obtain⟨ri,f1,_,f2⟩:=c1.rows q row (c2 q row hq);refine⟨ri,f1,λhn=>⟨λho=>?_,(f2 hn).2,(f2 hn).1⟩⟩;obtain⟨q',row',ri',e1,e2,e3,e4,e5,e6⟩:=P0 _ ho;have:=c1.inj q q' row row' ri ri' (c2 q row hq) e1 f1 e4 hn e5 e6.symm;subst this;rw[hq]at e3;cases e3
 have FW:∀b,ownc b→b<w.heap.size∧(w0.heap.size≤b∨own b):=λb hb=>by
  obtain⟨q',row',ri',e1,e2,e3,e4,e5,e6⟩:=P0 _ hb;obtain⟨ri2,f1,_,f2⟩:=c1.rows q' row' e1;rw[e4]at f1;cases f1;rw[←e6];exact⟨(f2 e5).2,(f2 e5).1.2 e2⟩
 have VV:∀b,outc b→b<w.heap.size∧¬ownc b:=by
  rintro b (hb | ⟨q,row,ri,f1,f2,f3,f4,f5⟩)
  ·obtain⟨g1,g2⟩:=c1.outLt b hb;refine⟨Nat.lt_of_lt_of_le g1 c1.wx.size,λho=>?_⟩
   rcases(FW b ho).2 with h3 | h3
   ·omega
   ·exact g2 h3
  ·obtain⟨ri',k1,k2⟩:=AV q row f1;rw[f3]at k1;cases k1;rw[←f5];exact⟨(k2 f4).2.1,(k2 f4).1⟩
 have VY:∀b,bA outc ρc E b→bA outer ρ' g' b:=by
  rintro b (hb | ⟨q,row,ri,f1,f2,f3,f4,f5⟩)
  ·exact hb.mono λq row h1 h2=>⟨row,c2 q row h1,h2⟩
  ·obtain⟨row',ri',k1,k2,k3,k4,k5⟩:=hE q row f1;rw[f3]at k4;cases k4;exact .inr ⟨_,row',ri,k1,k2,k5,f4,f5⟩
 have hρcbox:∀q b,NA ci.ks 0 bs q=some b→q<128 *ci.ks.length→ρc q=ρ' b:=λq b h _=>by
  obtain⟨row,h0⟩:=c7.found h;have vV:(E q).isSome=true:=by show(pA ci.ks 0 as' q).isSome=true;rw[h0];rfl
  simp only[ρc,vV,if_true,hφbox q b h]
 have WY:∀q b,NA ci.ks 0 bs q=some b→q<128 *ci.ks.length:=λq b h=>by have:=dN _ _ _ _ _ h;omega
 have XY:EA w outc ownc ρc E w:=by
  refine c1.sub φ (Wx.refl _) (λ_ _ _=>rfl) VV (λq row hq=>?_) (λq q' row row' h1 h2 h3=>?_) (pB.zero λq t l m hq=>by rw[show m= .own from EK _ _ _ _ _ V2.1 hq];rfl)
  ·obtain⟨h1,h2,h3⟩:=c7.row hq;obtain⟨row',ri,f1,f2,f3,f4,f5⟩:=hE q row hq;refine⟨row',ri,f1,f4,f5,?_,λhn=>⟨λho=>(VV _ ho).2 ⟨q,row,ri,hq,f4,hn,rfl⟩,λ_=> .inr ⟨q,row,ri,hq,f4,hn,rfl⟩⟩⟩;obtain⟨ri2,k1,k2,_⟩:=c1.rows _ _ f1;rw[f5]at k1;cases k1
   rcases h3 with⟨b,ow,k',cs,ri',e1,e2,e3,e4,e5,e6,e7,e8,e9,e10,e11,e12⟩ | ⟨t,l,m0,e1,em,e2,e3⟩
   ·rw[hφbox q b e1,e6]at f1;cases f1;subst e5;refine⟨k2.1,λj hj=>?_⟩;rw[SC]at hj;obtain⟨g1,x,g2,g3⟩:=k2.2 j (by rw[SC];exact hj);refine⟨g1,x,g2,?_⟩
    have:=zK (w:=w) (ρ:=ρ') (ρ2:=ρc) (bad:=bA outer ρ' g') (bad2:=bA outc ρc E) ow (N+128 *k') (128 *k') cs 0 (λj=>(w.cell? (iA ri.b j)).getD undef) (λq' _ h4 h5 h6=>by
      obtain⟨t,l,h6⟩:=h6;obtain⟨m1,h0⟩:=e12 q' t l (by simpa using h6) h5;have vV:(E (128 *k'+q')).isSome=true:=by show(pA ci.ks 0 as' (128 *k'+q')).isSome=true;rw[h0];rfl
      simp only[ρc,vV,if_true];rw[hφarr _ (by omega)];congr 1;omega) e10 VY (λj hj=>by
      obtain⟨_,x,g2,g3⟩:=k2.2 j hj;rw[g2];exact g3) j (by rw[SC];exact hj)
    rw[g2]at this;exact this
   ·subst e1;rw[hφarr q e3,e2]at f1;cases f1;exact uM k2 VY ρc
  ·obtain⟨_,_,h4⟩:=c7.row h1;obtain⟨_,_,h5⟩:=c7.row h2
   rcases h4 with⟨b,_,_,_,_,e1,_⟩ | ⟨_,_,_,_,_,_,e3⟩<;>rcases h5 with⟨b',_,_,_,_,e1',_⟩ | ⟨_,_,_,_,_,_,e3'⟩
   ·rw[hφbox q b e1,hφbox q' b' e1']at h3;subst h3;exact VK _ _ _ _ _ _ c9 e1 e1'
   ·rw[hφbox q b e1,hφarr q' e3']at h3;have:=J6 b (iD _ _ _ _ _ e1).2.2;omega
   ·rw[hφbox q' b' e1',hφarr q e3]at h3;have:=J6 b' (iD _ _ _ _ _ e1').2.2;omega
   ·rw[hφarr q e3,hφarr q' e3']at h3;omega
 obtain⟨FY,G5⟩:=c7.vals VY (λq b h=>hρcbox q b h (WY q b h)) λq row h h3=>by
  have vV:(E q).isSome=true:=by show(pA ci.ks 0 as' q).isSome=true;rw[h];rfl
  simp only[ρc,vV,if_true,hφarr q h3]
 have BX:∀q,ρ q≠none→Out i 128 q:=λq hq h3=>hq (by
  have:=KV (q - i) (by omega);rwa [show i+(q - i)=q by omega]at this)
 have hsthρ:∀q row,st.h q=some row→ρ q≠none:=λq row hq=>by
  obtain⟨ri,h3,_⟩:=hr.heap.rows _ _ hq;rw[h3];simp
 have hbsρ:∀b∈bs,ρ b≠none:=λb hb=>by
  cases hq:st.h b with
  | none=>exact absurd hq (c8 b hb).2
  | some row=>exact hsthρ b row hq
 have G:=V2.2 w args as' outc ownc ρc x r i bs (by rw[xV,c10]) FY XY G5 (λq hq=>by simp only[ρc];rw[if_neg];show ¬(pA ci.ks 0 as' q).isSome=true;rw[hq];simp) c9 (λb hb=>BX b (hbsρ b hb)) lY hF JV
  ⟨C.g.stay w0 w (λc hc=>hr.heap.old c (Nat.lt_of_lt_of_le hc (C.g.lt _ hr.glob.p)) (hr.glob.own c hc)) hr.glob.p,λc hc ho=>by
   have:=Nat.lt_of_lt_of_le hc (C.g.lt _ hr.glob.p)
   rcases(FW c ho).2 with h | h
   ·omega
   ·exact hr.glob.own c hc h,Nat.le_trans hr.glob.base hr.heap.wx.size,λc hc ho=>by
   have:=Nat.lt_of_lt_of_le hc hr.glob.base
   rcases(FW c ho).2 with h | h
   ·omega
   ·exact hr.glob.low c hc h⟩
 -- a call that leaves all as it is
 cases mY:pI ci (ci.eR r)
 case true=>
  simp only[rH,mY,cond_true]at hk;simp only[pI,Bool.and_eq_true,Bool.not_eq_true']at mY;obtain⟨⟨RZ,yX⟩,K6⟩:=mY;have z8:E=λ_=>none:=IU _ _ _ yX
  have nW:∀b,¬ownc b:=by
   rintro b ⟨q,row,ri,h1,_⟩;rw[z8]at h1;cases h1
  obtain⟨s1,s2⟩:=MS ci.own i (ci.eR r) 0 K6
  have qW:Sc (HF ci i (ci.eR r)):=by
   unfold HF;rw[RZ,cond_false];exact zid _ _ s1
  have L6:fC ci as' bs i (ci.eR r)=HA ci.own i (λ_=>none) 0 (ci.eR r):=by
   unfold fC oD;rw[RZ,cond_false,mU _ _ _ _ _ yX]
  have fin0:∀v w1,(∃ρx,EA w outc ownc ρx (fC ci as' bs i (ci.eR r)) w1∧
    VR w1 ρx (bA outc ρx (fC ci as' bs i (ci.eR r))) v (HF ci i (ci.eR r))∧
    (∀q b,NA ci.ks 0 bs q=some b→ρx b=ρc q)∧(∀r,ρx r≠none→(i≤r∧r<i+128)∨r∈bs))→tB C w0 outer own i ρ st' (a.put o.dst v) w1:=by
   rintro v w1 ⟨ρx,hX,hV,_,Q0⟩;have hg:=hr.grow hX.wx λb hb=>hX.old b hb (nW b)
   have J1:∀q,QE ci as' bs i (ci.eR r) st.h q=match fC ci as' bs i (ci.eR r) q with | some x=>some x | none=>st.h q:=λq=>by
    rw[cJ]
    all_goals (cases fC ci as' bs i (ci.eR r) q<;>rfl)
   generalize I4:fC ci as' bs i (ci.eR r)=X at hX hV J1 L6;generalize QE ci as' bs i (ci.eR r) st.h=rW at hk J1;let ρn:Nat→Option RI:=λq=>if i≤q∧q<i+128 then ρx q else ρ q
   have BX:∀q,ρ q≠none→¬(i≤q∧q<i+128):=λq hq h3=>hq (by
    have:=KV (q - i) (by omega);rwa [show i+(q - i)=q by omega]at this)
   have M6:∀q row,X q=some row→i≤q∧q<i+128:=λq row hq=>by
    rw[L6]at hq;obtain⟨_,_,_,e1,e2⟩:=UB _ _ _ _ _ _ hq;omega
   have hρo:∀q ri,ρ q=some ri→ρn q=some ri:=λq ri hq=>by
    simp only[ρn,BX q (by rw[hq];simp),if_false];exact hq
   have hρX:∀q row ri,X q=some row→ρx q=some ri→ρn q=some ri:=λq row ri hq h3=>by
    simp only[ρn,M6 q row hq,and_self,if_true];exact h3
   have ZV:∀q row,X q=some row→∃ri t l m,row=⟨.arr t l,m⟩∧t.flat=true∧ρx q=some ri∧uC w1 ρx (bA outc ρx X) ri (.arr t l)∧(ri.nl=false→w.heap.size≤ri.b∧ri.b<w1.heap.size):=λq row hq=>by
    obtain⟨ri,k1,k2,k3⟩:=hX.rows q row hq;have MW:=hq;rw[L6]at MW;obtain⟨t,l,e0,_,_⟩:=UB _ _ _ _ _ _ MW;subst e0;refine⟨ri,t,l,_,rfl,s2 q t l _ MW,k1,k2,λhn=>⟨?_,(k3 hn).2⟩⟩
    rcases(k3 hn).1.2 (CQ _ _)with h | h
    ·exact h
    ·exact absurd h (nW _)
   have TV:∀q row,rW q=some row→X q=some row∨(X q=none∧st.h q=some row):=λq row hq=>by
    rw[J1]at hq;cases hx:X q with
    | some y=>rw[hx]at hq;exact .inl hq
    | none=>rw[hx]at hq;exact .inr ⟨rfl,hq⟩
   have YY:∀q row ri,st.h q=some row→ρ q=some ri→ri.nl=false→ri.b<w.heap.size:=λq row ri hq h3 hn=>by
    obtain⟨ri',k1,_,k3⟩:=hr.heap.rows q row hq;rw[h3]at k1;cases k1;exact(k3 hn).2
   have hstρ:∀q row,st.h q=some row→∃ri,ρ q=some ri:=λq row hq=>by
    obtain⟨ri,k1,_⟩:=hr.heap.rows q row hq;exact⟨ri,k1⟩
   have kW:∀b,bA outer ρn rW b→bA outer ρ st.h b∨w.heap.size≤b:=by
    rintro b (hb | ⟨q,row,ri,f1,f2,f3,f4,f5⟩)
    ·exact .inl (.inl hb)
    ·rcases TV q row f1 with h3 | ⟨_,h3⟩
     ·obtain⟨ri',t,l,_,_,_,k1,_,k2⟩:=ZV q row h3;rw[hρX q row ri' h3 k1]at f3;cases f3;exact .inr (by rw[←f5];exact(k2 f4).1)
     ·obtain⟨ri',k1⟩:=hstρ q row h3;rw[hρo q ri' k1]at f3;cases f3;exact .inl (.inr ⟨q,row,_,h3,f2,k1,f4,f5⟩)
   have keepAll:∀u d,VR w ρ (bA outer ρ st.h) u d→VR w1 ρn (bA outer ρn rW) u d:=λu d hu=>
    hu.mono hρo (λb _ vV=>hX.old b vV (nW b)) kW
   have ZY:EA w0 outer own ρn rW w1:=by
    refine⟨hg.heap.wx,hg.heap.old,hg.heap.outLt,λq row hq=>?_,λq q' row row' qi qi' h1 h2 h3 h4 h5 h6 h7=>?_,?_⟩
    rotate_right
    ·obtain⟨par,hd⟩:=hr.heap.dep;refine⟨λb=>if w.heap.size≤b then none else par b,λq t l m ri h1 hm h2 h3=>?_⟩
     rcases TV q _ h1 with h4 | ⟨_,h4⟩
     ·obtain⟨ri',t',l',m',e0,ht,k1,k2,k3⟩:=ZV q _ h4;cases e0;rw[hρX q _ ri' h4 k1]at h2;cases h2;refine⟨by simp[(k3 h3).1],λa ha j hj=>?_⟩
      rcases k2.2 with h | ⟨_,_,_,_,_,e5⟩
      ·rw[h3]at h;cases h.1
      obtain⟨u,f1,f2⟩:=e5 a ha j hj;exact⟨u,f1, .triv _ _ _ (GO ht f2 hj)⟩
     ·obtain⟨ri',k1⟩:=hstρ q _ h4;rw[hρo q ri' k1]at h2;cases h2;have vV:=YY q _ _ h4 k1 h3;have hd:=hd q t l m _ h4 hm k1 h3;refine hd.gen rfl (hX.old _ vV (nW _)) (λb _ hc _=>hX.old b hc.lt (nW b)) (λb hc _ hb=>(kW b hb).elim id λh=>by have:=hc.lt;omega) (λ_ h=>h) ?_ λb p _ hc _ hp=>?_
      ·have:¬w.heap.size≤ri.b:=by omega
       simp only[this,if_false];exact hd.1
      ·have:¬w.heap.size≤b:=by have:=hc.lt;omega
       simp only[this,if_false];exact hp
    ·rcases TV q row hq with h3 | ⟨_,h3⟩
     ·obtain⟨ri,t,l,m0,rfl,ht,k1,k2,k3⟩:=ZV q row h3;refine⟨ri,hρX q _ ri h3 k1,⟨k2.1,?_⟩,λhn=>⟨⟨λho=>?_,λ_=> .inl (Nat.le_trans hr.heap.wx.size (k3 hn).1)⟩,(k3 hn).2⟩⟩
      ·rcases k2.2 with h4 | ⟨e1,ee,e2,e3,e4,e5⟩
       ·exact .inl h4
       ·refine .inr ⟨e1,ee,e2,e3,e4,λa ha j hj=>?_⟩;obtain⟨u,f1,f2⟩:=e5 a ha j hj;exact⟨u,f1,f2.noRef (λS=>oH S t _ j) ρn |>.sc (ziJ ht _ j) λ_ _ h=>h⟩
      ·have:=(hr.heap.outLt _ ho).1;have:=hr.heap.wx.size;have:=(k3 hn).1;omega
     ·obtain⟨ri,k1,k2,k3⟩:=hr.heap.rows q row h3;exact⟨ri,hρo q ri k1,k2.keep (λhn=>hX.old _ (k3 hn).2 (nW _)) keepAll,λhn=>⟨(k3 hn).1,Nat.lt_of_lt_of_le (k3 hn).2 hX.wx.size⟩⟩
    ·rcases TV q row h1 with k1 | ⟨_,k1⟩<;>rcases TV q' row' h2 with k2 | ⟨_,k2⟩
     ·obtain⟨r1,_,_,_,_,_,e1,_⟩:=ZV q row k1;obtain⟨r2,_,_,_,_,_,e2,_⟩:=ZV q' row' k2;rw[hρX q row r1 k1 e1]at h3;cases h3;rw[hρX q' row' r2 k2 e2]at h4;cases h4;exact hX.inj q q' row row' _ _ k1 k2 e1 e2 h5 h6 h7
     ·obtain⟨r1,_,_,_,_,_,e1,_,e2⟩:=ZV q row k1;obtain⟨r2,e3⟩:=hstρ q' row' k2;rw[hρX q row r1 k1 e1]at h3;cases h3;rw[hρo q' r2 e3]at h4;cases h4;have h8:=(e2 h5).1;have h9:=YY q' row' _ k2 e3 h6;omega
     ·obtain⟨r1,_,_,_,_,_,e1,_,e2⟩:=ZV q' row' k2;obtain⟨r2,e3⟩:=hstρ q row k1;rw[hρX q' row' r1 k2 e1]at h4;cases h4;rw[hρo q r2 e3]at h3;cases h3;have h8:=(e2 h6).1;have h9:=YY q row _ k1 e3 h5;omega
     ·obtain⟨r1,e1⟩:=hstρ q row k1;obtain⟨r2,e2⟩:=hstρ q' row' k2;rw[hρo q r1 e1]at h3;cases h3;rw[hρo q' r2 e2]at h4;cases h4;exact hr.heap.inj q q' row row' _ _ k1 k2 e1 e2 h5 h6 h7
   have tW:AA C w0 outer own ρn {st with h:=rW} a w1:=hr.turn ZY keepAll;refine⟨ρn,(tW.put (hV.sc qW λq ri hq=>?_) hk).1,λq hq=>?_,hρo⟩
   ·have:i≤q∧q<i+128:=by
     rcases Q0 q (by rw[hq];simp)with h | h
     ·exact h
     ·exact absurd h (by
       have:bs=[]:=by
        cases bs with
        | nil=>rfl
        | cons b bs'=>
         obtain⟨q',MW⟩:=c7.surj b (by simp);obtain⟨row,sV⟩:=c7.found MW;have:pA ci.ks 0 as'=λ_=>none:=z8;rw[this]at sV;cases sV
       rw[this];simp)
    simp only[ρn,this,and_self,if_true];exact hq
   ·simp only[ρn,hq,if_false]
  intro next Q hn;unfold Oper.wp;rw[BV]
  rcases G with⟨G1,G2⟩ | ⟨v,w1,G1,G2⟩
  ·rw[G1,Oper.upon_enter];refine Calls.mono' G2 ?_;rintro e w1 ⟨v,rfl,h3⟩;exact hn _ _ (fin0 v w1 h3)
  ·rw[G1,Oper.upon_value];exact hn _ _ (fin0 v w1 G2)
 simp only[rH,mY,cond_false]at hk
 -- rows that stay the caller's own
 have S0:∀hb,(bif ci.pb then h' else match kD ci.own 0 (ci.eR r)with | some m=>vH m st.h h' | none=>h')=hb→
   ∀q row,hb q=some row→h' q=some row∨(∃t l m c,ci.pb=false∧kD ci.own 0 (ci.eR r)=some m∧m≤t.rank∧row=⟨.arr t l, .own⟩∧st.h q=some row∧h' q=some ⟨c, .ro⟩):=by
  rintro hb rfl q row hq;cases hp:ci.pb
  ·rw[hp,cond_false]at hq;cases hm:kD ci.own 0 (ci.eR r)with
   | none=>rw[hm]at hq;exact .inl hq
   | some m=>
    rw[hm]at hq;have hq:vH m st.h h' q=some row:=hq;unfold vH at hq;split at hq
    ·rename_i t l c h3 h4;cases U0:Nat.ble m t.rank
     ·rw[U0,cond_false]at hq;exact .inl (by rw[h4];exact hq)
     ·rw[U0,cond_true]at hq;cases hq;exact .inr ⟨t,l,m,c,rfl,rfl,Nat.le_of_ble_eq_true U0,rfl,h3,h4⟩
    ·exact .inl hq
  ·rw[hp,cond_true]at hq;exact .inl hq
 generalize A8:(bif ci.pb then h' else match kD ci.own 0 (ci.eR r)with | some m=>vH m st.h h' | none=>h')=hb at hk
 replace S0:=S0 hb A8
 clear A8
 -- behind the call
 have aB:∀v w1,(∃ρx,EA w outc ownc ρx (fC ci as' bs i (ci.eR r)) w1∧
   VR w1 ρx (bA outc ρx (fC ci as' bs i (ci.eR r))) v (HF ci i (ci.eR r))∧
   (∀q b,NA ci.ks 0 bs q=some b→ρx b=ρc q)∧(∀r,ρx r≠none→(i≤r∧r<i+128)∨r∈bs))→tB C w0 outer own i ρ st' (a.put o.dst v) w1:=by
  rintro v w1 ⟨ρx,hX,hV,zW,Q0⟩;generalize I4:fC ci as' bs i (ci.eR r)=X at hX hV
  have B8:∀m,ci.pb=false→kD ci.own 0 (ci.eR r)=some m→(∀q row,X q=some row→dR m row.c)∧Rk m (HF ci i (ci.eR r)):=λm hp hm=>by
   have:=ziz (as:=as') (bs:=bs) (base:=i) hm hp;rw[I4]at this;exact this
  have J1:∀q,QE ci as' bs i (ci.eR r) hb q=match X q with | some x=>some x | none=>hb q:=λq=>by
   rw[cJ,I4]
   all_goals (cases X q<;>rfl)
  generalize iW:QE ci as' bs i (ci.eR r) hb=rW at hk J1;let ρn:Nat→Option RI:=λq=>if i≤q∧q<i+128 then ρx q else ρ q
  have hρbs:∀b∈bs,ρx b=ρ b:=λb hb=>by
   obtain⟨q,hq⟩:=c7.surj b hb;rw[zW q b hq,hρcbox q b hq (WY q b hq),c11 b (J6 b hb)]
  have hρx:∀q,ρx q≠none→ρn q=ρx q:=λq hq=>by
   by_cases UV:i≤q∧q<i+128
   ·simp only[ρn,UV,and_self,if_true]
   ·simp only[ρn,UV,if_false]
    rcases Q0 q hq with h3 | h3
    ·exact absurd h3 UV
    ·exact(hρbs q h3).symm
  have hρo:∀q,ρ q≠none→ρn q=ρ q:=λq hq=>by
   have:¬(i≤q∧q<i+128):=BX q hq;simp only[ρn,this,if_false]
  have hρ':∀q ri,ρ q≠none→ρ' q=some ri→ρ q=some ri:=λq ri hq h3=>by
   cases h4:ρ q with
   | none=>exact absurd h4 hq
   | some ri'=>have:=c5 _ _ h4;rw[h3]at this;rw[this]
  have TV:∀q row,rW q=some row→X q=some row∨(X q=none∧hb q=some row):=λq row hq=>by
   rw[J1]at hq;cases hx:X q with
   | some y=>rw[hx]at hq;exact .inl hq
   | none=>rw[hx]at hq;exact .inr ⟨rfl,hq⟩
  have hh'ρ:∀q row,h' q=some row→ρ q≠none:=λq row hq=>by
   obtain⟨row',h3,_⟩:=yV q row hq;exact hsthρ q row' h3
  have hbρ:∀q row,hb q=some row→ρ q≠none:=λq row hq=>by
   rcases S0 q row hq with h3 | ⟨_,_,_,_,_,_,_,_,_,h3⟩
   ·exact hh'ρ q row h3
   ·exact hh'ρ q _ h3
  have hXρ:∀q row,X q=some row→ρn q=ρx q:=λq row hq=>by
   obtain⟨ri,h3,_⟩:=hX.rows q row hq;exact hρx q (by rw[h3];simp)
  -- the xB of rows that stay the caller's own
  let Rest:Nat→Prop:=λb=>∃q t l m c ri,ci.pb=false∧kD ci.own 0 (ci.eR r)=some m∧m≤t.rank∧st.h q=some ⟨.arr t l, .own⟩∧h' q=some ⟨c, .ro⟩∧ρ q=some ri∧ri.nl=false∧ri.b=b
  have kW:∀b,bA outer ρn rW b→bA outc ρx X b∨Rest b:=by
   rintro b (NV | ⟨q,row,ri,f1,f2,f3,f4,f5⟩)
   ·exact .inl (.inl (.inl NV))
   ·rcases TV q row f1 with h3 | ⟨_,h3⟩
    ·rw[hXρ q row h3]at f3;exact .inl (.inr ⟨q,row,ri,h3,f2,f3,f4,f5⟩)
    ·rw[hρo q (hbρ q row h3)]at f3
     rcases S0 q row h3 with h3 | ⟨t,l,m,c,e1,e2,e3,rfl,e5,e6⟩
     ·exact .inl (.inl (.inr ⟨q,row,ri,h3,f2,c5 _ _ f3,f4,f5⟩))
     ·exact .inr ⟨q,t,l,m,c,ri,e1,e2,e3,e5,e6,f3,f4,f5⟩
  have CX:∀b,ownc b→bA outer ρ' g' b:=λb hb=>by
   obtain⟨q,row,ri,e1,e2,e3,e4,e5,e6⟩:=P0 b hb;exact .inr ⟨q,row,ri,e1,e2,e4,e5,e6⟩
  have XW:∀b,bA outc ρx X b→bA outer ρ' g' b∨w.heap.size≤b:=by
   rintro b (hb | ⟨q,row,ri,f1,f2,f3,f4,f5⟩)
   ·exact .inl (hb.mono λq row h1 h2=>⟨row,c2 q row h1,h2⟩)
   ·obtain⟨ri',k1,_,k2⟩:=hX.rows q row f1;rw[f3]at k1;cases k1
    rcases(k2 f4).1.2 f2 with h3 | h3
    ·exact .inr (by omega)
    ·exact .inl (by rw[←f5];exact CX _ h3)
  -- what the arguments' taking keeps clear of was kept clear of before
  have oX:∀b,EB w b→bA outer ρ' g' b→bA outer ρ st.h b:=by
   rintro b ⟨o,u,hu⟩ NV;refine Classical.byContradiction λhn=>?_
   have h1:VR w ρ (bA outer ρ st.h) (.pointer (some (iA b (o+0)))) (.fp [.undef] 0):=
    .fp [.undef] 0 b o (fun _ => u) (by simp) hn (fun j hj => by have : j = 0 := by simpa using hj
                                                                 subst this;exact hu) λj hj=>by
     have:j=0:=by simpa using hj
     subst this;exact .undef _
   have h2:=c6 _ _ h1;generalize hp:Value.pointer (some (iA b (o+0)))=pv at h2;cases h2 with
   | fp _ _ b2 o2 u2 _ OY hu2 _=>
    have:b=b2:=by injection hp with hp;injection hp with hp;exact congrArg Addr.block hp
    subst this;exact OY NV
  have nY:∀b,Rest b→bA outer ρ st.h b∧b<w.heap.size∧¬ownc b∧aA.base≤b∧∃t m,ID w b t∧ci.pb=false∧kD ci.own 0 (ci.eR r)=some m∧m≤t.rank:=by
   rintro b ⟨q,t,l,m,c,ri,e1,e2,e3,e4,e5,e6,e7,e8⟩;obtain⟨ri2,k1,k2,k3⟩:=hr.heap.rows q _ e4;rw[e6]at k1;cases k1;obtain⟨ri3,n1,n2⟩:=AV q _ e5;have:=c5 _ _ e6;rw[n1]at this;cases this;subst e8;refine⟨.inr ⟨q,_,ri,e4,rfl,e6,e7,rfl⟩,(k3 e7).2,(n2 e7).1,?_,t,m,?_,e1,e2,e3⟩
   ·rcases(k3 e7).1.2 rfl with h | h
    ·exact Nat.le_trans hr.glob.base h
    ·exact Nat.le_of_not_lt λh'=>hr.glob.low _ h' h
   ·rcases k2.2 with h | ⟨_,he,_⟩
    ·rw[e7]at h;cases h.1
    ·exact he
  have keepAll:∀u d,VR w ρ (bA outer ρ st.h) u d→VR w1 ρn (bA outer ρn rW) u d:=λu d hu=>
   hu.keep2 hu.refs (λq ri hq h3=>by rw[hρo q hq];exact h3)
    (fun b hb hc=>by
     obtain⟨_,_,bX⟩:=hc;exact hX.old b (QH bX) λho=>hb (oX b ⟨_,_,bX⟩ (CX b ho)))
    λb hc NV=>by
     obtain⟨_,_,bX⟩:=id hc;have:=QH bX
     rcases kW b NV with h | h
     ·rcases XW b h with h | h
      ·exact oX b hc h
      ·omega
     ·exact(nY b h).1
  have keepX:∀u d,(∀m,ci.pb=false→kD ci.own 0 (ci.eR r)=some m→Rk m d)→VR w1 ρx (bA outc ρx X) u d→VR w1 ρn (bA outer ρn rW) u d:=λu d hk hu=>by
   have h0:VR w1 ρx (bA outer ρn rW) u d:=by
    by_cases hm:∃m,ci.pb=false∧kD ci.own 0 (ci.eR r)=some m
    ·obtain⟨m,hp,hm⟩:=hm;refine hu.widen (hk m hp hm) λb NV=>?_
     rcases kW b NV with h | h
     ·exact .inl h
     ·obtain⟨_,h1,h2,h3,t,m',h4,_,h5,h6⟩:=nY b h;rw[hm]at h5;cases h5;exact .inr ⟨h3,t,h4.same (hX.old b h1 h2),h6⟩
    ·refine hu.mono (λ_ _ h=>h) (λ_ _ _=>rfl) λb NV=>?_
     rcases kW b NV with h | ⟨_,_,_,m,_,_,h1,h2,_⟩
     ·exact .inl h
     ·exact absurd ⟨m,h1,h2⟩ hm
   exact h0.keep h0.refs (λq ri hq h3=>by rw[hρx q hq];exact h3) (λ_ _ _=>rfl) λb hb=> .inl hb
  have keepRow:∀q row ri,X q=some row→uC w1 ρx (bA outc ρx X) ri row.c→uC w1 ρn (bA outer ρn rW) ri row.c:=λq row ri hq FV=>by
   by_cases hm:∃m,ci.pb=false∧kD ci.own 0 (ci.eR r)=some m
   ·obtain⟨m,hp,hm⟩:=hm;exact FV.keepR ((B8 m hp hm).1 q row hq) (λ_=>rfl) λu d hd hu=>keepX u d (λm' _ LW=>by rw[hm]at LW;cases LW;exact hd) hu
   ·exact FV.keep (λ_=>rfl) λu d hu=>keepX u d (λm hp h=>absurd ⟨m,hp,h⟩ hm) hu
  have ZV:∀q row,X q=some row→∃ri,ρn q=some ri∧ρx q=some ri∧uC w1 ρx (bA outc ρx X) ri row.c∧(ri.nl=false→(w.heap.size≤ri.b∨ownc ri.b)∧ri.b<w1.heap.size):=λq row hq=>by
   obtain⟨ri,k1,k2,k3⟩:=hX.rows q row hq;exact⟨ri,by rw[hXρ q row hq];exact k1,k1,k2,λhn=>⟨(k3 hn).1.2 (CN (SS JV (by rw[←I4]at hq;exact hq))),(k3 hn).2⟩⟩
  have pX:∀q row,hb q=some row→∃ri,ρn q=some ri∧ρ q=some ri∧ρ' q=some ri∧uC w ρ (bA outer ρ st.h) ri row.c∧(ri.nl=false→¬ownc ri.b∧ri.b<w.heap.size∧(¬outer ri.b∧(row.m.isRo=false→w0.heap.size≤ri.b∨own ri.b))):=λq row hq=>by
   rcases S0 q row hq with hq | ⟨t,l,m,c,e1,e2,e3,rfl,e5,e6⟩
   ·obtain⟨row',h3,h4,_⟩:=yV q row hq;obtain⟨ri,k1,k2,_⟩:=hr.heap.rows q row' h3;obtain⟨ri',k3,k4⟩:=AV q row hq;have:=c5 _ _ k1;rw[k3]at this;cases this;exact⟨ri,by rw[hρo q (hh'ρ q row hq)];exact k1,k1,k3,by rw[←h4];exact k2,k4⟩
   ·obtain⟨ri,k1,k2,k5⟩:=hr.heap.rows q _ e5;obtain⟨ri',k3,k4⟩:=AV q _ e6;have:=c5 _ _ k1;rw[k3]at this;cases this;exact⟨ri,by rw[hρo q (hh'ρ q _ e6)];exact k1,k1,k3,k2,λhn=>⟨(k4 hn).1,(k4 hn).2.1,(k5 hn).1⟩⟩
  have C8:∀q row,hb q=some row→∃row',g' q=some row':=λq row hq=>by
   rcases S0 q row hq with hq | ⟨t,l,m,c,e1,e2,e3,rfl,e5,e6⟩
   ·exact⟨_,c2 q row hq⟩
   ·exact⟨_,c2 q _ e6⟩
  have ZY:EA w0 outer own ρn rW w1:=by
   refine⟨hr.heap.wx.trans hX.wx,λb hb ho=>?_,hr.heap.outLt,λq row hq=>?_,λq q' row row' qi qi' h1 h2 h3 h4 h5 h6 h7=>?_,?_⟩
   rotate_right
   ·classical
    obtain⟨parX,V9⟩:=hX.dep;obtain⟨parS,W9⟩:=hr.heap.dep;have SZ:∀b,EB w b→ownc b→bA outer ρ st.h b:=λb hc ho=>oX b hc (CX b ho);refine⟨λb=>if w.heap.size≤b∨ownc b then parX b else parS b,λq t l m ri h1 hm h2 h3=>?_⟩
    rcases TV q _ h1 with h4 | ⟨_,h4⟩
    ·obtain⟨ri',e1,e2,_,e3⟩:=ZV q _ h4;rw[e1]at h2;cases h2;have hd:=V9 q t l m _ h4 hm e2 h3;refine hd.gen rfl rfl (λ_ _ _ _=>rfl) (λb hc hf NV=>?_) (λb hf=>?_) (by rw[if_pos (e3 h3).1];exact hd.1) λb p _ _ hf hp=>by rw[if_pos (show w.heap.size≤b∨ownc b from hf)];exact hp
     ·rcases kW b NV with h | h
      ·exact h
      ·obtain⟨_,h5,h6,_⟩:=nY b h
       rcases hf with hf | hf
       ·omega
       ·exact absurd hf h6
     ·rcases hf with hf | hf
      ·exact .inl (Nat.le_trans hr.heap.wx.size hf)
      ·exact(FW b hf).2.imp id (own.ok b)
    ·rcases S0 q _ h4 with h5 | ⟨_,_,_,_,_,_,_,h6,_⟩
     case inr=>
      cases h6;cases hm
     obtain⟨⟨c0,m0⟩,e1,e2,_,e3⟩:=yV q _ h5;have e4:m0.isTre=true:=e3 hm;have e5:c0= .arr t l:=e2;subst e5;obtain⟨ri',k1,k2,k3,k4,k5⟩:=pX q _ h4;rw[k1]at h2;cases h2;have hd:=W9 q t l m0 _ e1 e4 k2 h3;refine hd.gen rfl (hX.old _ (k5 h3).2.1 (k5 h3).1) (λb hb hc _=>hX.old b hc.lt λho=>hb (SZ b hc ho)) (λb hc _ NV=>?_) (λ_ h=>h) ?_ λb p hb hc _ hp=>?_
     ·rcases kW b NV with h | h
      ·rcases XW b h with h | h
       ·exact oX b hc h
       ·have:=hc.lt;omega
      ·exact(nY b h).1
     ·rw[if_neg]
      ·exact hd.1
      ·rintro(h | h)
       ·have:=(k5 h3).2.1;omega
       ·exact(k5 h3).1 h
     ·rw[if_neg]
      ·exact hp
      ·rintro(h | h)
       ·have:=hc.lt;omega
       ·exact hb (SZ b hc h)
   ·rw[←hr.heap.old b hb ho];refine hX.old b (Nat.lt_of_lt_of_le hb hr.heap.wx.size) λN6=>?_
    rcases(FW b N6).2 with h3 | h3
    ·omega
    ·exact ho h3
   ·rcases TV q row hq with h3 | ⟨_,h3⟩
    ·obtain⟨ri,k1,k2,k3,k4⟩:=ZV q row h3;refine⟨ri,k1,keepRow q row ri h3 k3,λhn=>⟨?_,(k4 hn).2⟩⟩
     have hx:w0.heap.size≤ri.b∨own ri.b:=by
      rcases(k4 hn).1 with h4 | h4
      ·exact .inl (Nat.le_trans hr.heap.wx.size h4)
      ·exact(FW _ h4).2
     refine⟨λho=>?_,λ_=>hx⟩;obtain⟨g1,g2⟩:=hr.heap.outLt _ ho
     rcases hx with hx | hx
     ·omega
     ·exact g2 hx
    ·obtain⟨ri,k1,k2,k3,k4,k5⟩:=pX q row h3;refine⟨ri,k1,k4.keep (λhn=>hX.old _ (k5 hn).2.1 (k5 hn).1) keepAll,λhn=>⟨(k5 hn).2.2,Nat.lt_of_lt_of_le (k5 hn).2.1 hX.wx.size⟩⟩
   ·rcases TV q row h1 with k1 | ⟨_,k1⟩<;>rcases TV q' row' h2 with k2 | ⟨_,k2⟩
    ·obtain⟨r1,e1,e2,_⟩:=ZV q row k1;obtain⟨r2,e3,e4,_⟩:=ZV q' row' k2;rw[h3]at e1;cases e1;rw[h4]at e3;cases e3;exact hX.inj q q' row row' qi qi' k1 k2 e2 e4 h5 h6 h7
    ·obtain⟨r1,e1,e2,_,e5⟩:=ZV q row k1;obtain⟨r2,e3,e4,e6,_,e7⟩:=pX q' row' k2;rw[h3]at e1;cases e1;rw[h4]at e3;cases e3
     rcases(e5 h5).1 with h8 | h8
     ·have:=(e7 h6).2.1;omega
     ·rw[h7]at h8;exact absurd h8 (e7 h6).1
    ·obtain⟨r1,e1,e2,_,e5⟩:=ZV q' row' k2;obtain⟨r2,e3,e4,e6,_,e7⟩:=pX q row k1;rw[h4]at e1;cases e1;rw[h3]at e3;cases e3
     rcases(e5 h6).1 with h8 | h8
     ·have:=(e7 h5).2.1;omega
     ·rw[←h7]at h8;exact absurd h8 (e7 h5).1
    ·obtain⟨r1,e1,e2,e2',_⟩:=pX q row k1;obtain⟨r2,e3,e4,e4',_⟩:=pX q' row' k2;rw[h3]at e1;cases e1;rw[h4]at e3;cases e3;obtain⟨y1,y2⟩:=C8 q row k1;obtain⟨y3,y4⟩:=C8 q' row' k2;exact c1.inj q q' y1 y3 qi qi' y2 y4 e2' e4' h5 h6 h7
  have tW:AA C w0 outer own ρn {st with h:=rW} a w1:=hr.turn ZY keepAll;refine⟨ρn,(tW.put (keepX _ _ (λm hp hm=>(B8 m hp hm).2) hV) hk).1,λq hq=>?_,λq ri hq=>?_⟩
  ·simp only[ρn,hq,if_false]
  ·rw[hρo q (by rw[hq];simp)];exact hq
 intro next Q hn;unfold Oper.wp;rw[BV]
 rcases G with⟨G1,G2⟩ | ⟨v,w1,G1,G2⟩
 ·rw[G1,Oper.upon_enter];refine Calls.mono' G2 ?_;rintro e w1 ⟨v,rfl,h3⟩;exact hn _ _ (aB v w1 h3)
 ·rw[G1,Oper.upon_value];exact hn _ _ (aB v w1 G2)
omit hr in
omit [aA]in
def zh6{ci:RB}{as:List V}{bs:List Nat}{i:Nat}{rs:List V}{h h':Nat→Option gA}(hl:UD h h'):UD (QE ci as bs i rs h) (QE ci as bs i rs h'):=λr row hr=>by
 rw[cJ]at hr⊢;split at hr
 ·rename_i x hx;cases hr;exact⟨_,rfl,rfl,id,id⟩
 ·exact hl r row hr
omit hr in
omit [aA]in
def ziW{dst:Option Nat}{st st':St}{v:V}{h:Nat→Option gA}(hk:DA C dst st v some=some st'):DA C dst {st with h:=h} v some=some {st' with h:=h}:=by
 cases dst with
 | none=>simp only[DA,Option.some.injEq]at hk⊢;subst hk;rfl
 | some d=>
  simp only[DA]at hk⊢;cases hb:Nat.blt d C.nt
  ·simp[hb]at hk
  ·simp only[hb,iB,Option.some.injEq]at hk⊢;subst hk;rfl
omit hr in
omit [aA]in
def zfC{dst:Option Nat}{st st':St}{v:V}(hk:DA C dst st v some=some st'):st'.h=st.h:=by
 cases dst with
 | none=>simp only[DA,Option.some.injEq]at hk;subst hk;rfl
 | some d=>
  simp only[DA]at hk;cases hb:Nat.blt d C.nt
  ·simp[hb]at hk
  ·simp only[hb,iB,Option.some.injEq]at hk;subst hk;rfl
def zgF(hΦ:cD C)(dW:∃N,∀r,N≤r→ρ r=none)(KV:∀q,q<128→ρ (i+q)=none)(f:Nat)(args:Array Value)(as:List V)(xV:args.size=as.length)
  (QV:∀j (hj:j<as.length),VR w ρ (bA outer ρ st.h) (args.getD j undef) as[j]) (BV:(execOp a.eval o).run C.P w=(callFunc f args).run C.P w)
  (hk:OG C i o.dst st f as some=some st'):yB C.P o a w (tB C w0 outer own i ρ st'):=by
 unfold OG at hk;split at hk
 ·cases hk
 rename_i ci V0
 have V2:nA C.P f ci C.g:=by
  cases vV:Nat.blt f 1048576
  ·simp[vV]at V0
  ·simp only[vV,cond_true]at V0;have:=hΦ.ok _ _ V0;rwa [zfv f as (by simpa using vV)]at this
 split at hk
 ·split at hk
  ·cases hk
  rename_i as' h' bs dX;obtain⟨x,lY,hk⟩:=Option.bind_eq_some_iff.1 ((eF _ _).symm.trans hk);obtain⟨r,hF,hk⟩:=Option.bind_eq_some_iff.1 hk;cases JV:(Nat.ble (ci.eR r).length 128&&pI ci (ci.eR r))
  case false=>simp[JV]at hk
  simp only[JV,iB]at hk;simp only[Bool.and_eq_true]at JV;have AY:AA C w0 outer own ρ {st with h:=lJ st.h} a w:=hr.less (zav _)
  have D:=zbq (o:=o) AY dW KV f args as xV (λj hj=>(hr.heap.less (zav st.h)).2 _ _ (QV j hj)) BV V2 dX lY hF (Nat.le_of_ble_eq_true JV.1)
   (st':= { st' with h:=QE ci as' bs i (ci.eR r) (lJ st.h) }) (by
    rw[rH,JV.2,cond_true];exact ziW (st:={st with h:=QE ci as' bs i (ci.eR r) st.h}) hk)
  refine λnext Q hn=>D next Q λa' w' ⟨ρ',h1,h2,h3⟩=>hn a' w' ⟨ρ',?_,h2,h3⟩;have e:st'.h=QE ci as' bs i (ci.eR r) st.h:=zfC hk;have:=h1.less (h':=st'.h) (by rw[e];exact zh6 (zfm _));exact this
 ·rename_i as' h' bs dX;obtain⟨x,lY,hk⟩:=Option.bind_eq_some_iff.1 ((eF _ _).symm.trans hk);obtain⟨r,hF,hk⟩:=Option.bind_eq_some_iff.1 hk;cases JV:Nat.ble (ci.eR r).length 128
  case false=>simp[JV]at hk
  simp only[JV,iB]at hk;exact zbq hr dW KV f args as xV QV BV V2 dX lY hF (Nat.le_of_ble_eq_true JV) hk
end
end Go.D
namespace Go.D
variable [aA]
section
variable {C:Cx} {w0:World} {outer:Nat→Prop} {own:Ow} {ρ:Nat→Option RI} {st st':St} {a:Act} {w:World} {h:Nat→Option gA}
variable {o:Oper} {i:Nat} (hr:AA C w0 outer own ρ st a w)
include hr
def zia(hΦ:cD C)(dW:∃N,∀r,N≤r→ρ r=none)(KV:∀q,q<128→ρ (i+q)=none)(x:Operand)(args:Array Operand)(argTypes:Array TypeId)
  (ho:o.op= .call {callee:= .value x,args,argTypes}) (hk:OA C i o st some=some st'):yB C.P o a w (tB C w0 outer own i ρ st'):=by
 simp only[OA,ho]at hk;split at hk
 case h_2=>cases hk
 rename_i f cs HV;have hx:=hr.opd x;rw[HV]at hx;generalize hv:a.eval x=v at hx;cases hx with
 | fn _ _ caps hs X9=>
 refine zgF hr hΦ dW KV f (args.map a.eval++caps) _ (by simp[hs]) (λj hj=>?_) ?_ hk
 ·by_cases vW:j<args.size
  ·rw[List.getElem_append_left (by simpa using vW),Array.getD_eq_getD_getElem?,Array.getElem?_append_left (by simpa using vW)];simp only[Array.getElem?_map,Array.getElem?_eq_getElem vW,Option.map_some,Option.getD_some,List.getElem_map,Array.getElem_toList];exact hr.opd _
  ·have MV:j - args.size<cs.length:=by simp at hj;omega
   rw[List.getElem_append_right (by simp;omega),Array.getD_eq_getD_getElem?,Array.getElem?_append_right (by simp;omega)];have:=X9 (j - args.size) MV;rw[Array.getD_eq_getD_getElem?]at this;simpa using this
 ·simp[execOp,ho,resolve,Deferred.ofValue,hv,invoke]
def zgn(c x y:Operand)(ho:o.op= .pick c x y)(t:Bool)(hc:opd st.s c= .bool t)(hk:DA C o.dst st (cond t (opd st.s x) (opd st.s y)) some=some st'):
  yB C.P o a w (tB C w0 outer own i ρ st'):=by
 have h1:=hr.opd c;rw[hc]at h1;generalize F5:a.eval c=vc at h1;cases h1;refine bB (v:=if t then a.eval x else a.eval y) (w':=w) ?_ (hr.after ?_ hk)
 ·cases t<;>simp[execOp,ho,F5,asBool]
 ·cases t
  ·exact hr.opd y
  ·exact hr.opd x
def dT(hC:VC C)(hΦ:cD C)(dW:∃N,∀r,N≤r→ρ r=none)(KV:∀q,q<128→ρ (i+q)=none)(hk:OA C i o st some=some st'):
  yB C.P o a w (tB C w0 outer own i ρ st'):=by
 have hi:ρ i=none:=KV 0 (by omega);have none_of:∀{p:Prop},OA C i o st some=none→p:=λh=>by rw[h]at hk;cases hk
 cases ho:o.op with
 | move x=>exact zbw hr x (.inl ho) (by simpa only[OA,ho]using hk)
 | assign x=>exact zbw hr x (.inr ho) (by simpa only[OA,ho]using hk)
 | pick c x y=>
  simp only[OA,ho]at hk;split at hk
  case h_2=>cases hk
  rename_i t hc;split at hk
  ·rename_i p q hx hy;exact zhI hr c x y ho t p q hc hx hy hk
  ·exact zgn hr c x y ho t hc hk
 | alloc e=>
  simp only[OA,ho]at hk;split at hk
  case h_2=>cases hk
  rename_i cs hz;exact zhm hr e ho hi cs hz hk
 | box e x=>
  simp only[OA,ho]at hk;cases hb:xE (cellsOf (opd st.s x))
  case false=>simp[hb]at hk
  simp only[hb,iB]at hk;exact ziC hr e x ho hi hb hk
 | build t parts=>exact zgA hr t parts ho hk
 | buildSlice t len parts=>exact zd8 hr hC t len parts ho hi hk
 | load t x=>exact zij hr t x ho hk
 | store t x y=>exact zgS hr t x y ho hk
 | nilCheck x=>exact zeC hr x ho hk
 | binOp op t x y t'=>exact zho hr op t t' x y ho hk
 | unOp op t x=>exact zil hr op t x ho hk
 | convert s d x=>exact zfa hr hC s d x ho hi hk
 | makeFunc fn first captured=>
  cases fn with
  | func f=>exact zet hr f first captured ho hk
  | _=>exact none_of (by simp only[OA,ho])
 | makeSlice t x y=>exact zed hr hC t x y ho hi hk
 | slice t x lo hi mx=>exact zgw hr hC t x lo hi mx ho hk
 | fieldAddr t x f=>exact zek hr t x f ho hk
 | field t x f=>exact zgH hr t x f ho hk
 | indexAddr t x y=>exact zep hr hC t x y ho hk
 | index t x y=>exact zgN hr t x y ho hk
 | extract x ix=>exact ze2 hr x ix ho hk
 | call c=>
  obtain⟨callee,args,argTypes⟩:=c;cases callee with
  | value x=>exact zia hr hΦ dW KV x args argTypes ho hk
  | invoke r m=>exact none_of (by simp only[OA,ho])
  | builtin b=>
   cases b with
   | len=>exact ziB hr args argTypes ho hk
   | append=>exact zft hr hC args argTypes ho hi hk
   | min=>exact ziR hr args argTypes ho hk
   | max=>exact ziZ hr args argTypes ho hk
   | _=>exact none_of (by simp only[OA,ho])
 | _=>exact none_of (by simp only[OA,ho])
end
end Go.D
namespace Go.D
variable [aA]
section
variable {C:Cx} {R:Type} {st:St} {K:St→Option R}
omit [aA]in
def pL(dst:Option Nat)(st:St)(v:V)(K:St→Option R):DA C dst st v K=(DA C dst st v some).bind K:=by
 cases dst with
 | none=>rfl
 | some d=>simp only[DA];cases Nat.blt d C.nt<;>rfl
omit [aA]in
def zg8(dst:Option Nat)(st:St)(r:Nat)(c:dD)(v:V)(K:St→Option R):yD C dst st r c v K=(yD C dst st r c v some).bind K:=pL _ _ _ _
omit [aA]in
def zd5{K1:V→Option St}{K2:V→Option R}(h:∀v,K2 v=(K1 v).bind K)(ag:Bool)(n:Nat)(cs:List V)(off:Nat):uE ag n cs off K2=(uE ag n cs off K1).bind K:=by
 cases ag<;>simp only[uE,iB,aG]
 ·split
  ·exact h _
  ·rfl
 ·cases Nat.ble (off+n) cs.length
  ·rfl
  ·exact h _
omit [aA]in
def zg3{K1:V→Option St}{K2:V→Option R}(h:∀v,K2 v=(K1 v).bind K)(op:BinOp)(x y:V):wI op x y K2=(wI op x y K1).bind K:=by
 have hb:∀(b:Bool) (v:V),(bif b then none else K2 v)=(bif b then none else K1 v:Option St).bind K:=λb v=>by cases b;exact h v;rfl
 have NV:∀(b:Bool) (v:V),(bif b then K2 v else none)=(bif b then K1 v else none:Option St).bind K:=λb v=>by cases b;rfl;exact h v
 unfold wI;split
 ·rename_i k a k' b;cases decide (k=k')
  ·rfl
  ·exact hb _ _
 ·rename_i k a k' b;cases decide (k=k')
  ·rfl
  ·exact hb _ _
 ·exact hb _ _
 ·exact hb _ _
 ·exact NV _ _
 ·split
  ·exact h _
  ·rfl
omit [aA]in
def WU{f1:Nat→Option St}{f2:Nat→Option R}(h:∀k,f2 k=(f1 k).bind K)(i:Int):∀(n k:Nat),fG f2 i k n=(fG f1 i k n).bind K
 | 0,k=>rfl
 | n+1,k=>by
  simp only[fG];cases i==(k:Int)
  ·exact WU h i n (k+1)
  ·exact h k
omit [aA]in
def zgq{K1:V→Option St}{K2:V→Option R}(h:∀v,K2 v=(K1 v).bind K)(d:TypeDesc)(tk:TypeId→TN→Bool)(hp:Nat→Option gA)(x:V)(lo hi:Option V):
  nJ d tk hp x lo hi K2=(nJ d tk hp x lo hi K1).bind K:=by
 have NV:∀(b:Bool) (v:V),(bif b then K2 v else none)=(bif b then K1 v else none:Option St).bind K:=λb v=>by cases b;rfl;exact h v
 unfold nJ;split
 ·rfl
 split
 case h_2=>rfl
 rename_i len _ _ _ a b _ _;cases decide (0≤a)&&decide (a≤b)&&decide (b≤(len:Int))
 ·rfl
 simp only[cond_true];split
 ·exact NV _ _
 ·exact h _
 ·split
  ·exact NV _ _
  ·rfl
 ·exact NV _ _
 ·rfl
omit [aA]in
def lS{α:Type}(x:Option α){f1:α→Option St}{f2:α→Option R}(h:∀v,f2 v=(f1 v).bind K):Option.bind x f2=(Option.bind x f1).bind K:=by
 cases x with
 | none=>rfl
 | some v=>exact h v
omit [aA]in
def zhr(b:Bool){x1:Option St}{x2:Option R}(h:x2=x1.bind K):(bif b then x2 else none)=(bif b then x1 else none:Option St).bind K:=by
 cases b
 ·rfl
 ·exact h
omit [aA]in
def zgc(b:Bool){x1:Option St}{x2:Option R}(h:x2=x1.bind K):(bif b then none else x2)=(bif b then none else x1:Option St).bind K:=by
 cases b
 ·exact h
 ·rfl
omit [aA]in
def uT(b:Bool){x1:Option St}{x2:Option R}(h:x2=x1.bind K):gd b x2 none=(gd b x1 none:Option St).bind K:=by
 cases b
 ·rfl
 ·exact h
omit [aA]in
def zhH(b:Bool){x1:Option St}{x2:Option R}(h:x2=x1.bind K):gd b none x2=(gd b none x1:Option St).bind K:=by
 cases b
 ·exact h
 ·rfl
omit [aA]in
def fT{α:Type}(x:Option α){f1:α→Option St}{f2:α→Option R}(h:∀v,f2 v=(f1 v).bind K):bnd x f2=(bnd x f1).bind K:=by
 cases x with
 | none=>rfl
 | some v=>exact h v
omit [aA]in
def zfZ(i:Nat)(dst:Option Nat)(f:Nat)(as:List V):OG C i dst st f as K=(OG C i dst st f as some).bind K:=by
 unfold OG;split
 ·rfl
 split
 ·split
  ·rfl
  exact fT _ λ_=>lS _ λ_=>uT _ (pL _ _ _ _)
 exact fT _ λ_=>lS _ λ_=>uT _ (pL _ _ _ _)
omit [aA]in
def MI(i:Nat)(o:Oper):OA C i o st K=(OA C i o st some).bind K:=by
 unfold OA
 repeat' first
  | rfl
  | exact pL _ _ _ _
  | exact zg8 _ _ _ _ _ _
  | exact zfZ _ _ _ _
  | refine zd5 (λ_=>?_) _ _ _ _
  | refine zg3 (λ_=>?_) _ _ _
  | refine WU (λ_=>?_) _ _ _
  | refine zgq (λ_=>?_) _ _ _ _ _ _
  | refine zhr _ ?_
  | refine zgc _ ?_
  | refine uT _ ?_
  | refine zhH _ ?_
  | refine fT _ (λ_=>?_)
  | refine lS _ (λ_=>?_)
  | split
end
end Go.D
namespace Go.D
variable [aA]
def bC(π:Nat→Prop)(h h':Nat→Option gA):Prop:=∀r row,π r→h r=some row→row.m.isOwn=false→h' r=some row
omit [aA]in
def bC.refl(π:Nat→Prop)(h:Nat→Option gA):bC π h h:=λ_ _ _ h _=>h
omit [aA]in
def bC.trans{π:Nat→Prop}{a b c:Nat→Option gA}(h:bC π a b)(k:bC π b c):bC π a c:=λr row hn hr hm=>k r row hn (h r row hn hr hm) hm
omit [aA]in
def AG{π:Nat→Prop}{h h':Nat→Option gA}(k:bC π h h')(r:Nat)(x:Option gA)(hr:¬π r∨∃row,h r=some row∧row.m.isOwn=true):bC π h (cA h' r x):=λq row hn hq hm=>by
 rw[kA]
 ·exact k q row hn hq hm
 ·rintro rfl
  rcases hr with hr | ⟨row',h1,h2⟩
  ·exact hr hn
  ·rw[hq]at h1;cases h1;rw[hm]at h2;cases h2
omit [aA]in
def FI{π:Nat→Prop}{h:Nat→Option gA}(ids:List Nat)(hl:∀r∈ids,∀row,h r=some row→row.m.isLock=false):bC π h (eB h ids):=λq row hn hq hm=>by
 rw[pD]
 by_cases hi:q∈ids
 ·have:=hl q hi row hq;obtain⟨c,m⟩:=row;cases m
  ·cases hm
  ·simp[hi,hq]
  ·cases this
  ·cases hm
  ·cases this
 ·simp[hi,hq]
def iG(h:Nat→Option gA)(ids:List Nat):Prop:=∀r∈ids,∀row,h r=some row→row.m.isLock=false
omit [aA]in
def OM(h:Nat→Option gA):iG h []:=λr hr=>by simp at hr
omit [aA]in
def gV{h:Nat→Option gA}{i j:List Nat}(a:iG h i)(b:iG h j):iG h (i++j):=λr hr=>by
 rcases List.mem_append.1 hr with hr | hr
 ·exact a r hr
 ·exact b r hr
omit [aA]in
def GR{h:Nat→Option gA}{r:Nat}{j:List Nat}(a:∀row,h r=some row→row.m.isLock=false)(b:iG h j):iG h (r :: j):=λq hq=>by
 rcases List.mem_cons.1 hq with rfl | hq
 ·exact a
 ·exact b q hq
omit [aA]in
def rR{h:Nat→Option gA}{v:V}{x:V×List Nat}(hf:kC h v=some x):iG h x.2:=by
 unfold kC at hf;split at hf
 ·split at hf
  ·rename_i t l m hr;cases hm:m.isLock<;>simp[hm]at hf
   subst hf;exact GR (λrow h1=>by rw[hr]at h1;cases h1;exact hm) (OM _)
  ·cases hf
 ·split at hf
  ·rename_i t' l m hr;cases hm:m.isLock
   ·simp only[hm,cond_false]at hf;split at hf
    ·simp at hf;subst hf;exact GR (λrow h1=>by rw[hr]at h1;cases h1;exact hm) (OM _)
    ·cases hf
   ·simp[hm]at hf
  ·cases hf
 ·cases hb:RD 8 v<;>simp[hb]at hf
  subst hf;exact OM _
omit [aA]in
def bM{h:Nat→Option gA}:∀{vs:List V} {x:List V×List Nat},ZC h vs=some x→iG h x.2
 | [],x,hf=>by simp[ZC]at hf;subst hf;exact OM _
 | v :: vs,x,hf=>by
  simp only[ZC]at hf;split at hf
  ·cases hf
  rename_i h1;split at hf
  ·cases hf
  rename_i h2;cases hf;exact gV (rR h1) (bM h2)
omit [aA]in
def TO{h:Nat→Option gA}{v:V}{x:V×List Nat}(hf:cE h v=some x):iG h x.2:=by
 unfold cE at hf;split at hf
 ·split at hf
  ·rename_i h1;cases hf;exact(bM h1:_)
  ·cases hf
 ·split at hf
  ·rename_i cs m hr;cases hb:(m.isLock||cs.isEmpty)
   case true=>simp[hb]at hf
   simp only[hb,cond_false]at hf;split at hf
   ·rename_i h1;cases hf;refine GR (λrow h2=>?_) (bM h1);rw[hr]at h2;cases h2;simp only[Bool.or_eq_false_iff]at hb;exact hb.1
   ·cases hf
  ·cases hf
 ·exact rR hf
omit [aA]in
def qR{h:Nat→Option gA}:∀{vs:List V} {x:List V×List Nat},aF h vs=some x→iG h x.2
 | [],x,hf=>by simp[aF]at hf;subst hf;exact OM _
 | v :: vs,x,hf=>by
  simp only[aF]at hf;split at hf
  ·cases hf
  rename_i h1;split at hf
  ·cases hf
  rename_i h2;cases hf;exact gV (TO h1) (qR h2)
omit [aA]in
def SR{π:Nat→Prop}{h:Nat→Option gA}{t:TN}{v:V}{l:List (El t)}{r:Option Nat}(ht:kH h t v=some (l,r)):bC π h (VD h r):=by
 cases r with
 | none=>exact bC.refl _ _
 | some r=>
  refine AG (bC.refl _ _) r none (.inr ?_);unfold kH at ht;split at ht
  ·cases ht
  ·split at ht
   ·rename_i m0 hr;cases hm:m0.isOwn
    case false=>simp[hm]at ht
    simp only[hm,cond_true]at ht;split at ht
    ·cases ht;exact⟨_,hr,hm⟩
    ·cases ht
   ·cases ht
  ·split at ht
   ·rename_i m0 hr;cases hm:m0.isOwn
    case false=>simp[hm]at ht
    simp only[hm,cond_true]at ht;split at ht
    ·cases ht;exact⟨_,hr,hm⟩
    ·cases ht
   ·cases ht
  ·cases ht
omit [aA]in
def zgP{π:Nat→Prop}{h:Nat→Option gA}{t:TN}{v y:V}{l:List (El t)}{r:Option Nat}(ht:kH h t v=some (l,r)):bC π h (CI (PF h v y) (VD h r) y):=by
 cases xZ:PF h v y
 ·exact SR ht
 ·obtain⟨r2,c,rfl,AY,_⟩:=vT xZ;exact AG (SR ht) r2 _ (.inr ⟨_,AY,rfl⟩)
omit [aA]in
def UF(π:Nat→Prop)(ow:List Nat):∀(cs:List V) (p:Nat) (h:Nat→Option gA) (x:List V×(Nat→Option gA)),qC ow p cs h=some x→bC π h x.2
 | [],p,h,x,ht=>by simp[qC]at ht;subst ht;exact bC.refl π h
 | c :: cs,p,h,x,ht=>by
  simp only[qC]at ht;cases hb:ow.any (Nat.beq p)
  ·simp only[hb,cond_false]at ht;split at ht
   case h_2=>cases ht
   rename_i hf;split at ht
   case h_2=>cases ht
   rename_i hr;cases ht;have k:=UF π ow cs (p+1) _ _ hr;exact(FI _ (rR hf)).trans k
  ·simp only[hb,cond_true]at ht;split at ht
   ·split at ht
    case h_2=>cases ht
    rename_i t0 l0 m0 sV;cases EV:AB (ZD ow p) t0 m0
    case false=>simp[EV]at ht
    simp only[EV,cond_true]at ht;split at ht
    case h_2=>cases ht
    rename_i hr;cases ht;have k:=UF π ow cs (p+1) _ _ hr;exact(AG (bC.refl π h) _ none (.inr ⟨_,sV,zbJ EV⟩)).trans k
   ·split at ht
    case h_2=>cases ht
    rename_i hr;cases ht;have:=UF π ow cs _ _ _ hr;exact this
   ·split at ht
    case h_2=>cases ht
    rename_i t0 l0 m0 sV;cases EV:AB (ZD ow p) t0 m0
    case false=>simp[EV]at ht
    simp only[EV,cond_true]at ht;split at ht
    case h_2=>cases ht
    rename_i hr;cases ht;have k:=UF π ow cs (p+1) _ _ hr;exact(AG (bC.refl π h) _ none (.inr ⟨_,sV,zbJ EV⟩)).trans k
   ·cases ht
omit [aA]in
def iM(π:Nat→Prop):∀(ks:List IA) (as:List V) (h:Nat→Option gA) (x:List V×(Nat→Option gA)×List Nat),kB ks as h=some x→
  bC π h x.2.1∧∀b∈x.2.2,∃row,h b=some row∧row.m.isOwn=true
 | [],[],h,x,ht=>by simp[kB]at ht;subst ht;exact⟨bC.refl π h,λb hb=>by simp at hb⟩
 | [],_ :: _,h,x,ht=>by simp[kB]at ht
 | .plain :: ks,[],h,x,ht=>by simp[kB]at ht
 | .ptr _ :: ks,[],h,x,ht=>by simp[kB]at ht
 | .mv _ :: ks,[],h,x,ht=>by simp[kB]at ht
 | .ms :: ks,[],h,x,ht=>by simp[kB]at ht
 | .mv ow :: ks,v :: vs,h,x,ht=>by
  obtain⟨cs,rfl⟩:=IR ht;simp only[kB]at ht;cases hb:Nat.ble cs.length 127
  case false=>simp[hb]at ht
  simp only[hb,cond_true]at ht;split at ht
  ·cases ht
  rename_i hl;split at ht
  ·cases ht
  rename_i hr;cases ht;obtain⟨k1,k2⟩:=iM π ks vs _ _ hr;refine⟨(UF π _ _ _ _ _ hl).trans k1,λb hb=>?_⟩;obtain⟨row,h1,h2⟩:=k2 b hb;obtain⟨row2,h3,h4,h5⟩:=vG _ _ _ _ _ hl b row h1;refine⟨row2,h3,?_⟩;cases ho:row2.m.isOwn with
  | true=>rfl
  | false=>
   have:=UF (λ_=>True) _ _ _ _ _ hl b row2 trivial h3 ho;have this:=this.symm.trans h1;cases this;rw[h2]at ho;cases ho
 | .ms :: ks,v :: vs,h,x,ht=>by
  simp only[kB]at ht;split at ht
  case h_2=>cases ht
  rename_i hl;split at ht
  ·cases ht
  rename_i hr;cases ht;obtain⟨k1,k2⟩:=iM π ks vs _ _ hr;refine⟨(UF π _ _ _ _ _ hl).trans k1,λb hb=>?_⟩;obtain⟨row,h1,h2⟩:=k2 b hb;obtain⟨row2,h3,h4,h5⟩:=vG _ _ _ _ _ hl b row h1;refine⟨row2,h3,?_⟩;cases ho:row2.m.isOwn with
  | true=>rfl
  | false=>
   have:=UF (λ_=>True) _ _ _ _ _ hl b row2 trivial h3 ho;have this:=this.symm.trans h1;cases this;rw[h2]at ho;cases ho
 | .plain :: ks,v :: vs,h,x,ht=>by
  simp only[kB]at ht;split at ht
  ·cases ht
  rename_i v' ids hf;split at ht
  ·cases ht
  rename_i hr;cases ht;obtain⟨k1,k2⟩:=iM π ks vs _ _ hr;refine⟨(FI _ (TO hf)).trans k1,λb hb=>?_⟩;obtain⟨row,h1,h2⟩:=k2 b hb;obtain⟨row',h3,h4,h5⟩:=EM h ids b row h1;rw[pD]at h1
  by_cases hm:b∈ids
  ·simp[hm,h3]at h1;subst h1;cases h2
  ·simp[hm]at h1;exact⟨row,h1,h2⟩
 | .ptr ow :: ks,v :: vs,h,x,ht=>by
  obtain⟨r,rfl⟩:=AR ht;simp only[kB]at ht;split at ht
  case h_2=>cases ht
  rename_i cs sV;cases hb:Nat.ble cs.length 127
  case false=>simp[hb]at ht
  simp only[hb,cond_true]at ht;split at ht
  ·cases ht
  rename_i hl;split at ht
  ·cases ht
  rename_i hr;cases ht;obtain⟨k1,k2⟩:=iM π ks vs _ _ hr;refine⟨(AG (bC.refl π h) _ none (.inr ⟨_,sV,rfl⟩)).trans ((UF π _ _ _ _ _ hl).trans k1),λb hb=>?_⟩
  rcases List.mem_cons.1 hb with rfl | hb
  ·exact⟨_,sV,rfl⟩
  ·obtain⟨row,h1,h2⟩:=k2 b hb;obtain⟨row2,h3,h4,h5⟩:=vG _ _ _ _ _ hl b row h1;have DY:b≠r:=by rintro rfl;rw[tA]at h3;cases h3
   rw[kA _ _ _ _ DY]at h3;refine⟨row2,h3,?_⟩;cases ho:row2.m.isOwn with
   | true=>rfl
   | false=>
    have:=UF (λ_=>True) _ _ _ _ _ hl b row2 trivial (by rw[kA _ _ _ _ DY];exact h3) ho;have this:=this.symm.trans h1;cases this;rw[h2]at ho;cases ho
def KB{α:Type}(p:α→Prop)(x:Option α):Prop:=∀y,x=some y→p y
structure qJ(π:Nat→Prop)(dst:Option Nat)(st st':St):Prop where
 slots:∀s,dst≠some s→st'.s s=st.s s
 rows:bC π st.h st'.h
 nx:st'.nx=st.nx
section
variable {C:Cx} {st:St} {π:Nat→Prop} {dst:Option Nat}
omit [aA]in
def ED{α:Type}{p:α→Prop}:KB p none:=λ_ h=>by cases h
omit [aA]in
def YH{h':Nat→Option gA}(hk:bC π st.h h')(v:V):KB (qJ π dst st) (DA C dst {st with h:=h'} v some):=by
 intro st' h;cases dst with
 | none=>simp[DA]at h;subst h;exact⟨λ_ _=>rfl,hk,rfl⟩
 | some d=>
  simp only[DA]at h;cases hb:Nat.blt d C.nt<;>simp[hb]at h
  subst h;exact⟨λs hs=>kA _ _ _ _ (λe=>hs (by rw[e])),hk,rfl⟩
omit [aA]in
def SP(v:V):KB (qJ π dst st) (DA C dst st v some):=YH (bC.refl π st.h) v
omit [aA]in
def zb2{h':Nat→Option gA}(hk:bC π st.h h'){i:Nat}(hi:∀q,q<128→¬π (i+q))(c:dD)(v:V)(m:cB):KB (qJ π dst st) (yD C dst {st with h:=h'} i c v some m):=YH (AG hk i _ (.inl (hi 0 (by omega)))) v
omit [aA]in
def zg9{i:Nat}(hi:∀q,q<128→¬π (i+q))(c:dD)(v:V)(m:cB):KB (qJ π dst st) (yD C dst st i c v some m):=YH (AG (bC.refl π st.h) i _ (.inl (hi 0 (by omega)))) v
omit [aA]in
def jL{α:Type}{p:α→Prop}(b:Bool){x:Option α}(h:b=true→KB p x):KB p (bif b then x else none):=by
 cases b
 ·exact ED
 ·exact h rfl
omit [aA]in
def OK{α:Type}{p:α→Prop}(b:Bool){x:Option α}(h:b=false→KB p x):KB p (bif b then none else x):=by
 cases b
 ·exact h rfl
 ·exact ED
omit [aA]in
def oL{α β:Type}{p:β→Prop}(x:Option α){f:α→Option β}(h:∀v,x=some v→KB p (f v)):KB p (Option.bind x f):=by
 cases x with
 | none=>exact ED
 | some v=>exact h v rfl
omit [aA]in
def MG{α:Type}{p:α→Prop}(b:Bool){x:Option α}(h:b=true→KB p x):KB p (gd b x none):=by
 cases b
 ·exact ED
 ·exact h rfl
omit [aA]in
def zbv{α:Type}{p:α→Prop}(b:Bool){x:Option α}(h:b=false→KB p x):KB p (gd b none x):=by
 cases b
 ·exact h rfl
 ·exact ED
omit [aA]in
def wL{α β:Type}{p:β→Prop}(x:Option α){f:α→Option β}(h:∀v,x=some v→KB p (f v)):KB p (bnd x f):=by
 cases x with
 | none=>exact ED
 | some v=>exact h v rfl
omit [aA]in
def zaZ{p:St→Prop}{K:V→Option St}(h:∀v,KB p (K v))(ag:Bool)(m:Nat)(cs:List V)(off:Nat):KB p (uE ag m cs off K):=by
 cases ag<;>simp only[uE,iB,aG]
 ·split
  ·exact h _
  ·exact ED
 ·exact MG _ λ_=>h _
omit [aA]in
def zbO{p:St→Prop}{K:V→Option St}(h:∀v,KB p (K v))(op:BinOp)(x y:V):KB p (wI op x y K):=by
 unfold wI;split
 ·exact jL _ λ_=>OK _ λ_=>h _
 ·exact jL _ λ_=>OK _ λ_=>h _
 ·exact OK _ λ_=>h _
 ·exact OK _ λ_=>h _
 ·exact jL _ λ_=>h _
 ·split
  ·exact h _
  ·exact ED
omit [aA]in
def WR{p:St→Prop}{f:Nat→Option St}(h:∀k,KB p (f k))(i:Int):∀(m k:Nat),KB p (fG f i k m)
 | 0,k=>ED
 | m+1,k=>by
  simp only[fG];cases i==(k:Int)
  ·exact WR h i m (k+1)
  ·exact h k
omit [aA]in
def zby{p:St→Prop}{K:V→Option St}(h:∀v,KB p (K v))(d:TypeDesc)(tk:TypeId→TN→Bool)(hp:Nat→Option gA)(x:V)(lo hi:Option V):KB p (nJ d tk hp x lo hi K):=by
 unfold nJ;split
 ·exact ED
 split
 case h_2=>exact ED
 refine jL _ λ_=>?_;split
 ·exact MG _ λ_=>h _
 ·exact h _
 ·split
  ·exact MG _ λ_=>h _
  ·exact ED
 ·exact MG _ λ_=>h _
 ·exact ED
omit [aA]in
def JU:∀(ks:List IA) (as:List V) (h:Nat→Option gA) (x:List V×(Nat→Option gA)×List Nat),ks.all IA.isPlain=true→kB ks as h=some x→x.2.2=[]
 | [],[],h,x,_,ht=>by simp[kB]at ht;subst ht;rfl
 | [],_ :: _,h,x,_,ht=>by simp[kB]at ht
 | .plain :: ks,[],h,x,_,ht=>by simp[kB]at ht
 | .plain :: ks,v :: vs,h,x,hp,ht=>by
  simp only[List.all_cons,Bool.and_eq_true]at hp;simp only[kB]at ht;split at ht
  ·cases ht
  split at ht
  ·cases ht
  rename_i hr;cases ht;have:=JU ks vs _ _ hp.2 hr;exact this
 | .ptr _ :: ks,as,h,x,hp,ht=>by simp[IA.isPlain]at hp
 | .mv _ :: ks,as,h,x,hp,ht=>by simp[IA.isPlain]at hp
 | .ms :: ks,as,h,x,hp,ht=>by simp[IA.isPlain]at hp
omit [aA]in
def zeB{ci:RB}{rs:List V}{h h':Nat→Option gA}{q:Nat}{row:gA}(hq:rH ci rs h h' q=some row):h q=some row∨h' q=some row:=by
 unfold rH at hq;cases hp:pI ci rs
 ·rw[hp,cond_false]at hq;cases hb:ci.pb
  ·rw[hb,cond_false]at hq;cases hm:kD ci.own 0 rs with
   | none=>rw[hm]at hq;exact .inr hq
   | some m=>
    rw[hm]at hq;have hq:vH m h h' q=some row:=hq;unfold vH at hq;split at hq
    ·rename_i t l c h3 h4;cases JV:Nat.ble m t.rank
     ·rw[JV,cond_false]at hq;exact .inr (by rw[h4];exact hq)
     ·rw[JV,cond_true]at hq;exact .inl (by rw[h3];exact hq)
    ·exact .inr hq
  ·rw[hb,cond_true]at hq;exact .inr hq
 ·rw[hp,cond_true]at hq;exact .inl hq
omit [aA]in
def ze0{ci:RB}{rs:List V}{h h':Nat→Option gA}{q:Nat}{row:gA}(h1:h q=some row)(h2:h' q=some row)(hm:row.m.isOwn=false):rH ci rs h h' q=some row:=by
 unfold rH;cases pI ci rs
 ·cases ci.pb
  ·simp only[cond_false];cases kD ci.own 0 rs with
   | none=>exact h2
   | some m=>
    show vH m h h' q=some row
    unfold vH;split
    ·rename_i h3 _;rw[h1]at h3;cases h3;cases hm
    ·exact h2
  ·exact h2
 ·exact h1
omit [aA]in
def zgD{i:Nat}(hi:∀q,q<128→¬π (i+q))(f:Nat)(as:List V):KB (qJ π dst st) (OG C i dst st f as some):=by
 unfold OG;split
 ·exact ED
 rename_i ci _;split
 ·split
  ·exact ED
  rename_i as' h' bs dX;refine wL _ λx _=>oL _ λr _=>MG _ λtV=>YH ?_ _;simp only[Bool.and_eq_true]at tV;intro q row hq sV hm;rw[cJ]
  have nW:fC ci as' bs i (ci.eR r) q=none:=by
   cases hx:fC ci as' bs i (ci.eR r) q with
   | none=>rfl
   | some y=>
    rcases zb6 (Nat.le_of_ble_eq_true tV.1) hx with h1 | h1
    ·have hp:=tV.2;simp only[pI,Bool.and_eq_true]at hp;have hb:bs=[]:=JU ci.ks as _ _ hp.1.2 dX;rw[hb]at h1;cases h1
    ·exact absurd hq (by have:=hi (q - i) (by omega);rwa [show i+(q - i)=q by omega]at this)
  rw[nW];exact sV
 rename_i as' h' bs dX;refine wL _ λx _=>oL _ λr _=>MG _ λtV=>YH ?_ _;obtain⟨k1,k2⟩:=iM π _ _ _ _ dX;intro q row hq sV hm;have tV:=Nat.le_of_ble_eq_true tV;rw[cJ]
 have nW:fC ci as' bs i (ci.eR r) q=none:=by
  cases hx:fC ci as' bs i (ci.eR r) q with
  | none=>rfl
  | some y=>
   rcases zb6 tV hx with h1 | h1
   ·obtain⟨row',h2,h3⟩:=k2 q h1;rw[sV]at h2;cases h2;rw[h3]at hm;cases hm
   ·exact absurd hq (by have:=hi (q - i) (by omega);rwa [show i+(q - i)=q by omega]at this)
 rw[nW];exact ze0 sV (k1 q row hq sV hm) hm
omit [aA]in
def GU{i:Nat}(hi:∀q,q<128→¬π (i+q))(o:Oper):KB (qJ π o.dst st) (OA C i o st some):=by
 unfold OA
 repeat' first
  | exact ED
  | exact SP _
  | exact zg9 hi _ _ _
  | exact zgD hi _ _
  | exact YH (FI _ (qR ‹_›)) _
  | exact zb2 (FI _ (qR ‹_›)) hi _ _ _
  | exact zb2 (zgP ‹_›) hi _ _ _
  | exact YH (AG (bC.refl π st.h) _ _ (.inr ⟨_, ‹_›,rfl⟩)) _
  | exact YH (AG (FI _ (bM ‹_›)) _ _ (.inr ⟨_, ‹_›,(Bool.and_eq_true_iff.1 ‹(cB.isOwn _&&_)=true›).1⟩)) _
  | refine zaZ (λ_=>?_) _ _ _ _
  | refine zbO (λ_=>?_) _ _ _
  | refine WR (λ_=>?_) _ _ _
  | refine zby (λ_=>?_) _ _ _ _ _ _
  | refine jL _ (λ_=>?_)
  | refine OK _ (λ_=>?_)
  | refine MG _ (λ_=>?_)
  | refine zbv _ (λ_=>?_)
  | refine wL _ (λ_ _=>?_)
  | refine oL _ (λ_ _=>?_)
  | split
end
abbrev OB(n:Nat)(h h':Nat→Option gA):Prop:=bC (λr=>r<n) h h'
omit [aA]in
def OB.refl(n:Nat)(h:Nat→Option gA):OB n h h:=bC.refl _ h
omit [aA]in
def OB.trans{n:Nat}{a b c:Nat→Option gA}(h:OB n a b)(k:OB n b c):OB n a c:=bC.trans h k
omit [aA]in
def OB.le{n m:Nat}{a b:Nat→Option gA}(h:OB n a b)(hm:m≤n):OB m a b:=λr row hr=>h r row (by have:r<m:=hr;show r<n;omega)
omit [aA]in
def zac{C:Cx}{st:St}{n:Nat}{i:Nat}(hi:n≤i)(o:Oper):KB (qJ (λr=>r<n) o.dst st) (OA C i o st some):=GU (λq _ h=>by omega) o
end Go.D

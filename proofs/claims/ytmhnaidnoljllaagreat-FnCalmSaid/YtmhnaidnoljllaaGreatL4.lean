/-
 One operation, continued: conversions, closures, what is made.
-/
import Derived.Test.YtmhnaidnoljllaaGreatL3
import Derived.Laws.IdiomStrings
import Derived.Laws.BytesArg
import Derived.Laws.MakeOwn
set_option linter.all false
namespace Go.D
variable [jA]
omit [jA]in
def zde(t:TN):sz t≤128:=by cases t<;>simp[sz]
section
variable {C:Cx} {w0:World} {outer own:Nat→Prop} {ρ:Nat→Option RI} {st st':St} {a:Act} {w:World} {h:Nat→Option sA}
omit [jA]in
def zhO:∀(parts:List (Nat×Operand)) (k:Nat) (vs:List V),sU st.s k parts=some vs→vs.length=parts.length∧
  ∀j (hj:j<parts.length),(parts[j]).1=k+j∧∃(h:j<vs.length),vs[j]=opd st.s (parts[j]).2
 | [],k,vs,h=>by simp[sU]at h;subst h;exact⟨rfl,λj hj=>by simp at hj⟩
 | (j,x) :: r,k,vs,h=>by
  simp only[sU]at h;cases hb:Nat.beq k j
  case false=>simp[hb]at h
  have hkj:=Nat.eq_of_beq_eq_true hb;simp only[hb,cond_true]at h;split at h
  ·cases h
  rename_i vs' hv;cases h;obtain⟨h1,h2⟩:=zhO r (k+1) vs' hv;refine⟨by simp[h1],λq hq=>?_⟩;cases q with
  | zero=>exact⟨by simp[hkj],by simp,rfl⟩
  | succ q=>
   grind
omit [jA]in
def zjR(off:Nat):∀(l:List (Value×Nat)) (k:Nat) (cs:Array Value),(∀j (hj:j<l.length),(l[j]).2=k+j)→
  (l.foldl (λcs (c,j)=>cs.setIfInBounds (off+j) c) cs).size=cs.size∧
  ∀p,p<cs.size→(l.foldl (λcs (c,j)=>cs.setIfInBounds (off+j) c) cs).getD p undef=if h:off+k≤p∧p<off+k+l.length then(l[p - (off+k)]'(by omega)).1 else cs.getD p undef
 | [],k,cs,_=>⟨rfl,λp hp=>by simp;omega⟩
 | (c,j) :: l,k,cs,hl=>by
  have hj:j=k:=hl 0 (by simp);subst hj;obtain⟨h1,h2⟩:=zjR off l (j+1) (cs.setIfInBounds (off+j) c) (λq hq=>by have:=hl (q+1) (by simp;omega);simp at this;omega);refine⟨by simp only[List.foldl_cons];rw[h1];simp,λp hp=>?_⟩;simp only[List.foldl_cons];rw[h2 p (by simpa using hp)]
  by_cases tW:off+(j+1)≤p∧p<off+(j+1)+l.length
  ·grind
  ·rw[dif_neg tW]
   by_cases he:p=off+j
   ·subst he;rw[dif_pos ⟨Nat.le_refl _,by simp⟩];rw[Array.getD_eq_getD_getElem?,Array.getElem?_setIfInBounds];simp[hp]
   ·rw[dif_neg (by simp;omega)];rw[Array.getD_eq_getD_getElem?,Array.getElem?_setIfInBounds,if_neg (by omega),Array.getD_eq_getD_getElem?]
omit [jA]in
def ziM(v:Value)(off:Nat)(cs:Array Value):(v.cells.zipIdx.foldl (λcs (c,j)=>cs.setIfInBounds (off+j) c) cs).size=cs.size∧
  ∀p,p<cs.size→(v.cells.zipIdx.foldl (λcs (c,j)=>cs.setIfInBounds (off+j) c) cs).getD p undef=if off≤p∧p<off+v.cells.size then v.cells.getD (p - off) undef else cs.getD p undef:=by
 rw[←Array.foldl_toList];obtain⟨h1,h2⟩:=zjR off v.cells.zipIdx.toList 0 cs (λj hj=>by simp);refine⟨h1,λp hp=>?_⟩;rw[h2 p hp]
 by_cases tW:off≤p∧p<off+v.cells.size
 ·rw[if_pos tW,dif_pos (by simpa using tW)];rw[Array.getD_eq_getD_getElem?,Array.getElem?_eq_getElem (by omega)];simp
 ·grind
omit [jA]in
def zjP(size:Nat):∀(parts:List (Nat×Value)) (k:Nat) (cs:Array Value),(∀j (hj:j<parts.length),(parts[j]).1=k+j∧(parts[j]).2.cells.size=size)→
  (k+parts.length) *size≤cs.size→∃ cs',Instr.fill (fun i=>some (i *size,size)) cs parts=some cs'∧cs'.size=cs.size∧
   (∀j (hj:j<parts.length) q,q<size→cs'.getD ((k+j) *size+q) undef=(parts[j]).2.cells.getD q undef)∧∀p,p<k *size→cs'.getD p undef=cs.getD p undef
 | [],k,cs,_,_=>⟨cs,rfl,rfl,λj hj=>by simp at hj,λ_ _=>rfl⟩
 | (i,v) :: r,k,cs,hp,hs=>by
  obtain⟨h1,h2⟩:=hp 0 (by simp);simp only[List.getElem_cons_zero,Nat.add_zero]at h1 h2;subst h1;simp only[List.length_cons]at hs;have N4:(i+1+r.length) *size=i *size+size+r.length *size:=by rw[Nat.add_mul,Nat.add_mul,Nat.one_mul]
  have hs3:(i+(r.length+1)) *size=i *size+size+r.length *size:=by rw[Nat.add_mul,Nat.add_mul,Nat.one_mul];omega
  obtain⟨h3,h4⟩:=ziM v (i *size) cs;obtain⟨cs',h5,h6,h7,h8⟩:=zjP size r (i+1) _ (λj hj=>by have:=hp (j+1) (by simp;omega);simpa[Nat.add_assoc,Nat.add_comm 1 j]using this) (by rw[h3];omega);have NV:∀j,j<r.length→(i+1+j) *size≥i *size+size:=λj _=>by rw[Nat.add_mul,Nat.add_mul,Nat.one_mul];omega
  refine⟨cs',?_,by rw[h6,h3],λj hj q hq=>?_,λp s9=>?_⟩
  ·simp only[Instr.fill]
   grind
  ·cases j with
   | zero=>
    grind
   | succ j=>
    grind
  grind
omit [jA]in
def zi2(t:TN):∀(css:List (List V)) (l:List (El t)),cV t css=some l→l.length=css.length∧∀j (hj:j<css.length) (UW:j<l.length),OB css[j] (enc t l[j])
 | [],l,h=>by simp[cV]at h;subst h;exact⟨rfl,λj hj=>by simp at hj⟩
 | cs :: css,l,h=>by
  simp only[cV]at h;split at h
  ·cases h
  rename_i x hx;split at h
  ·cases h
  rename_i l' hl;cases h;obtain⟨h1,h2⟩:=zi2 t css l' hl;refine⟨by simp[h1],λj hj UW=>?_⟩;cases j with
  | zero=>exact xF t hx
  | succ j=>simpa using h2 j (by simpa using hj) (by simpa using UW)
variable {o:Oper} {i:Nat} (hr:VA C w0 outer own ρ st a w)
include hr
def zpx(xs:List Operand):∀j (hj:j<(xs.map (opd st.s)).length),VR w ρ (rA outer ρ st.h) ((xs.map a.eval).getD j undef) (xs.map (opd st.s))[j]:=λj hj=>by
 have UW:j<xs.length:=by simpa using hj
 rw[List.getD_eq_getElem?_getD,List.getElem?_map,List.getElem?_eq_getElem UW,List.getElem_map];exact hr.opd xs[j]
def zpw(f:Nat)(first captured:Array Operand)(ho:o.op= .makeFunc (.func f) first captured)(hk:gB C i o st some=some st'):BC C.P o a w (wC C w0 outer own i ρ st'):=by
 simp only[gB,ho]at hk;cases he:first.isEmpty
 case false=>simp[he]at hk
 simp only[he,MC]at hk;split at hk
 case h_2=>cases hk
 rename_i cs ids aZ;have he:first= #[]:=by simpa using he
 subst he;obtain⟨h1,h2⟩:=hr.heap.mark ids;obtain⟨h3,h4⟩:=zen hr.heap (zpx hr captured.toList) aZ;have QV:VA C w0 outer own ρ {st with h:=rC st.h ids} a w:=hr.turn h1 h2;refine cC (v:= .func (.func f) #[] (captured.map a.eval)) (w':=w) (by simp[execOp,ho,Instr.makeFunc]) (QV.after (.fn f cs _ (by simp[h3]) λj hj=>?_) hk);have:=(h4 j hj).1;rw[Array.getD_eq_getD_getElem?]
 grind
def zoP(hC:IF C)(t:TypeId)(len:Nat)(parts:Array (Nat×Operand))(ho:o.op= .buildSlice t len parts)(hi:ρ i=none)(hk:gB C i o st some=some st'):
  BC C.P o a w (wC C w0 outer own i ρ st'):=by
 simp only[gB,ho]at hk;split at hk
 ·cases hk
 rename_i tn MW;obtain⟨e,he,I2⟩:=Option.bind_eq_some_iff.1 MW
 have hu:C.P.underlying t=some (.slice e):=by
  unfold wO at he
  grind
 obtain⟨info,z,KY,hi2,b8,L3,t5⟩:=hC.ok e tn I2;split at hk
 ·cases hk
 rename_i vs O3;cases hb:(Nat.beq vs.length len&&Nat.ble len 1000)
 case false=>simp[hb]at hk
 simp only[hb,MC]at hk;simp only[Bool.and_eq_true]at hb;have KV:=Nat.eq_of_beq_eq_true hb.1;have jW:=Nat.le_of_ble_eq_true hb.2;split at hk
 ·cases hk
 rename_i vs' ids aZ;obtain⟨l,hl,hk⟩:=Option.bind_eq_some_iff.1 ((GS _ _).symm.trans hk);obtain⟨z5,t9⟩:=zhO parts.toList 0 vs O3;have vZ:parts.toList.length=len:=by omega
 have hps:parts.size=len:=by rw[←Array.length_toList];exact vZ
 have oX:∀j (hj:j<vs.length),VR w ρ (rA outer ρ st.h) (a.eval ((parts.toList.map (·.2)).getD j (.const undef))) vs[j]:=λj hj=>by
  obtain⟨_,h4,h5⟩:=t9 j (by omega);rw[h5,List.getD_eq_getElem?_getD,List.getElem?_map,List.getElem?_eq_getElem (by omega)];exact hr.opd _
 obtain⟨h1,h2⟩:=hr.heap.mark ids;obtain⟨h3,h4⟩:=zen hr.heap oX aZ;obtain⟨h5,h6⟩:=zi2 tn _ l hl;have QV:VA C w0 outer own ρ {st with h:=rC st.h ids} a w:=hr.turn h1 h2
 -- the cells
 let pv:List (Nat×Value):=parts.toList.map λp=>(p.1,a.eval p.2);have u9:pv.length=len:=by simp[pv];omega
 have m8:l.length=len:=by rw[h5,List.length_map];omega
 have v9:∀j (hj:j<pv.length),(pv[j]).1=0+j∧(pv[j]).2.cells.size=sz tn∧∀q,q<sz tn→∃(UW:j<l.length),VR w ρ (rA outer ρ (rC st.h ids)) ((pv[j]).2.cells.getD q undef) ((enc tn l[j]).getD q .undef):=λj hj=>by
  have hjv:j<vs'.length:=by omega
  have FZ:j<l.length:=by omega
  obtain⟨e1,e2,e3⟩:=t9 j (by omega);obtain⟨g1,g2⟩:=h4 j hjv
  have OY:(parts.toList.map (·.2)).getD j (.const undef)=(parts.toList[j]'(by omega)).2:=by
   grind
  rw[OY]at g1;have lW:=h6 j (by simpa using hjv) FZ;rw[List.getElem_map]at lW;have IZ:(cellsOf vs'[j]).length=sz tn:=by rw[lW.len,cD]
  have w9:pv[j]=((parts.toList[j]'(by omega)).1,a.eval (parts.toList[j]'(by omega)).2):=by simp[pv]
  rw[w9]
  have A5:XG (cellsOf vs'[j])=true:=by
   rw[XG,List.all_eq_true];intro c hc;obtain⟨q,hq,rfl⟩:=List.mem_iff_getElem.1 hc;have hs:=lW.get q hq (by rw[←lW.len];exact hq);have GY:=zhn tn l[j] q (by omega);rw[uS _ _ _ (by rw[cD];omega)]at GY;generalize (cellsOf vs'[j])[q]=c at hs;generalize (enc tn l[j])[q]'_=d at hs GY;cases hs<;>first | exact GY | rfl
  obtain⟨f1,f2,f3⟩:=zbL g1 A5;refine⟨e1,by rw[f1,IZ],λq hq=>⟨FZ,?_⟩⟩;have:=VR.sub (lW.get q (by omega) (by rw[cD];exact hq)) (f2 q (by omega))
  grind
 obtain⟨cs',c1,c2,c3,_⟩:=zjP (sz tn) pv 0 ((Array.range (len *sz tn)).map (λk=>(if len *sz tn=0 then(#[]:Array Value)else z.cells)[k % (if len *sz tn=0 then(#[]:Array Value)else z.cells).size]!))
  (λj hj=>⟨(v9 j hj).1,(v9 j hj).2.1⟩) (by simp[u9])
 have z9:cs'.size=len *sz tn:=by rw[c2];simp
 have A9:¬(2^24<len *sz tn):=by
  have h1:=zde tn;have:len *sz tn≤1000 *128:=Nat.mul_le_mul jW h1;omega
 have GV:(execOp a.eval o).run C.P w= .ok (.value (.slice (some ⟨w.heap.size,0,none⟩) len len)) (w.alloc (.cells cs' e)):=by
  have hpm:(parts.map λx=>(x.1,a.eval x.2)).toList=pv:=by simp[pv]
  simp only[execOp,ho,Instr.buildSlice,Sem.run_bind,lF hu,Result.andThen_ok,sizeOf,typeInfo,run_program,KY,Sem.run_pure,hi2,gt_iff_lt,A9,if_false]
  by_cases h0:len *sz tn=0
  ·simp only[h0,if_true]at c1⊢;simp only[Sem.run_bind,Sem.run_pure,Result.andThen_ok,hpm,c1];rfl
  ·simp only[h0,if_false]at c1⊢;simp only[Sem.run_bind,Sem.run_pure,Result.andThen_ok,zeroValue,typeInfo,run_program,KY,L3,hpm,c1];rfl
 refine cC GV (QV.newRow hi ⟨w.heap.size,len,len,false⟩ (λ_=>rfl) _ (BU _ _) (λb hb=>IT _ _ _ hb) (λ_=>by simp) (c:= .arr tn l) (λbad IV=>?_) (λbad=>?_) hk)
 ·refine⟨m8.symm, .inr ⟨rfl,zeU (hC.tys e tn I2),Nat.le_refl _,by unfold maxLen;simp;omega,λj hj=>⟨World.frozen?_alloc_new _ _ _ _,?_⟩,λi' cW j hj=>?_⟩⟩
  ·have UW:j<len *sz tn:=hj;rw[KN w cs' e j (by omega)];rfl
  ·have hip:i'<pv.length:=by omega
   have MV:i' *sz tn+j<cs'.size:=by
    rw[z9];have:(i'+1) *sz tn≤len *sz tn:=Nat.mul_le_mul_right _ (by omega)
    grind
   obtain⟨_,_,g3⟩:=v9 i' hip;obtain⟨_,g4⟩:=g3 j hj;refine⟨_,KN w cs' e _ MV,?_⟩
   grind
 ·exact .ow i ⟨w.heap.size,len,len,false⟩ (MA _ _ _) (Nat.le_refl _) (by unfold maxLen;simp;omega) rfl
end
end Go.D
namespace Go.D
variable [jA]
section
variable {C:Cx} {w0:World} {outer own:Nat→Prop} {ρ:Nat→Option RI} {st st':St} {a:Act} {w:World}
def ziF(hr:VA C w0 outer own ρ st a w)(pl:List (Nat×Nat)):∀(parts:List (Nat×Operand)) (cs cs':List V) (vs:Array Value),
  LU pl st.s cs parts=some cs'→vs.size=cs.length→(∀j (hj:j<cs.length),VR w ρ (rA outer ρ st.h) (vs.getD j undef) cs[j])→
  ∃vs',Instr.fill (λi=>pl[i]?) vs (parts.map λp=>(p.1,a.eval p.2))=some vs'∧vs'.size=cs'.length∧∀j (hj:j<cs'.length),VR w ρ (rA outer ρ st.h) (vs'.getD j undef) cs'[j]
 | [],cs,cs',vs,hf,hs,hv=>by simp[LU]at hf;subst hf;exact⟨vs,rfl,hs,hv⟩
 | (f,x) :: r,cs,cs',vs,hf,hs,hv=>by
  simp only[LU]at hf;split at hf
  ·cases hf
  rename_i off n hp;cases hb:(Nat.beq n (cellsOf (opd st.s x)).length&&XG (cellsOf (opd st.s x))&&Nat.ble (off+n) cs.length)
  case false=>simp[hb]at hf
  simp only[hb,cond_true]at hf;simp only[Bool.and_eq_true]at hb;obtain⟨⟨M2,J1⟩,hb3⟩:=hb;have hn:=Nat.eq_of_beq_eq_true M2;have jW:=Nat.le_of_ble_eq_true hb3;obtain⟨g1,g2,_⟩:=zbL (hr.opd x) J1;obtain⟨k1,k2⟩:=ziM (a.eval x) off vs;obtain⟨s1,s2⟩:=zeA cs off (cellsOf (opd st.s x)) (by omega)
  obtain⟨vs',h1,h2,h3⟩:=ziF hr pl r _ cs' _ hf (by rw[k1,s1,hs]) (λj hj=>by
   rw[s2 j (by omega) hj,k2 j (by omega)]
   by_cases tW:off≤j∧j<off+(cellsOf (opd st.s x)).length
   ·rw[dif_pos tW,if_pos (by omega)];exact g2 _ (by omega)
   ·rw[dif_neg tW,if_neg (by omega)];exact hv j (by omega))
  refine⟨vs',?_,h2,h3⟩;simp only[List.map_cons,Instr.fill,hp];rw[if_neg]
  ·exact h1
  ·simp;omega
omit [jA]in
def zjb{f g:Nat→Option (Nat×Nat)}(hfg:∀k p,f k=some p→g k=some p):∀(cs:Array Value) (l:List (Nat×Value)) (r:Array Value),Instr.fill f cs l=some r→Instr.fill g cs l=some r
 | cs,[],r,h=>h
 | cs,(i,v) :: l,r,h=>by
  simp only[Instr.fill]at h⊢;cases hf:f i with
  | none=>rw[hf]at h;cases h
  | some p=>
   obtain⟨off,n⟩:=p;rw[hf]at h;rw[hfg i _ hf];simp only at h⊢;split at h
   ·cases h
   ·rename_i hc;rw[if_neg hc];exact zjb hfg _ l r h
variable {o:Oper} {i:Nat} (hr:VA C w0 outer own ρ st a w)
include hr
def zr8(t:TypeId)(parts:Array (Nat×Operand))(ho:o.op= .build t parts)(hk:gB C i o st some=some st'):BC C.P o a w (wC C w0 outer own i ρ st'):=by
 simp only[gB,ho]at hk;split at hk
 case h_2=>cases hk
 rename_i cs pl hz vZ;obtain⟨cs',hf,IV⟩:=Option.bind_eq_some_iff.1 ((GS _ _).symm.trans hk);unfold zeroCells at hz;split at hz
 case h_2=>cases hz
 rename_i z JY;cases hb:XG (z.cells.toList.map KO)<;>simp[hb]at hz
 subst hz;obtain⟨info,KY,hi2⟩:=Option.bind_eq_some_iff.1 JY
 obtain⟨vs',h1,h2,h3⟩:=ziF hr pl parts.toList _ cs' z.cells hf (by simp) (λj hj=>by
  rw[List.getElem_map];have UW:j<z.cells.size:=by simpa using hj
  rw[Array.getD_eq_getD_getElem?,Array.getElem?_eq_getElem UW];exact zcG _)
 have P3:C.P.built t (parts.map λ(i,x)=>(i,a.eval x)).toList=some vs':=by
  unfold zkB at vZ;split at vZ
  ·rename_i fs hu;simp only[Program.built,KY,hu,hi2,vZ,Array.toList_map];simpa using h1
  ·rename_i n e hu;split at vZ
   case h_2=>cases vZ
   rename_i ie B5;cases hb:Nat.ble n 128<;>simp[hb]at vZ
   subst vZ;simp only[Program.built,KY,hu,hi2,B5,Array.toList_map];refine zjb (λk p hp=>?_) _ _ _ h1;simp only[List.getElem?_map]at hp;cases hk:(List.range n)[k]? with
   | none=>simp[hk]at hp
   | some y=>
    simp[hk]at hp
    have:y=k:=by
     obtain⟨MV,hy⟩:=List.getElem?_eq_some_iff.1 hk;simpa using hy.symm
    subst this;rw[←hp]
  ·cases vZ
 refine cC (v:= .agg vs') (w':=w) ?_ (hr.after (.agg cs' vs' h2 h3) IV);simp only[execOp,ho,Sem.run_bind,run_build w t _ vs' P3,Result.andThen_ok];rfl
def zo4(hC:IF C)(t:TypeId)(x y:Operand)(ho:o.op= .makeSlice t x y)(hi:ρ i=none)(hk:gB C i o st some=some st'):BC C.P o a w (wC C w0 outer own i ρ st'):=by
 simp only[gB,ho]at hk;split at hk
 case h_2=>cases hk
 rename_i tn z MW hz;obtain⟨e,he,I2⟩:=Option.bind_eq_some_iff.1 MW
 have hu:C.P.underlying t=some (.slice e):=by
  unfold wO at he;split at he
  ·rename_i h1;cases he;exact h1
  ·cases he
 obtain⟨info,z',KY,hi2,b8,L3,t5⟩:=hC.ok e tn I2;rw[he,Option.bind_some]at hz;unfold zeroCells at hz;rw[KY,Option.bind_some,L3]at hz;simp only at hz;cases hb:XG (z'.cells.toList.map KO)<;>simp[hb]at hz
 subst hz;split at hk
 case h_2=>cases hk
 rename_i n c hn hc;cases dZ:(decide (0≤n)&&decide (n≤(bA:Int))&&(n==c))
 case false=>simp[dZ]at hk
 simp only[dZ,cond_true]at hk;simp only[Bool.and_eq_true,decide_eq_true_eq,beq_iff_eq]at dZ;obtain⟨⟨h0,AW⟩,rfl⟩:=dZ;obtain⟨x0,MX,hk⟩:=Option.bind_eq_some_iff.1 ((GS _ _).symm.trans hk);have hx:=hr.opd x;rw[hn]at hx;have hy:=hr.opd y;rw[hc]at hy;generalize GZ:a.eval x=vx at hx;generalize HZ:a.eval y=vy at hy;cases hx;cases hy
 have GV:=run_make (P:=C.P) w t e info z' hu KY L3 .i64 .i64 n n h0 (Int.le_refl _) (by
  have h1:info.bytes *n≤1024 *n:=Int.mul_le_mul_of_nonneg_right (by omega) h0;unfold bA at AW;omega) (by unfold bA at AW;omega)
 have C5:(execOp a.eval o).run C.P w= .ok (.value (.slice (some ⟨w.heap.size,0,none⟩) n.toNat n.toNat)) (w.alloc (.cells (madeCells z'.cells (n.toNat *info.size)) e)):=by
  simp only[execOp,ho,GZ,HZ,Sem.run_bind,GV,Result.andThen_ok];rfl
 have hnm:n.toNat≤maxLen:=by unfold maxLen;unfold bA at AW;omega
 have NV:(madeCells z'.cells (n.toNat *info.size)).size=n.toNat *sz tn:=by rw[size_madeCells,hi2]
 refine cC C5 (hr.newRow hi ⟨w.heap.size,n.toNat,n.toNat,false⟩ (λ_=>rfl) _ (BU _ _) (λb hb=>IT _ _ _ hb) (λ_=>by simp) (c:= .arr tn (List.replicate n.toNat x0)) (λbad IV=>?_) (λbad=>?_) hk)
 ·refine⟨by simp, .inr ⟨rfl,zeU (hC.tys e tn I2),Nat.le_refl _,hnm,λj hj=>⟨World.frozen?_alloc_new _ _ _ _,?_⟩,λi' cW j hj=>?_⟩⟩
  ·have UW:j<n.toNat *sz tn:=hj;rw[KN w _ e j (by omega)];rfl
  ·have tW:i'<n.toNat:=by simpa using cW
   have MV:i' *sz tn+j<(madeCells z'.cells (n.toNat *info.size)).size:=by
    rw[NV];have:(i'+1) *sz tn≤n.toNat *sz tn:=Nat.mul_le_mul_right _ tW;rw[Nat.add_mul,Nat.one_mul]at this;omega
   refine⟨_,KN w _ e _ MV,?_⟩;have JW:j<z'.cells.size:=by omega
   have OY:(madeCells z'.cells (n.toNat *info.size)).getD (i' *sz tn+j) undef=z'.cells.getD j undef:=by
    rw[Array.getD_eq_getD_getElem?,Array.getElem?_eq_getElem MV,Array.getD_eq_getD_getElem?,Array.getElem?_eq_getElem JW];simp only[madeCells,Array.getElem_map,Array.getElem_range,Option.getD_some]
    have B9:(i' *sz tn+j) % z'.cells.size=j:=by
     rw[t5,Nat.add_comm,Nat.mul_comm,Nat.add_mul_mod_self_left,Nat.mod_eq_of_lt hj]
    rw[B9,getElem!_pos z'.cells j JW]
   rw[OY,List.getElem_replicate];have hs:=xF tn MX;have N4:=hs.get j (by simpa using JW) (by rw[cD];exact hj);rw[uS _ _ _ (by rw[cD];exact hj)];refine IV _ _ (VR.sub N4 ?_);rw[List.getElem_map,Array.getD_eq_getD_getElem?,Array.getElem?_eq_getElem JW];simpa using zcG z'.cells[j]
 ·exact .ow i ⟨w.heap.size,n.toNat,n.toNat,false⟩ (MA _ _ _) (Nat.le_refl _) hnm rfl
def zqG(hC:IF C)(src d:TypeId)(x:Operand)(ho:o.op= .convert src d x)(hi:ρ i=none)(hk:gB C i o st some=some st'):BC C.P o a w (wC C w0 outer own i ρ st'):=by
 simp only[gB,ho]at hk;have hx:=hr.opd x
 have UV:∀v w',(convert src d (a.eval x)).run C.P w= .ok v w'→(execOp a.eval o).run C.P w= .ok (.value v) w':=λv w' h1=>by
  simp[execOp,ho,h1]
 split at hk
 ·rename_i k0 k k1 n h1 h2 h3;rw[h3]at hx;generalize hv:a.eval x=v at hx UV;cases hx;refine cC (UV (.int k (k.wrap n)) w ?_) (hr.after (.int _ _ (JR _ _)) hk);simp[convert,run_underlying h1,run_underlying h2,Conv.intToInt]
 ·rename_i e s h1 h2 h3;split at hk
  case h_2=>cases hk
  rename_i h4 h5;rw[h3]at hx;cases AW:Nat.ble s.length bA
  case false=>simp[AW]at hk
  simp only[AW,cond_true]at hk;have AW:=Nat.le_of_ble_eq_true AW;generalize hv:a.eval x=v at hx UV;cases hx with
  | str _ hs=>
  obtain⟨info,z,KY,hi2,b8,L3,t5⟩:=hC.ok e .byte h4;have GV:=run_bytes_of_string (P:=C.P) w src d e ⟨s.toArray⟩ h1 h2 h5;have hss:(ByteArray.mk s.toArray).size=s.length:=by simp[ByteArray.size]
  rw[hss]at GV;have tX:=grownCap_ge w s.length 0 e;have P4:grownCap w s.length 0 e≤maxLen:=grownCap_le_maxLen w s.length 0 e hs;generalize PZ:grownCap w s.length 0 e=cap at GV tX P4;have Q3:(bytesRow ⟨s.toArray⟩ cap).size=cap:=by simp[bytesRow,hss];omega
  refine cC (UV _ _ GV) (hr.newRow hi ⟨w.heap.size,s.length,cap,false⟩ (λ_=>rfl) _ (Wx.trans (zkm w) (BU _ _))
   (λb hb=>IT w.drew _ b hb) (λ_=>by simp) (c:= .arr .byte s) (λbad IV=>?_) (λbad=>?_) hk)
  ·have TV:∀j,j<cap→(w.drew.alloc (.cells (bytesRow ⟨s.toArray⟩ cap) e ((bytesRow ⟨s.toArray⟩ cap).size,(bytesRow ⟨s.toArray⟩ cap).size+1))).cell? (at_ w.heap.size j)=(bytesRow ⟨s.toArray⟩ cap)[j]?:=λj hj=>by
    have hh:(w.drew.alloc (.cells (bytesRow ⟨s.toArray⟩ cap) e ((bytesRow ⟨s.toArray⟩ cap).size,(bytesRow ⟨s.toArray⟩ cap).size+1))).heap[w.heap.size]?=some (.cells (bytesRow ⟨s.toArray⟩ cap) e ((bytesRow ⟨s.toArray⟩ cap).size,(bytesRow ⟨s.toArray⟩ cap).size+1)):=by
     show(w.heap.push _)[w.heap.size]?=_
     simp
    unfold World.cell? at_;rw[hh];rfl
   refine⟨rfl, .inr ⟨rfl,⟨_,e,_,by show(w.heap.push _)[w.heap.size]?=_;rw[Array.getElem?_push_size],hC.tys e .byte h4⟩,tX,P4,λj hj=>?_,λi' cW j hj=>?_⟩⟩
   ·have UW:j<cap:=by simpa[sz]using hj
    refine⟨?_,?_⟩
    ·have:=World.frozen?_alloc_mark w.drew (bytesRow ⟨s.toArray⟩ cap) e (bytesRow ⟨s.toArray⟩ cap).size ((bytesRow ⟨s.toArray⟩ cap).size+1) j;rw[World.size_drew]at this;show World.frozen? _ ⟨w.heap.size,j,none⟩=false
     rw[this,Q3];simp;omega
    ·rw[TV j UW,Array.getElem?_eq_getElem (by omega)];rfl
   ·have D5:j=0:=by simp[sz]at hj;exact hj
    subst D5;have E2:i'<s.length:=cW;refine⟨.int .u8 (s[i'].toNat:Int),?_,?_⟩
    ·simp only[sz,Nat.mul_one,Nat.add_zero];rw[TV i' (by omega),bytesRow_at _ _ _ (by simpa using E2)];simp
    ·have:=s[i'].toNat_lt;exact .int _ _ ⟨by simp[IntKind.min,IntKind.signed],by simp[IntKind.max,IntKind.signed,IntKind.bits];omega⟩
  ·exact .ow i ⟨w.heap.size,s.length,cap,false⟩ (MA _ _ _) tX P4 rfl
 ·rename_i e h1 h2;split at hk
  case h_2=>cases hk
  rename_i l h5 h4;cases AW:Nat.ble l.length bA
  case false=>simp[AW]at hk
  simp only[AW,cond_true]at hk;have AW:=Nat.le_of_ble_eq_true AW;obtain⟨ao,cap,hv,UZ⟩:=zjK hr hx h4;refine cC (UV (.string ⟨l.toArray⟩) w ?_) (hr.after (.str l (by unfold bA at AW;unfold maxLen;omega)) hk);rw[hv]
  have empty:∀(ao:Option Addr) (c:Nat),(convert src d (.slice ao 0 c)).run C.P w= .ok (.string ⟨#[]⟩) w:=λao c=>by
   cases ao with
   | none=>exact run_convert_bytes_nil w src e h1 h5 0 c d h2
   | some ad=>exact run_convert_bytes_back w src d e ad c [] h1 h5 h2 (λj hj=>by simp at hj)
  rcases UZ with rfl | ⟨b,off,rfl,hc⟩
  ·exact empty ao cap
  ·refine run_convert_bytes_back w src d e (at_ b off) cap l h1 h5 h2 λj hj=>?_;obtain⟨u,c1,c2⟩:=hc j hj 0 (by simp[sz]);simp only[sz,Nat.mul_one,Nat.add_zero]at c1;rw[kG,c1];have:(enc .byte l[j]).getD 0 .undef= .int .u8 (l[j].toNat:Int):=rfl;rw[this]at c2;cases c2;rfl
 ·rename_i e0 e r h1 h2 h3;split at hk
  case h_2=>cases hk
  rename_i y l C9 h5 h4;have C9:=Nat.eq_of_beq_eq_true C9;subst C9;have he:e0=e:=by rw[h1]at h2;cases h2;rfl
  subst he;rw[h3]at hx;obtain⟨ri,hρ,PV,z3⟩:=hr.heap.rows r _ h4;obtain⟨KV,UZ⟩:=PV;generalize hv:a.eval x=v at hx UV;cases hx with
  | owN _ ri' ao VZ hn YV=>
   rw[hρ]at VZ;cases VZ;rw[hn]at KV;simp at KV
  | ow _ ri' VZ hn hc YV=>
  rw[hρ]at VZ;cases VZ
  rcases UZ with⟨E5,_⟩ | ⟨_,ce,_,_,vX,wX⟩
  ·rw[YV]at E5;cases E5
  have J2:0<ri.cap *sz .byte:=by
   have:0<ri.n:=by rw[KV];simp
   simp[sz];omega
  obtain⟨c,elem,lo,cW,L1⟩:∃c elem lo cW,w.heap[ri.b]?=some (.cells c elem (lo,cW)):=by
   have:=(vX 0 J2).2;unfold World.cell? at_ at this;simp only at this;split at this
   ·rename_i c elem fr hb;exact⟨c,elem,fr.1,fr.2,hb⟩
   ·cases this
  have OW:(w.freeze ⟨ri.b,c.size,none⟩ 1).heap=w.heap.modify ri.b fun
    | .cells c' elem (lo,hi)=> .cells c' elem (if lo==hi then(c.size,c.size+1)else(min lo c.size,max hi (c.size+1)))
    | o=>o:=by
   unfold World.freeze;rw[if_neg (by decide)];rfl
  generalize hW:w.freeze ⟨ri.b,c.size,none⟩ 1=W at OW
  have R3:∀b,b≠ri.b→W.heap[b]?=w.heap[b]?:=λb hb=>by
   rw[OW,Array.getElem?_modify,if_neg (Ne.symm hb)]
  have TV:∀j,W.cell? (at_ ri.b j)=w.cell? (at_ ri.b j):=λj=>by
   unfold World.cell? at_;simp only[OW,Array.getElem?_modify,L1,if_true,Option.map_some]
  have ceW:AF W ri.b .byte:=by
   obtain⟨c',e',z',k1,k2⟩:=ce;rw[L1]at k1;cases k1;exact⟨c,elem,_,by rw[OW,Array.getElem?_modify,if_pos rfl,L1];rfl,k2⟩
  have GV:(convert src src (.slice (some (at_ ri.b 0)) ri.n ri.cap)).run C.P w= .ok (.slice (some (at_ ri.b 0)) ri.n ri.cap) W:=by
   have D9:w.shape? ri.b=some (elem,c.size):=by simp[World.shape?,L1]
   simp[convert,run_underlying h1,run_underlying h5,markStringish,at_,D9];exact hW
  have ZY:Wx w W:=by
   rw[←hW];unfold World.freeze;rw[if_neg (by decide)];exact⟨rfl,rfl,rfl,by simp⟩
  have LW:=hr.heap.write h4 hρ YV W ZY (by rw[OW];simp) R3 (.box []) (λ_=>⟨YV,λj hj=>by simp at hj⟩)
  have VV:=LW.1.less (h':=AA st.h r none) (λq row' hq=>by
   by_cases XV:q=r
   ·subst XV;rw[MA]at hq;cases hq
   ·rw[BA _ _ _ _ XV]at hq;exact⟨row',by rw[BA _ _ _ _ XV];exact hq,rfl,λh=>h⟩)
  have PY:=hr.turn VV.1 (λu d hu=>VV.2 _ _ (LW.2 u d hu))
  have n8:¬rA outer ρ (AA st.h r none) ri.b:=by
   rintro(hb | ⟨q,row,qi,q1,q2,q3,q4,q5⟩)
   ·exact(z3 YV).1.1 hb
   ·by_cases XV:q=r
    ·subst XV;rw[MA]at q1;cases q1
    ·rw[BA _ _ _ _ XV]at q1;exact XV (hr.heap.inj q r row _ qi ri q1 h4 q3 hρ q4 YV q5)
  refine cC (UV _ _ GV) (PY.after ?_ hk);have N2:ri.n=(y :: l).length:=KV;rw[N2];rw[N2]at hn;refine .slC .byte (y :: l) ri.b 0 ri.cap (λi _=> .int .u8 ((((y :: l).getD i 0:UInt8).toNat:Nat):Int)) n8 hn hc (λ_=> .inr ceW) (λi hi j hj=>?_) (λi hi j hj=>?_)
  ·have D5:j=0:=by simp[sz]at hj;exact hj
   subst D5;obtain⟨u,c1,c2⟩:=wX i hi 0 (by simp[sz]);rw[TV];simp only[Nat.zero_add];rw[c1];have e2:(enc .byte (y :: l)[i]).getD 0 .undef= .int .u8 ((y :: l)[i].toNat:Int):=rfl;rw[e2]at c2;cases c2;have e3:(y :: l).getD i (0:UInt8)=(y :: l)[i]:=by rw[List.getD_eq_getElem?_getD,List.getElem?_eq_getElem hi];rfl
   rw[e3]
  ·have D5:j=0:=by simp[sz]at hj;exact hj
   subst D5;have e3:(y :: l).getD i (0:UInt8)=(y :: l)[i]:=by rw[List.getD_eq_getElem?_getD,List.getElem?_eq_getElem hi];rfl
   rw[e3];have:=UInt8.toNat_lt (y :: l)[i];show VR _ _ _ _ (.int .u8 ((((y :: l)[i]:UInt8).toNat:Nat):Int))
   exact .int _ _ ⟨by simp[IntKind.min,IntKind.signed],by simp[IntKind.max,IntKind.signed,IntKind.bits];omega⟩
 ·cases hk
end
end Go.D
namespace Go.D
variable [jA]
section
variable {C:Cx} {w0:World} {outer own:Nat→Prop} {ρ:Nat→Option RI} {st st':St} {a:Act} {w:World} {h:Nat→Option sA}
def Out(base N r:Nat):Prop:=¬(base≤r∧r<base+N)
omit [jA]in
def mC(ow:List Nat)(base:Nat)(h:Nat→Option sA):∀(es:List V) (p r:Nat),XA ow base h p es r=match XA ow base (λ_=>none) p es r with | some x=>some x | none=>h r
 | [],p,r=>rfl
 | e :: es,p,r=>by
  have ih:=mC ow base h es (p+1) r;cases e<;>simp only[XA]<;>try exact ih
  cases hb:ow.any (Nat.beq p)
  ·simpa using ih
  ·simp only[cond_true]
   by_cases hr:r=base+p
   ·subst hr;simp[MA]
   ·simp only[BA _ _ _ _ hr];exact ih
omit [jA]in
def ND(ow:List Nat)(base:Nat):∀(es:List V) (p r:Nat),(r<base+p∨base+p+es.length≤r)→XA ow base (λ_=>none) p es r=none
 | [],p,r,_=>rfl
 | e :: es,p,r,hr=>by
  have ih:=ND ow base es (p+1) r (by simp at hr;omega);cases e<;>simp only[XA]<;>try exact ih
  cases hb:ow.any (Nat.beq p)
  ·simpa using ih
  ·simp only[cond_true];rw[BA _ _ _ _ (by simp at hr;omega)];exact ih
omit [jA]in
def qF(ow:List Nat)(base:Nat):∀(es:List V) (p:Nat),(NA ow base p es).length=es.length
 | [],p=>rfl
 | e :: es,p=>by cases e<;>simp[NA,qF ow base es (p+1)]
def ZG(h g:Nat→Option sA):Prop:=∀r row,h r=some row→g r=some row
omit [jA]in
def zdX{c:V}{h g:Nat→Option sA}{x:V×List Nat}(hg:ZG h g)(hf:xG h c=some x):xG g c=some x∧∀r∈x.2,∃row,h r=some row:=by
 unfold xG at hf;split at hf
 ·rename_i r;split at hf
  ·rename_i t l m hr;refine⟨by simp only[xG,hg _ _ hr];exact hf,?_⟩;cases hm:m.isLock<;>simp[hm]at hf
   subst hf;intro q hq;simp at hq;subst hq;exact⟨_,hr⟩
  ·cases hf
 ·rename_i r t off len;split at hf
  ·rename_i t' l m hr;refine⟨by simp only[xG,hg _ _ hr];exact hf,?_⟩;cases hm:m.isLock
   ·simp only[hm,cond_false]at hf;split at hf
    ·simp at hf;subst hf;intro q hq;simp at hq;subst hq;exact⟨_,hr⟩
    ·cases hf
   ·simp[hm]at hf
  ·cases hf
 ·cases hb:lG 8 c<;>simp[hb]at hf
  subst hf;refine⟨?_,by simp⟩;unfold xG;split
  ·simp[lG]at hb
  ·simp[lG]at hb
  ·simp[hb]
omit [jA]in
def zd0{h g:Nat→Option sA}(hg:ZG h g):∀{cs:List V} {x:List V×List Nat},QF h cs=some x→QF g cs=some x∧∀r∈x.2,∃row,h r=some row
 | [],x,hf=>by simp[QF]at hf;subst hf;simp[QF]
 | c :: cs,x,hf=>by
  simp only[QF]at hf;split at hf
  ·cases hf
  rename_i c' i h1;split at hf
  ·cases hf
  rename_i cs' j h2;cases hf;obtain⟨k1,k2⟩:=zdX hg h1;obtain⟨k3,k4⟩:=zd0 hg h2;refine⟨by simp[QF,k1,k3],λr hr=>?_⟩
  rcases List.mem_append.1 hr with hr | hr
  ·exact k2 r hr
  ·exact k4 r hr
omit [jA]in
def zjF{c:V}{h g:Nat→Option sA}{x:V×List Nat}(hg:ZG h g)(hf:eH h c=some x):eH g c=some x∧∀r∈x.2,∃row,h r=some row:=by
 unfold eH at hf;split at hf
 ·split at hf
  ·rename_i cs cs' i h1;cases hf;obtain⟨k1,k2⟩:=zd0 hg h1;exact⟨by simp[eH,k1],k2⟩
  ·cases hf
 ·rename_i r off;split at hf
  ·rename_i cs m hr;cases hb:(m.isLock||cs.isEmpty)
   case true=>simp[hb]at hf
   simp only[hb,cond_false]at hf;split at hf
   ·rename_i cs' i h1;cases hf;obtain⟨k1,k2⟩:=zd0 hg h1;refine⟨by simp[eH,hg _ _ hr,hb,k1],λq hq=>?_⟩
    rcases List.mem_cons.1 hq with rfl | hq
    ·exact⟨_,hr⟩
    ·exact k2 q hq
   ·cases hf
  ·cases hf
 ·rename_i h1 h2;obtain⟨k1,k2⟩:=zdX hg hf;refine⟨?_,k2⟩;unfold eH;split
  ·exact absurd rfl (h1 _)
  ·exact absurd rfl (h2 _ _)
  ·exact k1
omit [jA]in
def zeN{h g:Nat→Option sA}(hg:ZG h g)(ids:List Nat):ZG (rC h ids) (rC g ids):=by
 intro r row hr;rw[pF]at hr⊢
 by_cases hm:r∈ids
 ·simp only[hm,if_true,Option.map_eq_some_iff]at hr⊢;obtain⟨row',h1,rfl⟩:=hr;exact⟨row',hg _ _ h1,rfl⟩
 ·simp only[hm,if_false]at hr⊢;exact hg _ _ hr
def zeJ{bad bad':Nat→Prop}{ri:RI}{ρ':Nat→Option RI}{t:TN}{l:List (El t)}(hr:QD w ρ bad ri (.arr t l))
  (hv:∀u d,VR w ρ bad u d→VR w ρ' bad' u d):QD w ρ' bad' ri (.arr t l):=hr.keep (λ_=>rfl) hv
def iB.rename(hh:iB w0 outer own ρ h w){r i:Nat}{t:TN}{l:List (El t)}{ri:RI}(hr:h r=some ⟨.arr t l, .own⟩)(hρ:ρ r=some ri)(hi:ρ i=none):
  iB w0 outer own (AA ρ i (some ri)) (AA (AA h r none) i (some ⟨.arr t l, .own⟩)) w∧
   ∀u d,VR w ρ (rA outer ρ h) u d→VR w (AA ρ i (some ri)) (rA outer (AA ρ i (some ri)) (AA (AA h r none) i (some ⟨.arr t l, .own⟩))) u d:=by
 obtain⟨ri',h1,h2,h3⟩:=hh.rows r _ hr;rw[hρ]at h1;cases h1;cases hn:ri.nl
 ·exact hh.move hr hρ hn hi rfl hn w (Wx.refl _) rfl (λ_ _=>rfl) _ λbad hv=>zeJ h2 hv
 ·obtain⟨k1,k2⟩:=hh.less (h':=AA h r none) (λq row' hq=>by
   by_cases XV:q=r
   ·subst XV;rw[MA]at hq;cases hq
   ·rw[BA _ _ _ _ XV]at hq;exact⟨row',hq,rfl,id⟩)
  obtain⟨k3,k4⟩:=k1.alloc i hi ri (λh=>by rw[hn]at h;cases h) w (Wx.refl _) (λ_ _=>rfl) (λh=>by rw[hn]at h;cases h) (.arr t l)
   λhv=>zeJ (zeJ h2 k2) hv
  exact⟨k3,λu d hu=>k4 _ _ (k2 _ _ hu)⟩
def iB.empty(hh:iB w0 outer own ρ h w){i:Nat}(t:TN)(hi:ρ i=none):
  iB w0 outer own (AA ρ i (some ⟨0,0,0,true⟩)) (AA h i (some ⟨.arr t [], .own⟩)) w∧
   ∀u d,VR w ρ (rA outer ρ h) u d→VR w (AA ρ i (some ⟨0,0,0,true⟩)) (rA outer (AA ρ i (some ⟨0,0,0,true⟩)) (AA h i (some ⟨.arr t [], .own⟩))) u d:=
 hh.alloc i hi ⟨0,0,0,true⟩ (λh=>by cases h) w (Wx.refl _) (λ_ _=>rfl) (λh=>by cases h) (.arr t []) λ_=>⟨rfl, .inl ⟨rfl,rfl⟩⟩
def iB.cut(hh:iB w0 outer own ρ h w){r i len:Nat}{t:TN}{l:List (El t)}{v:Value}(hr:h r=some ⟨.arr t l, .own⟩)(hi:ρ i=none)(hv:VR w ρ (rA outer ρ h) v (.ov r t 0 len)):
  ∃ri',iB w0 outer own (AA ρ i (some ri')) (AA (AA h r none) i (some ⟨.arr t (l.take len), .own⟩)) w∧
   (∀u d,VR w ρ (rA outer ρ h) u d→VR w (AA ρ i (some ri')) (rA outer (AA ρ i (some ri')) (AA (AA h r none) i (some ⟨.arr t (l.take len), .own⟩))) u d)∧
   VR w (AA ρ i (some ri')) (rA outer (AA ρ i (some ri')) (AA (AA h r none) i (some ⟨.arr t (l.take len), .own⟩))) v (.ow i):=by
 obtain⟨ri,hρq,PV,_⟩:=hh.rows r _ hr;have kY:ri.n=l.length:=PV.1;obtain⟨ao,cap,h1,h2,h3,h4,h5⟩:=hv.ov_inv hρq
 rcases h3 with⟨rfl,rfl⟩ | ⟨rfl,YV,hc⟩
 ·obtain⟨k1,k2⟩:=hh.less (h':=AA h r none) (λq row' hq=>by
   by_cases XV:q=r
   ·subst XV;rw[MA]at hq;cases hq
   ·rw[BA _ _ _ _ XV]at hq;exact⟨row',hq,rfl,id⟩)
  obtain⟨n1,n2⟩:=k1.empty t hi;rw[List.take_zero];exact⟨⟨0,0,0,true⟩,n1,λu d hu=>n2 _ _ (k2 _ _ hu),by rw[h1];exact .owN _ ⟨0,0,0,true⟩ ao (MA _ _ _) rfl rfl⟩
 ·rw[Nat.zero_mul]at h1
  rcases PV.2 with h6 | ⟨_,ce,c1,c2,c3,c4⟩
  ·rw[YV]at h6;cases h6.1
  obtain⟨n1,n2⟩:=hh.move hr hρq YV hi (ri':=⟨ri.b,len,cap,false⟩) rfl rfl w (Wx.refl _) rfl (λ_ _=>rfl) (.arr t (l.take len)) λbad IV=>by
   refine⟨by simp;omega, .inr ⟨rfl,ce,h4,h5,λj hj=>c3 j ?_,λi hi j hj=>?_⟩⟩
   ·have:cap *sz t≤ri.cap *sz t:=Nat.mul_le_mul_right _ (by omega);have hj:j<cap *sz t:=hj;omega
   ·obtain⟨u,f1,f2⟩:=c4 i (by simp at hi;omega) j hj;refine⟨u,f1,?_⟩;rw[List.getElem_take];exact IV _ _ f2
  exact⟨_,n1,n2,by rw[h1];exact .ow _ ⟨ri.b,len,cap,false⟩ (MA _ _ _) h4 h5 rfl⟩
structure zk9(w0:World)(outer own:Nat→Prop)(w:World)(ow:List Nat)(base N p:Nat)(ρ:Nat→Option RI)(g h h':Nat→Option sA)(es:List V)(u:Nat→Value)
  (ρ':Nat→Option RI) (g':Nat→Option sA):Prop where
 heap:iB w0 outer own ρ' g' w
 lies:ZG h' g'
 out:∀r,Out base N r→ρ' r=ρ r∧(h r=none→g' r=g r)
 less:∀r,h r=none→h' r=none
 before:∀q,q<p→g' (base+q)=g (base+q)∧ρ' (base+q)=ρ (base+q)
 new:∀q,p≤q→q<N→g' (base+q)=XA ow base (λ_=>none) p es (base+q)
 ext:∀r ri,ρ r=some ri→ρ' r=some ri
 keep:∀v d,VR w ρ (rA outer ρ g) v d→VR w ρ' (rA outer ρ' g') v d
 vals:∀j (hj:j<(NA ow base p es).length),VR w ρ' (rA outer ρ' g') (u j) (NA ow base p es)[j]
 closed:∀j (hj:j<es.length),YC es[j]∧(es[j]).leaf=true
omit [jA]in
def OB.closed1{c e:V}(hs:OH c e)(h:YC c∧c.leaf=true):YC e∧e.leaf=true:=by
 cases hs with
 | refl=>exact h
 | byte n=>exact⟨λ_=> .int _ _,rfl⟩
 | nil t=>exact⟨iM _ _,rfl⟩
def nU(ow:List Nat)(base N:Nat):∀(cs:List V) (p:Nat) (h h':Nat→Option sA) (cs' es:List V) (ρ:Nat→Option RI) (g:Nat→Option sA) (u:Nat→Value),
  MD ow p cs h=some (cs',h')→OB cs' es→p+cs.length≤N→iB w0 outer own ρ g w→
  (∀j (hj:j<cs.length),VR w ρ (rA outer ρ g) (u j) cs[j])→ZG h g→(∀q,q<N→h (base+q)=none)→
  (∀q,p≤q→q<N→ρ (base+q)=none)→∃ρ' g',zk9 w0 outer own w ow base N p ρ g h h' es u ρ' g'∧es.length=cs.length
 | [],p,h,h',cs',es,ρ,g,u,ht,hs,hN,hh,hv,hg,xW,hf=>by
  simp only[MD,Option.some.injEq,Prod.mk.injEq]at ht;obtain⟨rfl,rfl⟩:=ht;cases hs;refine⟨ρ,g,⟨hh,hg,λr hr=>⟨rfl,λ_=>rfl⟩,λ_ h=>h,λq hq=>⟨rfl,rfl⟩,λq h1 h2=>?_,λ_ _ h=>h,λ_ _ h=>h,λj hj=>by simp[NA]at hj,λj hj=>by simp at hj⟩,rfl⟩;cases Q4:g (base+q)with
  | none=>rfl
  | some row=>obtain⟨ri,h3,_⟩:=hh.rows _ _ Q4;rw[hf q h1 h2]at h3;cases h3
 | c :: cs,p,h,h',cs',es,ρ,g,u,ht,hs,hN,hh,hv,hg,xW,hf=>by
  simp only[List.length_cons]at hN;have tW:¬Out base N (base+p):=λho=>ho ⟨by omega,by omega⟩
  have WZ:∀r row,h r=some row→Out base N r:=λr row hr=>by
   rintro⟨h1,h2⟩;have:=xW (r - base) (by omega);rw[show base+(r - base)=r by omega,hr]at this;cases this
  -- behind a step
  have go:∀(ρ1:Nat→Option RI) (g1 h1:Nat→Option sA) (cs1 es1:List V) (e:V),MD ow (p+1) cs h1=some (cs1,h')→OB cs1 es1→es=e :: es1→iB w0 outer own ρ1 g1 w→
    (∀v d,VR w ρ (rA outer ρ g) v d→VR w ρ1 (rA outer ρ1 g1) v d)→ZG h1 g1→(∀r,Out base N r→ρ1 r=ρ r∧(h r=none→g1 r=g r))→(∀r,h r=none→h1 r=none)→(∀q,q<p→g1 (base+q)=g (base+q)∧ρ1 (base+q)=ρ (base+q))→
    (∀q,p+1≤q→q<N→ρ1 (base+q)=ρ (base+q))→(∀r ri,ρ r=some ri→ρ1 r=some ri)→(YC e∧e.leaf=true)→
    (∀ (ρ':Nat→Option RI) (g':Nat→Option sA),(∀ v d,VR w ρ1 (rA outer ρ1 g1) v d→VR w ρ' (rA outer ρ' g') v d)→
     ∃(hl:0<(NA ow base p (e :: es1)).length),VR w ρ' (rA outer ρ' g') (u 0) (NA ow base p (e :: es1))[0])→
    XA ow base (λ_=>none) p (e :: es1) (base+p)=g1 (base+p)→(∀q,q≠p→XA ow base (λ_=>none) p (e :: es1) (base+q)=XA ow base (λ_=>none) (p+1) es1 (base+q))→
    (∀j (hj:j<(NA ow base (p+1) es1).length),∃(hl:j+1<(NA ow base p (e :: es1)).length),(NA ow base p (e :: es1))[j+1]=(NA ow base (p+1) es1)[j])→
    ∃ρ' g',zk9 w0 outer own w ow base N p ρ g h h' es u ρ' g'∧es.length=(c :: cs).length:=by
   rintro ρ1 g1 h1 cs1 es1 e Y0 nX rfl Z1 uZ Y1 ho1 QY M2 o8 Z0 he dX V0 kY E9
   obtain⟨ρ',g',T,KV⟩:=nU ow base N cs (p+1) h1 h' cs1 es1 ρ1 g1 (λj=>u (j+1)) Y0 nX (by omega) Z1
    (λj hj=>uZ _ _ (hv (j+1) (by simp;omega))) Y1 (λq hq=>QY _ (xW q hq))
    (λq h1 h2=>by rw[o8 q h1 h2];exact hf q (by omega) h2)
   refine⟨ρ',g',⟨T.heap,T.lies,λr hr=>⟨(T.out r hr).1.trans (ho1 r hr).1,λhn=>((T.out r hr).2 (QY r hn)).trans ((ho1 r hr).2 hn)⟩,λr hr=>T.less r (QY r hr),λq hq=>?_,λq h1 h2=>?_,λr ri hr=>T.ext _ _ (Z0 r ri hr),λv d hd=>T.keep _ _ (uZ _ _ hd),λj hj=>?_,λj hj=>?_⟩,by simp[KV]⟩
   ·obtain⟨b1,b2⟩:=T.before q (by omega);exact⟨b1.trans (M2 q hq).1,b2.trans (M2 q hq).2⟩
   ·by_cases hq:q=p
    ·subst hq;rw[(T.before q (by omega)).1];exact V0.symm
    ·rw[T.new q (by omega) h2,kY q hq]
   ·cases j with
    | zero=>exact(dX ρ' g' T.keep).2
    | succ j=>
     have UW:j<(NA ow base (p+1) es1).length:=by
      rw[qF]at hj⊢;simpa using hj
     obtain⟨_,h2⟩:=E9 j UW;rw[h2];exact T.vals j UW
   ·cases j with
    | zero=>exact he
    | succ j=>exact T.closed j (by simpa using hj)
  simp only[MD]at ht;have S3:ρ (base+p)=none:=hf p (Nat.le_refl _) (by omega)
  have hgp:g (base+p)=none:=by
   cases Q4:g (base+p)with
   | none=>rfl
   | some row=>obtain⟨ri,h3,_⟩:=hh.rows _ _ Q4;rw[S3]at h3;cases h3
  have wZ:=hv 0 (by simp);simp only[List.getElem_cons_zero]at wZ;cases hb:ow.any (Nat.beq p)
  ·simp only[hb,cond_false]at ht;split at ht
   case h_2=>cases ht
   rename_i c' ids aZ;split at ht
   case h_2=>cases ht
   rename_i cs1 h1 Y0;simp only[Option.some.injEq,Prod.mk.injEq]at ht;obtain⟨rfl,rfl⟩:=ht;cases hs with
   | cons lY nX=>
   rename_i e es1;obtain⟨F9,LY⟩:=zdX hg aZ;simp only at LY;obtain⟨k1,k2⟩:=hh.mark ids;have k3:=zeq hh wZ F9;have v1:∀r,h r=none→r∉ids:=λr hn hm=>by obtain⟨row,h5⟩:=LY r hm;rw[hn]at h5;cases h5
   have he:=OB.closed1 lY k3.2;have hl:NA ow base p (e :: es1)=e :: NA ow base (p+1) es1:=by cases e<;>simp[NA,hb]
   have F5:∀q,XA ow base (λ_=>none) p (e :: es1) q=XA ow base (λ_=>none) (p+1) es1 q:=λq=>by cases e<;>simp[XA,hb]
   refine go ρ (rC g ids) (rC h ids) cs1 es1 e Y0 nX rfl k1 k2 (zeN hg ids) (λr hr=>⟨rfl,λhn=>?_⟩) (λr hn=>?_) (λq hq=>⟨?_,rfl⟩) (λ_ _ _=>rfl) (λ_ _ h=>h) he (λρ' g' hk=>?_) ?_ (λq hq=>F5 _) (λj hj=>?_)
   ·rw[pF,if_neg (v1 r hn)]
   ·rw[pF,if_neg (v1 r hn)];exact hn
   ·rw[pF,if_neg (v1 _ (xW q (by omega)))]
   ·simp only[hl];exact⟨by simp,(VR.sub lY (hk _ _ k3.1))⟩
   ·rw[F5,ND _ _ _ _ _ (by omega),pF,if_neg (v1 _ (xW p (by omega))),hgp]
   ·simp only[hl];exact⟨by simpa using hj,by simp⟩
  ·simp only[hb,cond_true]at ht;split at ht
   ·rename_i r;split at ht
    case h_2=>cases ht
    rename_i t l HV;split at ht
    case h_2=>cases ht
    rename_i cs1 h1 Y0;simp only[Option.some.injEq,Prod.mk.injEq]at ht;obtain⟨rfl,rfl⟩:=ht;cases hs with
    | cons lY nX=>
    rename_i e es1;cases lY;have PV:=WZ r _ HV;have s8:g r=some ⟨.arr t l, .own⟩:=hg _ _ HV;obtain⟨ri,hρr,_,_⟩:=hh.rows r _ s8;obtain⟨k1,k2⟩:=hh.rename s8 hρr S3;have G9:r≠base+p:=by rintro rfl;exact tW PV
    have hl:NA ow base p (.sl t l :: es1)= .ow (base+p) :: NA ow base (p+1) es1:=by simp[NA,hb]
    refine go _ _ (AA h r none) cs1 es1 (.sl t l) Y0 nX rfl k1 k2 (λq row hq=>?_) (λq hq=>⟨BA _ _ _ _ ?_,λhn=>?_⟩) (λq hn=>?_) (λq hq=>⟨?_,BA _ _ _ _ (by omega)⟩) (λq h1 _=>BA _ _ _ _ (by omega))
     (λq qi hq=>by rw[BA];exact hq;rintro rfl;rw[S3]at hq;cases hq) ⟨iM _ _,rfl⟩ (λρ' g' hk=>?_) ?_ (λq hq=>?_) (λj hj=>?_)
    ·by_cases XV:q=r
     ·subst XV;rw[MA]at hq;cases hq
     ·rw[BA _ _ _ _ XV]at hq;have:q≠base+p:=by rintro rfl;exact tW (WZ _ _ hq)
      rw[BA _ _ _ _ this,BA _ _ _ _ XV];exact hg _ _ hq
    ·rintro rfl;exact tW hq
    ·have G5:q≠base+p:=by rintro rfl;exact tW hq
     have XV:q≠r:=by rintro rfl;rw[HV]at hn;cases hn
     rw[BA _ _ _ _ G5,BA _ _ _ _ XV]
    ·by_cases XV:q=r
     ·subst XV;exact MA _ _ _
     ·rw[BA _ _ _ _ XV];exact hn
    ·rw[BA _ _ _ _ (by omega),BA];rintro rfl;exact PV ⟨by omega,by omega⟩
    ·simp only[hl];refine⟨by simp,?_⟩
     have:VR w (AA ρ (base+p) (some ri)) (rA outer (AA ρ (base+p) (some ri)) (AA (AA g r none) (base+p) (some ⟨.arr t l, .own⟩))) (u 0) (.ow (base+p)):=by
      rcases wZ.ow_inv hρr with⟨e1,e2,e3,e4⟩ | ⟨ao,e1,e2,e3⟩
      ·rw[e1];exact .ow _ ri (MA _ _ _) e3 e4 e2
      ·rw[e1];exact .owN _ ri ao (MA _ _ _) e3 e2
     exact hk _ _ this
    ·simp only[XA,hb,cond_true,MA]
    ·simp only[XA,hb,cond_true];rw[BA _ _ _ _ (by omega)]
    ·simp only[hl];exact⟨by simpa using hj,by simp⟩
   ·split at ht
    case h_2=>cases ht
    rename_i cs1 h1 Y0;simp only[Option.some.injEq,Prod.mk.injEq]at ht;obtain⟨rfl,rfl⟩:=ht;have JZ:u 0= .slice none 0 0:=by generalize u 0=x at wZ;cases wZ;rfl
    cases hs with
    | cons lY nX=>
    rename_i e es1;cases lY with
    | refl=>
     have hl:NA ow base p (.nil :: es1)= .nil :: NA ow base (p+1) es1:=by simp[NA]
     have F5:∀q,XA ow base (λ_=>none) p (.nil :: es1) q=XA ow base (λ_=>none) (p+1) es1 q:=λq=>by simp[XA]
     refine go ρ g h cs1 es1 .nil Y0 nX rfl hh (λ_ _ h=>h) hg (λr hr=>⟨rfl,λ_=>rfl⟩) (λ_ h=>h) (λq hq=>⟨rfl,rfl⟩) (λ_ _ _=>rfl) (λ_ _ h=>h) ⟨λ_=> .nil,rfl⟩ (λρ' g' hk=>?_) ?_ (λq hq=>F5 _) (λj hj=>?_)
     ·simp only[hl];exact⟨by simp,by rw[JZ];exact .nil⟩
     ·rw[F5,ND _ _ _ _ _ (by omega),hgp]
     ·simp only[hl];exact⟨by simpa using hj,by simp⟩
    | nil t=>
     have hl:NA ow base p (.sl t [] :: es1)= .ow (base+p) :: NA ow base (p+1) es1:=by simp[NA,hb]
     obtain⟨k1,k2⟩:=hh.empty t S3
     refine go _ _ h cs1 es1 (.sl t []) Y0 nX rfl k1 k2 (λq row hq=>?_) (λq hq=>⟨BA _ _ _ _ ?_,λhn=>BA _ _ _ _ ?_⟩) (λ_ h=>h) (λq hq=>⟨BA _ _ _ _ (by omega),BA _ _ _ _ (by omega)⟩) (λq h1 _=>BA _ _ _ _ (by omega))
      (λq qi hq=>by rw[BA];exact hq;rintro rfl;rw[S3]at hq;cases hq) ⟨iM _ _,rfl⟩ (λρ' g' hk=>?_) ?_ (λq hq=>?_) (λj hj=>?_)
     ·rw[BA _ _ _ _ (by rintro rfl;exact tW (WZ _ _ hq))];exact hg _ _ hq
     ·rintro rfl;exact tW hq
     ·rintro rfl;exact tW hq
     ·simp only[hl];refine⟨by simp,hk _ _ ?_⟩;rw[JZ];exact .owN _ ⟨0,0,0,true⟩ none (MA _ _ _) rfl rfl
     ·simp only[XA,hb,cond_true,MA]
     ·simp only[XA,hb,cond_true];rw[BA _ _ _ _ (by omega)]
     ·simp only[hl];exact⟨by simpa using hj,by simp⟩
   ·rename_i r t0 len;split at ht
    case h_2=>cases ht
    rename_i t l HV;split at ht
    case h_2=>cases ht
    rename_i cs1 h1 hd Y0;have hd:=of_decide_eq_true hd;subst hd;simp only[Option.some.injEq,Prod.mk.injEq]at ht;obtain⟨rfl,rfl⟩:=ht;cases hs with
    | cons lY nX=>
    rename_i e es1;cases lY;have PV:=WZ r _ HV;have s8:g r=some ⟨.arr t l, .own⟩:=hg _ _ HV;obtain⟨ri,k1,k2,k3⟩:=hh.cut s8 S3 wZ;have G9:r≠base+p:=by rintro rfl;exact tW PV
    have hl:NA ow base p (.sl t (l.take len) :: es1)= .ow (base+p) :: NA ow base (p+1) es1:=by simp[NA,hb]
    refine go _ _ (AA h r none) cs1 es1 (.sl t (l.take len)) Y0 nX rfl k1 k2 (λq row hq=>?_) (λq hq=>⟨BA _ _ _ _ ?_,λhn=>?_⟩) (λq hn=>?_) (λq hq=>⟨?_,BA _ _ _ _ (by omega)⟩) (λq h1 _=>BA _ _ _ _ (by omega))
     (λq qi hq=>by rw[BA];exact hq;rintro rfl;rw[S3]at hq;cases hq) ⟨iM _ _,rfl⟩ (λρ' g' hk=>?_) ?_ (λq hq=>?_) (λj hj=>?_)
    ·by_cases XV:q=r
     ·subst XV;rw[MA]at hq;cases hq
     ·rw[BA _ _ _ _ XV]at hq;have:q≠base+p:=by rintro rfl;exact tW (WZ _ _ hq)
      rw[BA _ _ _ _ this,BA _ _ _ _ XV];exact hg _ _ hq
    ·rintro rfl;exact tW hq
    ·have G5:q≠base+p:=by rintro rfl;exact tW hq
     have XV:q≠r:=by rintro rfl;rw[HV]at hn;cases hn
     rw[BA _ _ _ _ G5,BA _ _ _ _ XV]
    ·by_cases XV:q=r
     ·subst XV;exact MA _ _ _
     ·rw[BA _ _ _ _ XV];exact hn
    ·rw[BA _ _ _ _ (by omega),BA];rintro rfl;exact PV ⟨by omega,by omega⟩
    ·simp only[hl];refine⟨by simp,?_⟩;exact hk _ _ k3
    ·simp only[XA,hb,cond_true,MA]
    ·simp only[XA,hb,cond_true];rw[BA _ _ _ _ (by omega)]
    ·simp only[hl];exact⟨by simpa using hj,by simp⟩
   ·cases ht
def bU{bad bad2:Nat→Prop}{ρ2:Nat→Option RI}(ow:List Nat)(B B2:Nat):∀(es:List V) (p:Nat) (u:Nat→Value),
  (∀q,p≤q→q<p+es.length→ow.any (Nat.beq q)=true→(∃t l,es[q - p]?=some (.sl t l))→ρ2 (B2+q)=ρ (B+q))→(∀j (hj:j<es.length),YC es[j])→(∀b,bad2 b→bad b)→
  (∀j (hj:j<(NA ow B p es).length),VR w ρ bad (u j) (NA ow B p es)[j])→∀j (hj:j<(NA ow B2 p es).length),VR w ρ2 bad2 (u j) (NA ow B2 p es)[j]
 | [],p,u,hρ,hc,hb,hv,j,hj=>by simp[NA]at hj
 | e :: es,p,u,hρ,hc,hb,hv,j,hj=>by
  have split1:∀(B:Nat),∃e',NA ow B p (e :: es)=e' :: NA ow B (p+1) es∧(e'=e∨e'= .ow (B+p))∧((∃t l,e= .sl t l∧ow.any (Nat.beq p)=true)→e'= .ow (B+p))∧
    ((¬∃t l,e= .sl t l∧ow.any (Nat.beq p)=true)→e'=e):=λB=>by
   cases e<;>simp only[NA]<;>try exact⟨_,rfl, .inl rfl,λ⟨_,_,h,_⟩=>(by cases h),λ_=>rfl⟩
   rename_i t l;cases hb:ow.any (Nat.beq p)
   ·exact⟨_,rfl, .inl rfl,λ⟨_,_,_,h⟩=>(by cases h),λ_=>rfl⟩
   ·exact⟨_,rfl, .inr rfl,λ_=>rfl,λh=>absurd ⟨t,l,rfl,rfl⟩ h⟩
  obtain⟨e1,s1,_,s2,s3⟩:=split1 B;obtain⟨e2,t1,_,t2,t3⟩:=split1 B2
  have ih:=bU ow B B2 es (p+1) (λj=>u (j+1)) (λq h1 h2 h3 h4=>hρ q (by omega) (by simp;omega) h3 (by
    obtain⟨t,l,h4⟩:=h4;exact⟨t,l,by rw[show q - p=(q - (p+1))+1 by omega,List.getElem?_cons_succ];exact h4⟩)) (λj hj=>hc (j+1) (by simp;omega)) hb
   (fun j hj=>by
    have:=hv (j+1) (by rw[s1];simp;omega);simpa[s1]using this)
  simp only[t1]at hj⊢;cases j with
  | succ j=>exact ih j (by simpa using hj)
  | zero=>
   have dX:=hv 0 (by rw[s1];simp);simp only[s1,List.getElem_cons_zero]at dX⊢
   by_cases hs:∃t l,e= .sl t l∧ow.any (Nat.beq p)=true
   ·rw[s2 hs]at dX;rw[t2 hs];have hq:=hρ p (Nat.le_refl _) (by simp) (by obtain⟨_,_,_,h⟩:=hs;exact h) (by obtain⟨t,l,h,_⟩:=hs;exact⟨t,l,by simp[h]⟩);generalize u 0=u0 at dX;cases dX with
    | ow _ ri h1 h2 h3 h4=>exact .ow _ ri (by rw[hq];exact h1) h2 h3 h4
    | owN _ ri ao h1 h2 h3=>exact .owN _ ri ao (by rw[hq];exact h1) h2 h3
   ·rw[s3 hs]at dX;rw[t3 hs];exact(dX.noRef (hc 0 (by simp)) ρ2).mono (λ_ _ h=>h) (λ_ _ _=>rfl) λb h=> .inl (hb b h)
def iB.reread(hh:iB w0 outer own ρ h w){r:Nat}{cs es:List V}{m:bH}(hr:h r=some ⟨.box cs,m⟩)(KV:es.length=cs.length)
  (hv:∀ri,ρ r=some ri→∀j (hj:j<es.length),VR w ρ (rA outer ρ h) ((w.cell? (at_ ri.b j)).getD undef) es[j]):
  iB w0 outer own ρ (AA h r (some ⟨.box es,m⟩)) w∧∀u d,VR w ρ (rA outer ρ h) u d→VR w ρ (rA outer ρ (AA h r (some ⟨.box es,m⟩))) u d:=by
 have aW:∀b,rA outer ρ (AA h r (some ⟨.box es,m⟩)) b→rA outer ρ h b:=λb hb=>hb.mono λq row' h1 h2=>by
  by_cases hq:q=r
  ·subst hq;rw[MA]at h1;cases h1;exact⟨_,hr,h2⟩
  ·rw[BA _ _ _ _ hq]at h1;exact⟨row',h1,h2⟩
 have hk:∀u d,VR w ρ (rA outer ρ h) u d→VR w ρ (rA outer ρ (AA h r (some ⟨.box es,m⟩))) u d:=λu d hu=>hu.mono (λ_ _ h=>h) (λ_ _ _=>rfl) λb hb=> .inl (aW b hb)
 have old:∀q row,AA h r (some ⟨.box es,m⟩) q=some row→∃row',h q=some row'∧(q=r∧row=⟨.box es,m⟩∨row=row'):=λq row hq=>by
  by_cases XV:q=r
  ·subst XV;rw[MA]at hq;cases hq;exact⟨_,hr, .inl ⟨rfl,rfl⟩⟩
  ·rw[BA _ _ _ _ XV]at hq;exact⟨row,hq, .inr rfl⟩
 refine⟨⟨hh.wx,hh.old,hh.outLt,λq row hq=>?_,λq q' row row' qi qi' h1 h2 h3 h4=>?_⟩,hk⟩
 ·obtain⟨row',h1,h2⟩:=old q row hq;obtain⟨ri,h3,h4,h5⟩:=hh.rows q row' h1
  have i9:ri.nl=false→(¬outer ri.b∧(row.m.isRo=false→w0.heap.size≤ri.b∨own ri.b))∧ri.b<w.heap.size:=by
   rcases h2 with⟨rfl,rfl⟩ | rfl
   ·rw[hr]at h1;cases h1;exact h5
   ·exact h5
  refine⟨ri,h3,?_,i9⟩
  rcases h2 with⟨rfl,rfl⟩ | rfl
  ·rw[hr]at h1;cases h1;refine⟨h4.1,λj hj=>?_⟩;obtain⟨f1,u,f2,_⟩:=h4.2 j (by omega);refine⟨f1,u,f2,?_⟩;have:=hv ri h3 j hj;rw[f2]at this;exact hk _ _ this
  ·exact h4.keep (λ_=>rfl) hk
 ·obtain⟨_,g1,_⟩:=old q row h1;obtain⟨_,g2,_⟩:=old q' row' h2;exact hh.inj q q' _ _ qi qi' g1 g2 h3 h4
end
end Go.D
namespace Go.D
variable [jA]
def EA:List jB→Nat→List V→Nat→Option sA
 | .plain :: ks,k,_ :: as=>EA ks (k+1) as
 | .ptr ow :: ks,k, .agg cs :: as=>AA (XA ow (128 *k) (EA ks (k+1) as) 0 cs) (128 *k+127) (some ⟨.box (NA ow (128 *k) 0 cs), .own⟩)
 | .mv ow :: ks,k, .agg cs :: as=>XA ow (128 *k) (EA ks (k+1) as) 0 cs
 | _,_,_=>λ_=>none
def FB:List jB→Nat→List V→List V
 | .plain :: ks,k,v :: as=>v :: FB ks (k+1) as
 | .ptr _ :: ks,k,_ :: as=> .bp (128 *k+127) 0 :: FB ks (k+1) as
 | .mv ow :: ks,k, .agg cs :: as=> .agg (NA ow (128 *k) 0 cs) :: FB ks (k+1) as
 | _,_,_=>[]
def kB:List jB→Nat→List Nat→Nat→Option Nat
 | .plain :: ks,k,bs,q=>kB ks (k+1) bs q
 | .ptr _ :: ks,k,b :: bs,q=>if q=128 *k+127 then some b else kB ks (k+1) bs q
 | .mv _ :: ks,k,bs,q=>kB ks (k+1) bs q
 | _,_,_,_=>none
omit [jA]in
def sF:∀(ks:List jB) (k:Nat) (bs:List Nat) (q b:Nat),kB ks k bs q=some b→128 *k+127≤q∧q % 128=127∧b∈bs
 | [],k,bs,q,b,h=>by simp[kB]at h
 | .plain :: ks,k,bs,q,b,h=>by
  simp only[kB]at h;obtain⟨h1,h2,h3⟩:=sF ks (k+1) bs q b h;exact⟨by omega,h2,h3⟩
 | .mv ow :: ks,k,bs,q,b,h=>by
  simp only[kB]at h;obtain⟨h1,h2,h3⟩:=sF ks (k+1) bs q b h;exact⟨by omega,h2,h3⟩
 | .ptr ow :: ks,k,[],q,b,h=>by simp[kB]at h
 | .ptr ow :: ks,k,c :: bs,q,b,h=>by
  simp only[kB]at h;split at h
  ·cases h;exact⟨by omega,by omega,by simp⟩
  ·obtain⟨h1,h2,h3⟩:=sF ks (k+1) bs q b h;exact⟨by omega,h2,by simp[h3]⟩
omit [jA]in
def pU:∀(ks:List jB) (k:Nat) (bs:List Nat) (q q' b:Nat),bs.Nodup→kB ks k bs q=some b→kB ks k bs q'=some b→q=q'
 | [],k,bs,q,q',b,hn,h,h'=>by simp[kB]at h
 | .plain :: ks,k,bs,q,q',b,hn,h,h'=>pU ks (k+1) bs q q' b hn h h'
 | .mv ow :: ks,k,bs,q,q',b,hn,h,h'=>pU ks (k+1) bs q q' b hn h h'
 | .ptr ow :: ks,k,[],q,q',b,hn,h,h'=>by simp[kB]at h
 | .ptr ow :: ks,k,c :: bs,q,q',b,hn,h,h'=>by
  simp only[kB]at h h';simp only[List.nodup_cons]at hn;split at h<;>split at h'
  ·omega
  ·cases h;exact absurd (sF _ _ _ _ _ h').2.2 hn.1
  ·cases h';exact absurd (sF _ _ _ _ _ h).2.2 hn.1
  ·exact pU ks (k+1) bs q q' b hn.2 h h'
omit [jA]in
def zbN:∀(ks:List jB) (k:Nat) (bs:List Nat) (q b:Nat),kB ks k bs q=some b→q<128 *(k+ks.length)
 | [],k,bs,q,b,h=>by simp[kB]at h
 | .plain :: ks,k,bs,q,b,h=>by
  simp only[kB]at h;have:=zbN ks (k+1) bs q b h;simp;omega
 | .mv ow :: ks,k,bs,q,b,h=>by
  simp only[kB]at h;have:=zbN ks (k+1) bs q b h;simp;omega
 | .ptr ow :: ks,k,[],q,b,h=>by simp[kB]at h
 | .ptr ow :: ks,k,c :: bs,q,b,h=>by
  simp only[kB]at h;split at h
  ·simp;omega
  ·have:=zbN ks (k+1) bs q b h;simp;omega
omit [jA]in
def XT(ow:List Nat)(B B2:Nat):∀(es:List V) (p q:Nat),XA ow B (λ_=>none) p es (B+q)=XA ow B2 (λ_=>none) p es (B2+q)
 | [],p,q=>rfl
 | e :: es,p,q=>by
  have ih:=XT ow B B2 es (p+1) q;cases e<;>simp only[XA]<;>try exact ih
  cases hb:ow.any (Nat.beq p)
  ·simpa using ih
  ·simp only[cond_true]
   by_cases hq:q=p
   ·subst hq;rw[MA,MA]
   ·rw[BA _ _ _ _ (by omega),BA _ _ _ _ (by omega)];exact ih
omit [jA]in
def yE(ow:List Nat)(B:Nat):∀(es:List V) (p r:Nat) (row:sA),XA ow B (λ_=>none) p es r=some row→∃t l,row=⟨.arr t l, .own⟩∧B+p≤r∧r<B+p+es.length
 | [],p,r,row,h=>by simp[XA]at h
 | e :: es,p,r,row,h=>by
  have ih:=yE ow B es (p+1) r row
  have nx:XA ow B (λ_=>none) (p+1) es r=some row→∃t l,row=⟨.arr t l, .own⟩∧B+p≤r∧r<B+p+(e :: es).length:=λh=>by
   obtain⟨t,l,h1,h2,h3⟩:=ih h;exact⟨t,l,h1,by omega,by simp;omega⟩
  cases e<;>simp only[XA]at h<;>try exact nx h
  cases hb:ow.any (Nat.beq p)
  ·simp only[hb,cond_false]at h;exact nx h
  ·simp only[hb,cond_true]at h
   by_cases hr:r=B+p
   ·subst hr;rw[MA]at h;cases h;exact⟨_,_,rfl,Nat.le_refl _,by simp⟩
   ·rw[BA _ _ _ _ hr]at h;exact nx h
omit [jA]in
def zev(ow:List Nat)(B:Nat):∀(es:List V) (p q:Nat) (t:TN) (l:List (El t)),p≤q→es[q - p]?=some (.sl t l)→ow.any (Nat.beq q)=true→XA ow B (λ_=>none) p es (B+q)=some ⟨.arr t l, .own⟩
 | [],p,q,t,l,hp,he,ho=>by simp at he
 | e :: es,p,q,t,l,hp,he,ho=>by
  by_cases hq:q=p
  ·subst hq;simp at he;subst he;simp only[XA,ho,cond_true,MA]
  ·have ih:=zev ow B es (p+1) q t l (by omega) (by rw[show q - p=(q - (p+1))+1 by omega,List.getElem?_cons_succ]at he;exact he) ho;cases e<;>simp only[XA]<;>try exact ih
   cases hb:ow.any (Nat.beq p)
   ·simpa using ih
   ·simp only[cond_true];rw[BA _ _ _ _ (by omega)];exact ih
section
variable {C:Cx} {w0:World} {outer own:Nat→Prop} {ρ:Nat→Option RI} {st st':St} {a:Act} {w:World} {h:Nat→Option sA}
inductive nG(w:World)(ρ:Nat→Option RI)(bad:Nat→Prop)(g:Nat→Option sA)(N0:Nat):List jB→Nat→List V→List Nat→(Nat→Value)→Prop
 | nil (k:Nat) (u:Nat→Value):nG w ρ bad g N0 [] k [] [] u
 | plain {ks:List jB} {k:Nat} {v:V} {as:List V} {bs:List Nat} {u:Nat→Value} (hv:VR w ρ bad (u 0) v) (hn:YC v) (hr:nG w ρ bad g N0 ks (k+1) as bs λj=>u (j+1)):
   nG w ρ bad g N0 (.plain :: ks) k (v :: as) bs u
 | ptr {ow:List Nat} {ks:List jB} {k b:Nat} {cs as:List V} {bs:List Nat} {u:Nat→Value} (ri:RI) (hρ:ρ b=some ri) (YV:ri.nl=false) (hu:u 0= .pointer (some (at_ ri.b 0)))
   (hg:g b=some ⟨.box (NA ow (N0+128 *k) 0 cs), .own⟩) (hl:cs.length≤127) (hq:∀q,q<128→g (N0+128 *k+q)=XA ow (N0+128 *k) (λ_=>none) 0 cs (N0+128 *k+q))
   (hc:∀j (hj:j<cs.length),YC cs[j]∧(cs[j]).leaf=true) (hb:b<N0) (hr:nG w ρ bad g N0 ks (k+1) as bs λj=>u (j+1)):
   nG w ρ bad g N0 (.ptr ow :: ks) k (.agg cs :: as) (b :: bs) u
 | mv {ow:List Nat} {ks:List jB} {k:Nat} {cs as:List V} {bs:List Nat} {u:Nat→Value} (hv:VR w ρ bad (u 0) (.agg (NA ow (N0+128 *k) 0 cs)))
   (hl:cs.length≤127) (hq:∀q,q<128→g (N0+128 *k+q)=XA ow (N0+128 *k) (λ_=>none) 0 cs (N0+128 *k+q))
   (hc:∀j (hj:j<cs.length),YC cs[j]∧(cs[j]).leaf=true) (hr:nG w ρ bad g N0 ks (k+1) as bs λj=>u (j+1)):
   nG w ρ bad g N0 (.mv ow :: ks) k (.agg cs :: as) bs u
omit [jA]in
def OB.rfl':∀(cs:List V),OB cs cs
 | []=> .nil
 | c :: cs=> .cons (.refl c) (OB.rfl' cs)
omit [jA]in
def zd2{ow:List Nat}{ks:List jB}{v:V}{vs:List V}{x:List V×(Nat→Option sA)×List Nat}(ht:oC (.ptr ow :: ks) (v :: vs) h=some x):∃r,v= .bp r 0:=by
 unfold oC at ht;split at ht
 ·simp_all
 ·simp_all
 ·rename_i e1 e2;simp only[List.cons.injEq]at e2;exact⟨_,e2.1⟩
 ·simp_all
 ·cases ht
omit [jA]in
def zek{ow:List Nat}{ks:List jB}{v:V}{vs:List V}{x:List V×(Nat→Option sA)×List Nat}(ht:oC (.mv ow :: ks) (v :: vs) h=some x):∃cs,v= .agg cs:=by
 unfold oC at ht;split at ht
 ·simp_all
 ·simp_all
 ·simp_all
 ·rename_i e1 e2;simp only[List.cons.injEq]at e2;exact⟨_,e2.1⟩
 ·cases ht
def zbH(N0:Nat):∀(ks:List jB) (as:List V) (h h':Nat→Option sA) (as':List V) (bs:List Nat) (k:Nat) (ρ:Nat→Option RI) (g:Nat→Option sA) (u:Nat→Value),
  oC ks as h=some (as',h',bs)→iB w0 outer own ρ g w→(∀j (hj:j<as.length),VR w ρ (rA outer ρ g) (u j) as[j])→ZG h g→(∀r,N0+128 *k≤r→ρ r=none)→(∀r,N0≤r→h r=none)→
  ∃ρ' g',iB w0 outer own ρ' g' w∧ZG h' g'∧(∀r,h r=none→h' r=none)∧(∀r,h r=none→r<N0+128 *k→g' r=g r)∧(∀r ri,ρ r=some ri→ρ' r=some ri)∧
   (∀v d,VR w ρ (rA outer ρ g) v d→VR w ρ' (rA outer ρ' g') v d)∧nG w ρ' (rA outer ρ' g') g' N0 ks k as' bs u∧
   (∀b∈bs,h' b=none∧h b≠none)∧bs.Nodup∧as.length=ks.length∧(∀r,r<N0→ρ' r=ρ r)
 | [],[],h,h',as',bs,k,ρ,g,u,ht,hh,hv,hg,hf,hN=>by
  simp only[oC,Option.some.injEq,Prod.mk.injEq]at ht;obtain⟨rfl,rfl,rfl⟩:=ht;exact⟨ρ,g,hh,hg,λ_ h=>h,λ_ _ _=>rfl,λ_ _ h=>h,λ_ _ h=>h, .nil _ _,λb hb=>by simp at hb,by simp,rfl,λ_ _=>rfl⟩
 | [],_ :: _,h,h',as',bs,k,ρ,g,u,ht,hh,hv,hg,hf,hN=>by simp[oC]at ht
 | .plain :: ks,[],h,h',as',bs,k,ρ,g,u,ht,hh,hv,hg,hf,hN=>by simp[oC]at ht
 | .ptr _ :: ks,[],h,h',as',bs,k,ρ,g,u,ht,hh,hv,hg,hf,hN=>by simp[oC]at ht
 | .mv _ :: ks,[],h,h',as',bs,k,ρ,g,u,ht,hh,hv,hg,hf,hN=>by simp[oC]at ht
 | .plain :: ks,v :: vs,h,h',as',bs,k,ρ,g,u,ht,hh,hv,hg,hf,hN=>by
  simp only[oC]at ht;split at ht
  ·cases ht
  rename_i v' ids aZ;split at ht
  ·cases ht
  rename_i as2 h2 bs2 I5;simp only[Option.some.injEq,Prod.mk.injEq]at ht;obtain⟨rfl,rfl,rfl⟩:=ht;obtain⟨k1,k2⟩:=zjF hg aZ;have k2:∀r∈ids,∃row,h r=some row:=k2;obtain⟨m1,m2⟩:=hh.mark ids;obtain⟨f1,f2⟩:=zfX hh (hv 0 (by simp)) k1;have v1:∀r,h r=none→r∉ids:=λr hn hm=>by obtain⟨row,h5⟩:=k2 r hm;rw[hn]at h5;cases h5
  have t8:∀r,h r=none→rC h ids r=none:=λr hn=>by rw[pF,if_neg (v1 r hn)];exact hn
  obtain⟨ρ',g',c1,c2,c3,c4,c5,c6,c7,c8,c9,qG,LG⟩:=zbH N0 ks vs (rC h ids) h2 as2 bs2 (k+1) ρ (rC g ids) (λj=>u (j+1)) I5 m1
   (λj hj=>m2 _ _ (hv (j+1) (by simp;omega))) (zeN hg ids) (λr hr=>hf r (by omega)) (λr hr=>t8 r (hN r hr))
  refine⟨ρ',g',c1,c2,λr hr=>c3 r (t8 r hr),λr hr hk=>?_,c5,λv d hd=>c6 _ _ (m2 _ _ hd), .plain (c6 _ _ f1) f2 c7,λb hb=>?_,c9,by simp[qG],LG⟩
  ·rw[c4 r (t8 r hr) (by omega),pF,if_neg (v1 r hr)]
  ·obtain⟨d1,d2⟩:=c8 b hb;exact⟨d1,λhn=>d2 (t8 b hn)⟩
 | .ptr ow :: ks,v :: vs,h,h',as',bs,k,ρ,g,u,ht,hh,hv,hg,hf,hN=>by
  obtain⟨r,rfl⟩:=zd2 ht;simp only[oC]at ht;split at ht
  case h_2=>cases ht
  rename_i cs HV;cases jW:Nat.ble cs.length 127
  case false=>simp[jW]at ht
  simp only[jW,cond_true]at ht;have jW:=Nat.le_of_ble_eq_true jW;split at ht
  ·cases ht
  rename_i cs' h1 T3;split at ht
  ·cases ht
  rename_i as2 h2 bs2 I5;simp only[Option.some.injEq,Prod.mk.injEq]at ht;obtain⟨rfl,rfl,rfl⟩:=ht
  have hrN:r<N0:=by
   rcases Nat.lt_or_ge r N0 with h3 | h3
   ·exact h3
   ·rw[hN r h3]at HV;cases HV
  have hgr:=hg _ _ HV;have dX:=hv 0 (by simp);simp only[List.getElem_cons_zero]at dX;obtain⟨ri,hρ,PV,_⟩:=hh.rows r _ hgr
  have JZ:u 0= .pointer (some (at_ ri.b 0))∧ri.nl=false:=by
   generalize u 0=x at dX;cases dX with
   | bp _ _ ri' h3 h4=>rw[hρ]at h3;cases h3;exact⟨rfl,h4⟩
  have VV:∀q,h q=none→AA h r none q=none:=λq hq=>by
   by_cases XV:q=r
   ·subst XV;exact MA _ _ _
   ·rw[BA _ _ _ _ XV];exact hq
  obtain⟨ρ1,g1,T,KV⟩:=nU ow (N0+128 *k) 128 cs 0 (AA h r none) h1 cs' cs' ρ g (λj=>(w.cell? (at_ ri.b j)).getD undef) T3 (OB.rfl' _) (by omega) hh
   (λj hj=>by obtain⟨_,x,f1,f2⟩:=PV.2 j hj;rw[f1];exact f2)
   (fun q row hq=>by
    by_cases XV:q=r
    ·subst XV;rw[MA]at hq;cases hq
    ·rw[BA _ _ _ _ XV]at hq;exact hg _ _ hq)
   (λq hq=>VV _ (hN _ (by omega))) (λq _ _=>hf _ (by omega))
  have J5:Out (N0+128 *k) 128 r:=λh3=>by omega
  have H9:g1 r=some ⟨.box cs, .own⟩:=by rw[(T.out r J5).2 (MA _ _ _)];exact hgr
  have hρ1:ρ1 r=some ri:=T.ext _ _ hρ;obtain⟨n1,n2⟩:=T.heap.reread H9 (es:=NA ow (N0+128 *k) 0 cs') (by rw[qF];exact KV) (λri' h3 j hj=>by rw[hρ1]at h3;cases h3;exact T.vals j hj);have M1:h1 r=none:=T.less r (MA _ _ _)
  obtain⟨ρ',g',c1,c2,c3,c4,c5,c6,c7,c8,c9,qG,LG⟩:=zbH N0 ks vs h1 h2 as2 bs2 (k+1) ρ1 _ (λj=>u (j+1)) I5 n1
   (λj hj=>n2 _ _ (T.keep _ _ (hv (j+1) (by simp;omega))))
   (fun q row hq=>by
    have XV:q≠r:=by rintro rfl;rw[M1]at hq;cases hq
    rw[BA _ _ _ _ XV];exact T.lies _ _ hq)
   (λq hq=>by rw[(T.out q (λh3=>by omega)).1];exact hf q (by omega)) (λq hq=>T.less q (VV q (hN q hq)))
  have iX:∀q,h q=none→q<N0+128 *k→Out (N0+128 *k) 128 q:=λq _ h3 h4=>by omega
  refine⟨ρ',g',c1,c2,λq hq=>c3 q (T.less q (VV q hq)),λq hq hk=>?_,λq qi hq=>c5 _ _ (T.ext _ _ hq),λv d hd=>c6 _ _ (n2 _ _ (T.keep _ _ hd)),
   .ptr ri (c5 _ _ hρ1) JZ.2 JZ.1 ?_ (by omega) (λq hq=>?_) T.closed hrN c7,λb hb=>?_,?_,by simp[qG],λq hq=>?_⟩
  ·have XV:q≠r:=by rintro rfl;rw[HV]at hq;cases hq
   rw[c4 q (T.less q (VV q hq)) (by omega),BA _ _ _ _ XV,(T.out q (iX q hq hk)).2 (VV q hq)]
  ·rw[c4 r M1 (by omega),MA]
  ·rw[c4 _ (T.less _ (VV _ (hN _ (by omega)))) (by omega),BA _ _ _ _ (by omega),T.new q (by omega) hq]
  ·rcases List.mem_cons.1 hb with rfl | hb
   ·exact⟨c3 _ M1,by rw[HV];simp⟩
   ·obtain⟨d1,d2⟩:=c8 b hb;exact⟨d1,λhn=>d2 (T.less b (VV b hn))⟩
  ·refine List.nodup_cons.2 ⟨λhm=>(c8 r hm).2 M1,c9⟩
  ·rw[LG q hq,(T.out q (λh3=>by omega)).1]
 | .mv ow :: ks,v :: vs,h,h',as',bs,k,ρ,g,u,ht,hh,hv,hg,hf,hN=>by
  obtain⟨cs,rfl⟩:=zek ht;simp only[oC]at ht;cases jW:Nat.ble cs.length 127
  case false=>simp[jW]at ht
  simp only[jW,cond_true]at ht;have jW:=Nat.le_of_ble_eq_true jW;split at ht
  ·cases ht
  rename_i cs' h1 T3;split at ht
  ·cases ht
  rename_i as2 h2 bs2 I5;simp only[Option.some.injEq,Prod.mk.injEq]at ht;obtain⟨rfl,rfl,rfl⟩:=ht;have dX:=hv 0 (by simp);simp only[List.getElem_cons_zero]at dX
  obtain⟨vsA,JZ,NV,hcv⟩:∃vsA:Array Value,u 0= .agg vsA∧vsA.size=cs.length∧∀j (hj:j<cs.length),VR w ρ (rA outer ρ g) (vsA.getD j undef) cs[j]:=by
   generalize u 0=x at dX;cases dX with
   | agg _ vsA h1 h2=>exact⟨vsA,rfl,h1,h2⟩
  obtain⟨ρ1,g1,T,KV⟩:=nU ow (N0+128 *k) 128 cs 0 h h1 cs' cs' ρ g (λj=>vsA.getD j undef) T3 (OB.rfl' _) (by omega) hh hcv hg
   (λq hq=>hN _ (by omega)) (λq _ _=>hf _ (by omega))
  obtain⟨ρ',g',c1,c2,c3,c4,c5,c6,c7,c8,c9,qG,LG⟩:=zbH N0 ks vs h1 h2 as2 bs2 (k+1) ρ1 g1 (λj=>u (j+1)) I5 T.heap
   (λj hj=>T.keep _ _ (hv (j+1) (by simp;omega))) T.lies
   (λq hq=>by rw[(T.out q (λh3=>by omega)).1];exact hf q (by omega)) (λq hq=>T.less q (hN q hq))
  have iX:∀q,h q=none→q<N0+128 *k→Out (N0+128 *k) 128 q:=λq _ h3 h4=>by omega
  refine⟨ρ',g',c1,c2,λq hq=>c3 q (T.less q hq),λq hq hk=>?_,λq qi hq=>c5 _ _ (T.ext _ _ hq),λv d hd=>c6 _ _ (T.keep _ _ hd),
   .mv ?_ (by omega) (λq hq=>?_) T.closed c7,λb hb=>?_,c9,by simp[qG],λq hq=>?_⟩
  ·rw[c4 q (T.less q hq) (by omega),(T.out q (iX q hq hk)).2 hq]
  ·rw[JZ];refine .agg _ _ (by rw[qF,NV,KV]) λj hj=>?_;exact c6 _ _ (T.vals j hj)
  ·rw[c4 _ (T.less _ (hN _ (by omega))) (by omega),T.new q (by omega) hq]
  ·obtain⟨d1,d2⟩:=c8 b hb;exact⟨d1,λhn=>d2 (T.less b hn)⟩
  ·rw[LG q hq,(T.out q (λh3=>by omega)).1]
end
end Go.D
namespace Go.D
variable [jA]
def zvw(P:Program)(f:Nat)(args:Array Value)(w:World)(post:Value→World→Prop):Prop:=
 ((callFunc f args).run P w= .ok (.enter f args) w∧Calls P f args w λe w'=>∃v,e= .returned v∧post v w')∨
 ∃v w',(callFunc f args).run P w= .ok (.value v) w'∧post v w'
def WE(ks:List jB)(as:List V)(bs:List Nat)(ow:List Nat)(base:Nat)(shape:List (Bool×Nat))(rs:List V):Nat→Option sA:=
 LB ks as bs ((NA ow base 0 rs).drop (UK shape)) (XA ow base (λ_=>none) 0 rs)
def aE(ci:WA)(as:List V)(bs:List Nat)(base:Nat)(rs:List V):Nat→Option sA:=
 bif ci.pb then AA (λ_=>none) base (some ⟨.box rs, .own⟩)else WE ci.ks as bs ci.own base ci.shape rs
def pB(P:Program)(f:Nat)(ci:WA)(g:Gl:=tL):Prop:=
 ∀(w:World) (args:Array Value) (as:List V) (outer own:Nat→Prop) (ρ:Nat→Option RI) (a:ci.A) (r:ci.R) (base:Nat) (bs:List Nat),
  args.size=ci.ks.length→(FB ci.ks 0 as).length=ci.ks.length→iB w outer own ρ (EA ci.ks 0 as) w→
  (∀j (hj:j<(FB ci.ks 0 as).length),VR w ρ (rA outer ρ (EA ci.ks 0 as)) (args.getD j undef) (FB ci.ks 0 as)[j])→(∀q,EA ci.ks 0 as q=none→ρ q=none)→
  bs.Nodup→(∀b∈bs,Out base 128 b)→ci.dA as=some a→ci.F a=some r→(ci.eR r).length≤128→zl3 g own w→
  zvw P f args w λv w'=>∃ρ',iB w outer own ρ' (aE ci as bs base (ci.eR r)) w'∧
   VR w' ρ' (rA outer ρ' (aE ci as bs base (ci.eR r))) v (gJ ci base (ci.eR r))∧
   (∀q b,kB ci.ks 0 bs q=some b→ρ' b=ρ q)∧(∀r,ρ' r≠none→(base≤r∧r<base+128)∨r∈bs)
omit [jA]in
def Calls.mono'{P:Program}{f:Nat}{args:Array Value}{w:World}{R R':Ending→World→Prop}(h:Calls P f args w R)(hr:∀e w',R e w'→R' e w'):Calls P f args w R':=
 λcs=>let ⟨e,w',fr,h1,h2⟩:=h cs;⟨e,w',fr,hr _ _ h1,h2⟩
omit [jA]in
def UL:∀(ks:List jB) (as:List V) (bs:List Nat) (vs:List V) (h:Nat→Option sA) (r:Nat),
  LB ks as bs vs h r=match LB ks as bs vs (λ_=>none) r with | some x=>some x | none=>h r
 | [],as,bs,vs,h,r=>by cases as<;>rfl
 | .plain :: ks,[],bs,vs,h,r=>rfl
 | .plain :: ks,a :: as,bs,vs,h,r=>by simp only[LB];exact UL ks as bs vs h r
 | .mv ow :: ks,[],bs,vs,h,r=>rfl
 | .mv ow :: ks,a :: as,bs,vs,h,r=>by simp only[LB];exact UL ks as bs vs h r
 | .ptr ow :: ks,[],bs,vs,h,r=>rfl
 | .ptr ow :: ks,a :: as,[],vs,h,r=>by cases a<;>rfl
 | .ptr ow :: ks,a :: as,b :: bs,vs,h,r=>by
  cases a<;>try rfl
  simp only[LB]
  by_cases hr:r=b
  ·subst hr;simp[MA]
  ·rw[BA _ _ _ _ hr,BA _ _ _ _ hr];exact UL ks as bs _ h r
omit [jA]in
def zay:∀(ks:List jB) (as:List V) (bs:List Nat) (vs:List V) (r:Nat) (row:sA),LB ks as bs vs (λ_=>none) r=some row→r∈bs
 | [],as,bs,vs,r,row,h=>by cases as<;>simp[LB]at h
 | .plain :: ks,[],bs,vs,r,row,h=>by simp[LB]at h
 | .plain :: ks,a :: as,bs,vs,r,row,h=>by simp only[LB]at h;exact zay ks as bs vs r row h
 | .mv ow :: ks,[],bs,vs,r,row,h=>by simp[LB]at h
 | .mv ow :: ks,a :: as,bs,vs,r,row,h=>by simp only[LB]at h;exact zay ks as bs vs r row h
 | .ptr ow :: ks,[],bs,vs,r,row,h=>by simp[LB]at h
 | .ptr ow :: ks,a :: as,[],vs,r,row,h=>by cases a<;>simp[LB]at h
 | .ptr ow :: ks,a :: as,b :: bs,vs,r,row,h=>by
  cases a<;>try (simp[LB]at h;done)
  simp only[LB]at h
  by_cases hr:r=b
  ·subst hr;simp
  ·rw[BA _ _ _ _ hr]at h;exact List.mem_cons_of_mem _ (zay ks as bs _ r row h)
omit [jA]in
def zuk{ks:List jB}{as:List V}{bs ow:List Nat}{base:Nat}{shape:List (Bool×Nat)}{rs:List V}{r:Nat}{row:sA}(hl:rs.length≤128)
  (h:WE ks as bs ow base shape rs r=some row):r∈bs∨(base≤r∧r<base+128):=by
 unfold WE at h;rw[UL]at h;split at h
 ·rename_i x hx;exact .inl (zay _ _ _ _ _ _ hx)
 ·obtain⟨_,_,_,h1,h2⟩:=yE _ _ _ _ _ _ h
  grind
omit [jA]in
def zaq:∀(ks:List jB) (as:List V) (bs:List Nat) (vs:List V) (r:Nat) (row:sA),LB ks as bs vs (λ_=>none) r=some row→row.m= .own
 | [],as,bs,vs,r,row,h=>by cases as<;>simp[LB]at h
 | .plain :: ks,[],bs,vs,r,row,h=>by simp[LB]at h
 | .plain :: ks,a :: as,bs,vs,r,row,h=>by simp only[LB]at h;exact zaq ks as bs vs r row h
 | .mv ow :: ks,[],bs,vs,r,row,h=>by simp[LB]at h
 | .mv ow :: ks,a :: as,bs,vs,r,row,h=>by simp only[LB]at h;exact zaq ks as bs vs r row h
 | .ptr ow :: ks,[],bs,vs,r,row,h=>by simp[LB]at h
 | .ptr ow :: ks,a :: as,[],vs,r,row,h=>by cases a<;>simp[LB]at h
 | .ptr ow :: ks,a :: as,b :: bs,vs,r,row,h=>by
  cases a<;>try (simp[LB]at h;done)
  simp only[LB]at h
  by_cases hr:r=b
  ·subst hr;rw[MA]at h;cases h;rfl
  ·rw[BA _ _ _ _ hr]at h;exact zaq ks as bs _ r row h
omit [jA]in
def ztl{ks:List jB}{as:List V}{bs ow:List Nat}{base:Nat}{shape:List (Bool×Nat)}{rs:List V}{r:Nat}{row:sA}(hl:rs.length≤128)
  (h:WE ks as bs ow base shape rs r=some row):row.m= .own:=by
 unfold WE at h;rw[UL]at h;split at h
 ·rename_i x hx;cases h;exact zaq _ _ _ _ _ _ hx
 ·obtain⟨_,_,h0,_,_⟩:=yE _ _ _ _ _ _ h;rw[h0]
omit [jA]in
def zvd(ks:List jB)(as:List V)(bs ow:List Nat)(base:Nat)(shape:List (Bool×Nat))(rs:List V)(h:Nat→Option sA)(r:Nat):
  LB ks as bs ((NA ow base 0 rs).drop (UK shape)) (XA ow base h 0 rs) r=match WE ks as bs ow base shape rs r with | some x=>some x | none=>h r:=by
 unfold WE;rw[UL ks as bs _ (XA ow base h 0 rs),UL ks as bs _ (XA ow base (λ_=>none) 0 rs),mC ow base h];cases LB ks as bs ((NA ow base 0 rs).drop (UK shape)) (λ_=>none) r<;>rfl
omit [jA]in
def zkD{ci:WA}{as:List V}{bs:List Nat}{base:Nat}{rs:List V}{r:Nat}{row:sA}(hl:rs.length≤128)(h:aE ci as bs base rs r=some row):r∈bs∨(base≤r∧r<base+128):=by
 unfold aE at h;cases hp:ci.pb
 ·rw[hp]at h;exact zuk hl h
 ·rw[hp]at h;simp only[cond_true]at h
  by_cases hr:r=base
  ·grind
  ·rw[BA _ _ _ _ hr]at h;cases h
omit [jA]in
def zfs{ci:WA}{as:List V}{bs:List Nat}{base:Nat}{rs:List V}{r:Nat}{row:sA}(hl:rs.length≤128)(h:aE ci as bs base rs r=some row):row.m= .own:=by
 unfold aE at h;cases hp:ci.pb
 ·rw[hp]at h;exact ztl hl h
 ·rw[hp]at h;simp only[cond_true]at h
  by_cases hr:r=base
  ·subst hr;rw[MA]at h;cases h;rfl
  ·rw[BA _ _ _ _ hr]at h;cases h
omit [jA]in
def sO(ci:WA)(as:List V)(bs:List Nat)(base:Nat)(rs:List V)(h:Nat→Option sA)(r:Nat):
  dH ci as bs base rs h r=match aE ci as bs base rs r with | some x=>some x | none=>h r:=by
 unfold aE dH;cases hp:ci.pb
 ·exact zvd _ _ _ _ _ _ _ _ _
 ·simp only[cond_true]
  by_cases hr:r=base
  ·subst hr;rw[MA,MA]
  ·rw[BA _ _ _ _ hr,BA _ _ _ _ hr]
def EF(h' h:Nat→Option sA):Prop:=∀r row',h' r=some row'→∃row,h r=some row∧row.c=row'.c∧(row'.m.isRo=false→row.m.isRo=false)
omit [jA]in
def EF.refl(h:Nat→Option sA):EF h h:=λ_ row' h=>⟨row',h,rfl,id⟩
omit [jA]in
def EF.trans{a b c:Nat→Option sA}(h:EF a b)(k:EF b c):EF a c:=λr row' hr=>by
 obtain⟨row,h1,h2,h3⟩:=h r row' hr;obtain⟨row2,k1,k2,k3⟩:=k r row h1
 grind
omit [jA]in
def oU(h:Nat→Option sA)(r:Nat):EF (AA h r none) h:=λq row' hq=>by
 by_cases XV:q=r
 ·subst XV;rw[MA]at hq;cases hq
 ·rw[BA _ _ _ _ XV]at hq;exact⟨row',hq,rfl,id⟩
omit [jA]in
def wL(ow:List Nat):∀(cs:List V) (p:Nat) (h:Nat→Option sA) (x:List V×(Nat→Option sA)),MD ow p cs h=some x→EF x.2 h
 | [],p,h,x,ht=>by simp[MD]at ht;subst ht;exact EF.refl h
 | c :: cs,p,h,x,ht=>by
  simp only[MD]at ht;cases hb:ow.any (Nat.beq p)
  ·simp only[hb,cond_false]at ht;split at ht
   case h_2=>cases ht
   split at ht
   case h_2=>cases ht
   rename_i hr;cases ht;exact(wL ow cs _ _ _ hr).trans (UT h _)
  ·simp only[hb,cond_true]at ht;split at ht
   ·split at ht
    case h_2=>cases ht
    split at ht
    case h_2=>cases ht
    rename_i hr;cases ht;exact(wL ow cs _ _ _ hr).trans (oU h _)
   ·split at ht
    case h_2=>cases ht
    rename_i hr;cases ht;have:=wL ow cs _ _ _ hr;exact this
   ·split at ht
    case h_2=>cases ht
    split at ht
    case h_2=>cases ht
    rename_i hr;cases ht;exact(wL ow cs _ _ _ hr).trans (oU h _)
   ·cases ht
omit [jA]in
def vT:∀(ks:List jB) (as:List V) (h:Nat→Option sA) (x:List V×(Nat→Option sA)×List Nat),oC ks as h=some x→EF x.2.1 h
 | [],[],h,x,ht=>by simp[oC]at ht;subst ht;exact EF.refl h
 | [],_ :: _,h,x,ht=>by simp[oC]at ht
 | .plain :: ks,[],h,x,ht=>by simp[oC]at ht
 | .ptr _ :: ks,[],h,x,ht=>by simp[oC]at ht
 | .mv _ :: ks,[],h,x,ht=>by simp[oC]at ht
 | .mv ow :: ks,v :: vs,h,x,ht=>by
  obtain⟨cs,rfl⟩:=zek ht;simp only[oC]at ht;cases hb:Nat.ble cs.length 127
  case false=>simp[hb]at ht
  simp only[hb,cond_true]at ht;split at ht
  ·cases ht
  rename_i hl;split at ht
  ·cases ht
  rename_i hr;cases ht;exact(vT ks vs _ _ hr).trans (wL _ _ _ _ _ hl)
 | .plain :: ks,v :: vs,h,x,ht=>by
  simp only[oC]at ht;split at ht
  ·cases ht
  split at ht
  ·cases ht
  rename_i hr;cases ht;exact(vT ks vs _ _ hr).trans (UT h _)
 | .ptr ow :: ks,v :: vs,h,x,ht=>by
  obtain⟨r,rfl⟩:=zd2 ht;simp only[oC]at ht;split at ht
  case h_2=>cases ht
  rename_i cs _;cases hb:Nat.ble cs.length 127
  case false=>simp[hb]at ht
  simp only[hb,cond_true]at ht;split at ht
  ·cases ht
  rename_i hl;split at ht
  ·cases ht
  rename_i hr;cases ht;exact(vT ks vs _ _ hr).trans ((wL _ _ _ _ _ hl).trans (oU h r))
section
variable {C:Cx} {w0:World} {outer own:Nat→Prop} {ρ:Nat→Option RI} {st st':St} {a:Act} {w:World} {h:Nat→Option sA}
def iB.sub(hh:iB w0 outer own ρ h w){w1:World}{outer' own':Nat→Prop}{e:Nat→Option sA}{ρe:Nat→Option RI}(φ:Nat→Nat)(ZY:Wx w1 w)
  (xZ:∀b,b<w1.heap.size→¬own' b→w.heap[b]?=w1.heap[b]?) (iX:∀b,outer' b→b<w1.heap.size∧¬own' b)
  (HV:∀q row,e q=some row→∃row' ri,h (φ q)=some row'∧ρe q=some ri∧ρ (φ q)=some ri∧QD w ρe (rA outer' ρe e) ri row.c∧(ri.nl=false→¬outer' ri.b∧(row.m.isRo=false→w1.heap.size≤ri.b∨own' ri.b)))
  (I9:∀q q' row row',e q=some row→e q'=some row'→φ q=φ q'→q=q'):iB w1 outer' own' ρe e w:=by
 refine⟨ZY,xZ,iX,λq row hq=>?_,λq q' row row' qi qi' h1 h2 h3 h4 h5 h6 h7=>?_⟩
 ·obtain⟨row',ri,h1,h2,h3,h4,h5⟩:=HV q row hq;obtain⟨ri',k1,_,k2⟩:=hh.rows _ _ h1
  grind
 ·obtain⟨r1,ri1,g1,g2,g3,_,_⟩:=HV q row h1;obtain⟨r2,ri2,g4,g5,g6,_,_⟩:=HV q' row' h2;rw[h3]at g2;cases g2;rw[h4]at g5;cases g5;exact I9 q q' row row' h1 h2 (hh.inj _ _ _ _ _ _ g1 g4 g3 g6 h5 h6 h7)
variable {bad:Nat→Prop} {g:Nat→Option sA} {N0:Nat}
def nG.row{ks:List jB}{k:Nat}{as:List V}{bs:List Nat}{u:Nat→Value}(he:nG w ρ bad g N0 ks k as bs u):∀{q:Nat} {row:sA},EA ks k as q=some row→
  128 *k≤q∧q<128 *(k+ks.length)∧
  ((∃ b ow k' cs ri,kB ks k bs q=some b∧q=128 *k'+127∧k≤k'∧k'<k+ks.length∧row=⟨.box (NA ow (128 *k') 0 cs), .own⟩∧g b=some ⟨.box (NA ow (N0+128 *k') 0 cs), .own⟩∧ρ b=some ri∧ri.nl=false∧
    cs.length≤127∧(∀j (hj:j<cs.length),YC cs[j])∧b<N0∧∀p t l,cs[p]?=some (.sl t l)→ow.any (Nat.beq p)=true→EA ks k as (128 *k'+p)=some ⟨.arr t l, .own⟩)∨
  (∃t l,row=⟨.arr t l, .own⟩∧g (N0+q)=some row∧q % 128≠127)):=by
 induction he with
 | nil=>intro q row h;simp[EA]at h
 | plain hv hn hr ih=>
  rename_i ks k v as bs u;intro q row h;simp only[EA]at h;obtain⟨h1,h2,h3⟩:=ih h;refine⟨by omega,by simp;omega,?_⟩
  rcases h3 with⟨b,ow,k',cs,ri,e1,e2,e3,e4,e5,e6,e7,e8,e9,e10,e11,e12⟩ | h3
  ·exact .inl ⟨b,ow,k',cs,ri,e1,e2,by omega,by simp;omega,e5,e6,e7,e8,e9,e10,e11,λp t l h4 h5=>by simp only[EA];exact e12 p t l h4 h5⟩
  ·exact .inr h3
 | ptr ri hρ YV hu hg hl hq hc hb hr ih=>
  rename_i ow ks k b cs as bs u;intro q row h;simp only[EA]at h
  by_cases RY:q=128 *k+127
  ·subst RY;rw[MA]at h;cases h
   exact⟨by omega,by simp;omega, .inl ⟨b,ow,k,cs,ri,by simp[kB],rfl,Nat.le_refl _,by simp,rfl,hg,hρ,YV,hl,λj hj=>(hc j hj).1,hb,λp t l h4 h5=>by
    have hp:p<cs.length:=by
     grind
    simp only[EA];rw[BA _ _ _ _ (by omega),mC,zev ow (128 *k) cs 0 p t l (Nat.zero_le _) h4 h5]⟩⟩
  ·rw[BA _ _ _ _ RY,mC]at h;split at h
   ·rename_i x hx;cases h;obtain⟨t,l,e1,e2,e3⟩:=yE _ _ _ _ _ _ hx;refine⟨by omega,by simp;omega, .inr ⟨t,l,e1,?_,by omega⟩⟩;have h1:=hq (q - 128 *k) (by omega);have h2:=XT ow (128 *k) (N0+128 *k) cs 0 (q - 128 *k)
    grind
   ·obtain⟨h1,h2,h3⟩:=ih h;refine⟨by omega,by simp;omega,?_⟩
    rcases h3 with⟨b',ow',k',cs',ri',e1,e2,e3,e4,e5,e6,e7,e8,e9,e10,e11,e12⟩ | h3
    ·refine .inl ⟨b',ow',k',cs',ri',?_,e2,by omega,by simp;omega,e5,e6,e7,e8,e9,e10,e11,λp t l h4 h5=>?_⟩
     ·simp only[kB];rw[if_neg RY];exact e1
     ·have hp:p<cs'.length:=by
       grind
      simp only[EA];rw[BA _ _ _ _ (by omega),mC,ND _ _ _ _ _ (by omega)];exact e12 p t l h4 h5
    ·exact .inr h3
 | mv hv hl hq hc hr ih=>
  rename_i ow ks k cs as bs u;intro q row h;simp only[EA]at h;rw[mC]at h;split at h
  ·rename_i x hx;cases h;obtain⟨t,l,e1,e2,e3⟩:=yE _ _ _ _ _ _ hx;refine⟨by omega,by simp;omega, .inr ⟨t,l,e1,?_,by omega⟩⟩;have h1:=hq (q - 128 *k) (by omega);have h2:=XT ow (128 *k) (N0+128 *k) cs 0 (q - 128 *k)
   grind
  ·obtain⟨h1,h2,h3⟩:=ih h;refine⟨by omega,by simp;omega,?_⟩
   rcases h3 with⟨b',ow',k',cs',ri',e1,e2,e3,e4,e5,e6,e7,e8,e9,e10,e11,e12⟩ | h3
   ·refine .inl ⟨b',ow',k',cs',ri',e1,e2,by omega,by simp;omega,e5,e6,e7,e8,e9,e10,e11,λp t l h4 h5=>?_⟩
    have hp:p<cs'.length:=by
     grind
    simp only[EA];rw[mC,ND _ _ _ _ _ (by omega)];exact e12 p t l h4 h5
   ·exact .inr h3
def nG.vals{ks:List jB}{k:Nat}{as:List V}{bs:List Nat}{u:Nat→Value}(he:nG w ρ bad g N0 ks k as bs u){ρc:Nat→Option RI}{badc:Nat→Prop}
  (hb:∀b,badc b→bad b) (hρ:∀q b,kB ks k bs q=some b→ρc q=ρ b) (hρ2:∀q row,EA ks k as q=some row→q % 128≠127→ρc q=ρ (N0+q)):
  (FB ks k as).length=ks.length∧∀j (hj:j<(FB ks k as).length),VR w ρc badc (u j) (FB ks k as)[j]:=by
 induction he with
 | nil=>exact⟨rfl,λj hj=>by simp[FB]at hj⟩
 | plain hv hn hr ih=>
  rename_i ks k v as bs u;obtain⟨h1,h2⟩:=ih (λq b h=>hρ q b h) λq row h=>hρ2 q row h;refine⟨by simp[FB,h1],λj hj=>?_⟩;cases j with
  | zero=>exact(hv.noRef hn ρc).mono (λ_ _ h=>h) (λ_ _ _=>rfl) λb h=> .inl (hb b h)
  | succ j=>exact h2 j (by simpa[FB]using hj)
 | ptr ri hρb YV hu hg hl hq hc J9 hr ih=>
  rename_i ow ks k b cs as bs u
  obtain⟨h1,h2⟩:=ih (λq b' h=>hρ q b' (by
   obtain⟨h3,_⟩:=sF _ _ _ _ _ h;simp only[kB];rw[if_neg (by omega)];exact h)) λq row h h3=>hρ2 q row (by
   have:=(hr.row h).1;simp only[EA];rw[BA _ _ _ _ (by omega),mC,ND _ _ _ _ _ (by omega)];exact h) h3
  refine⟨by simp[FB,h1],λj hj=>?_⟩;cases j with
  | zero=>
   show VR w ρc badc (u 0) (.bp (128 *k+127) 0)
   rw[hu];exact .bp _ _ ri (by rw[hρ (128 *k+127) b (by simp[kB])];exact hρb) YV
  | succ j=>exact h2 j (by simpa[FB]using hj)
 | mv hv hl hq hc hr ih=>
  rename_i ow ks k cs as bs u
  obtain⟨h1,h2⟩:=ih (λq b h=>hρ q b h) λq row h h3=>hρ2 q row (by
   have:=(hr.row h).1;simp only[EA];rw[mC,ND _ _ _ _ _ (by omega)];exact h) h3
  refine⟨by simp[FB,h1],λj hj=>?_⟩;cases j with
  | zero=>
   show VR w ρc badc (u 0) (.agg (NA ow (128 *k) 0 cs))
   generalize u 0=u0 at hv;cases hv with
   | agg _ vs hs oX=>
   refine .agg _ vs (by rw[qF];rw[qF]at hs;exact hs) ?_;refine bU ow (N0+128 *k) (128 *k) cs 0 (λj=>vs.getD j undef) (λq' h3 h4 h5 h6=>?_) (λj hj=>(hc j hj).1) hb (λj hj=>oX j hj);obtain⟨t,l,h6⟩:=h6
   have h0:EA (.mv ow :: ks) k (.agg cs :: as) (128 *k+q')=some ⟨.arr t l, .own⟩:=by
    simp only[EA];rw[mC,zev ow (128 *k) cs 0 q' t l (Nat.zero_le _) h6 h5]
   have:=hρ2 _ _ h0 (by omega);rw[this];congr 1;omega
  | succ j=>exact h2 j (by simpa[FB]using hj)
def nG.found{ks:List jB}{k:Nat}{as:List V}{bs:List Nat}{u:Nat→Value}(he:nG w ρ bad g N0 ks k as bs u):∀{q b:Nat},kB ks k bs q=some b→∃row,EA ks k as q=some row:=by
 induction he with
 | nil=>intro q b h;simp[kB]at h
 | plain hv hn hr ih=>intro q b h;simp only[kB]at h;simp only[EA];exact ih h
 | ptr ri hρ YV hu hg hl hq hc hb hr ih=>
  rename_i ow ks k b0 cs as bs u;intro q b h;simp only[kB]at h;simp only[EA]
  by_cases RY:q=128 *k+127
  ·subst RY;exact⟨_,MA _ _ _⟩
  ·rw[if_neg RY]at h;obtain⟨row,h1⟩:=ih h;have:=(sF _ _ _ _ _ h).1;rw[BA _ _ _ _ RY,mC,ND _ _ _ _ _ (by omega)];exact⟨row,h1⟩
 | mv hv hl hq hc hr ih=>
  rename_i ow ks k cs as bs u;intro q b h;simp only[kB]at h;simp only[EA];obtain⟨row,h1⟩:=ih h;have:=(sF _ _ _ _ _ h).1;rw[mC,ND _ _ _ _ _ (by omega)];exact⟨row,h1⟩
def nG.surj{ks:List jB}{k:Nat}{as:List V}{bs:List Nat}{u:Nat→Value}(he:nG w ρ bad g N0 ks k as bs u):∀b∈bs,∃q,kB ks k bs q=some b:=by
 induction he with
 | nil=>intro b hb;simp at hb
 | plain hv hn hr ih=>intro b hb;obtain⟨q,h⟩:=ih b hb;exact⟨q,h⟩
 | mv hv hl hq hc hr ih=>intro b hb;obtain⟨q,h⟩:=ih b hb;exact⟨q,h⟩
 | ptr ri hρb YV hu hg hl hq hc J9 hr ih=>
  rename_i ow ks k b cs as bs u;intro b' qX
  rcases List.mem_cons.1 qX with rfl | qX
  ·exact⟨128 *k+127,by simp[kB]⟩
  ·obtain⟨q,h⟩:=ih b' qX;refine⟨q,?_⟩;have:=(sF _ _ _ _ _ h).1;simp only[kB];rw[if_neg (by omega)];exact h
def zau{bad2:Nat→Prop}{ri:RI}{t:TN}{l:List (El t)}(hr:QD w ρ bad ri (.arr t l))(hb:∀b,bad2 b→bad b)(ρ2:Nat→Option RI):QD w ρ2 bad2 ri (.arr t l):=by
 refine⟨hr.1,?_⟩
 rcases hr.2 with h | ⟨h1,he,h2,h3,h4,h5⟩
 ·exact .inl h
 ·refine .inr ⟨h1,he,h2,h3,h4,λi hi j hj=>?_⟩;obtain⟨u,h6,h7⟩:=h5 i hi j hj;exact⟨u,h6,(h7.noRef (λS=>wM S t _ j) ρ2).mono (λ_ _ h=>h) (λ_ _ _=>rfl) λb h=> .inl (hb b h)⟩
end
end Go.D
namespace Go.D
variable [jA]
inductive Rk(m:Nat):V→Prop where
 | undef:Rk m .undef
 | bool (b:Bool):Rk m (.bool b)
 | int (k:IntKind) (n:Int):Rk m (.int k n)
 | str (s:List UInt8):Rk m (.str s)
 | nil:Rk m .nil
 | sl (t:TN) (l:List (El t)) (h:t.rank<m):Rk m (.sl t l)
 | ow (r:Nat):Rk m (.ow r)
 | bp (r off:Nat):Rk m (.bp r off)
 | agg (cs:List V) (h:∀c∈cs,Rk m c):Rk m (.agg cs)
 | tup (cs:List V) (h:∀c∈cs,Rk m c):Rk m (.tup cs)
 | nili:Rk m .nili
 | ifc (b:Bool):Rk m (.ifc b)
def zge(m:Nat):V→Bool
 | .sl t _=>Nat.blt t.rank m
 | .bool _ | .int _ _ | .str _ | .nil | .undef | .nili | .ifc _=>true
 | _=>false
omit [jA]in
def Rk.of_low{m:Nat}{v:V}(h:zge m v=true):Rk m v:=by
 cases v<;>simp only[zge]at h<;>try (cases h;done)
 ·exact .undef
 ·exact .bool _
 ·exact .int _ _
 ·exact .str _
 ·exact .nil
 ·exact .sl _ _ (by simpa[Nat.blt_eq]using h)
 ·exact .nili
 ·exact .ifc _
omit [jA]in
def Rk.mono{m m':Nat}(hm:m≤m'){v:V}(h:Rk m v):Rk m' v:=by
 induction h with
 | undef=>exact .undef
 | bool=>exact .bool _
 | int=>exact .int _ _
 | str=>exact .str _
 | nil=>exact .nil
 | sl t l h=>exact .sl _ _ (Nat.lt_of_lt_of_le h hm)
 | ow=>exact .ow _
 | bp=>exact .bp _ _
 | agg cs h ih=>exact .agg _ ih
 | tup cs h ih=>exact .tup _ ih
 | nili=>exact .nili
 | ifc=>exact .ifc _
omit [jA]in
def ztG(t:TN)(x:El t):(enc t x).all (zge t.rank)=true:=by cases t<;>rfl
omit [jA]in
def zjy(t:TN)(x:El t)(j:Nat):Rk t.rank ((enc t x).getD j .undef):=by
 rw[List.getD_eq_getElem?_getD]
 by_cases hj:j<(enc t x).length
 ·rw[List.getElem?_eq_getElem hj];exact .of_low (List.all_eq_true.1 (ztG t x) _ (List.getElem_mem hj))
 ·rw[List.getElem?_eq_none (by omega)];exact .undef
variable {w:World} {ρ:Nat→Option RI} {bad bad':Nat→Prop} {v:Value} {d:V}
def VR.widen(h:VR w ρ bad v d){m:Nat}(hd:Rk m d)(hb:∀b,bad' b→bad b∨(jA.base≤b∧∃t,AF w b t∧m≤t.rank)):VR w ρ bad' v d:=by
 induction h with
 | undef=>exact .undef _
 | bool=>exact .bool _
 | int k n h=>exact .int _ _ h
 | str s h=>exact .str _ h
 | nil=>exact .nil
 | slE t a cap h=>exact .slE _ _ _ h
 | slC t l b off cap u J9 hl hc he hu hv ih=>
  cases hd with | sl _ _ hr=>
  by_cases D1:l.length=0
  ·obtain rfl:l=[]:=List.eq_nil_of_length_eq_zero D1;exact .slE _ _ _ hc
  ·refine .slC t l b off cap u (λh=>?_) hl hc he hu λi hi j hj=>ih i hi j hj ((zjy t l[i] j).mono (Nat.le_of_lt hr))
   rcases hb b h with h | ⟨h1,t',h2,h3⟩
   ·exact J9 h
   ·rcases he (by rintro rfl;simp at D1)with h4 | h4
    ·omega
    ·have:=h4.uniq h2;subst this;omega
 | ow r ri h hn hc YV=>exact .ow _ _ h hn hc YV
 | owN r ri ao h hn YV=>exact .owN _ _ _ h hn YV
 | ov=>cases hd
 | bp r off ri h YV=>exact .bp _ _ _ h YV
 | ep=>cases hd
 | fp=>cases hd
 | fn=>cases hd
 | agg cs vs hs hv ih=>cases hd with | agg _ hd=>exact .agg _ _ hs λj hj=>ih j hj (hd _ (List.getElem_mem hj))
 | tup cs vs hs hv ih=>cases hd with | tup _ hd=>exact .tup _ _ hs λj hj=>ih j hj (hd _ (List.getElem_mem hj))
 | nili=>exact .nili
 | ifc=>exact .ifc _ _
 | ifn=>exact .ifn
def zdf(m:Nat):iF→Prop
 | .box cs=>∀c∈cs,Rk m c
 | .arr t _=>t.rank≤m
def QD.keepR{w':World}{ρ':Nat→Option RI}{ri:RI}{c:iF}{m:Nat}(hr:QD w ρ bad ri c)(hc:zdf m c)
  (hw:ri.nl=false→w'.heap[ri.b]?=w.heap[ri.b]?)
  (hv:∀u d,Rk m d→VR w ρ bad u d→VR w' ρ' bad' u d):QD w' ρ' bad' ri c:=by
 cases c with
 | box cs=>
  refine⟨hr.1,λj hj=>?_⟩;obtain⟨h1,u,h2,h3⟩:=hr.2 j hj;have hb:=hw hr.1;exact⟨by rw[←h1];simp[World.frozen?,at_,hb],u,by rw[←h2];exact MJ hb,hv _ _ (hc _ (List.getElem_mem hj)) h3⟩
 | arr t l=>
  refine⟨hr.1,?_⟩
  rcases hr.2 with h | ⟨h0,he,h1,h2,h3,h4⟩
  ·exact .inl h
  ·have hb:=hw h0;refine .inr ⟨h0,he.same hb,h1,h2,λj hj=>?_,λi hi j hj=>?_⟩
   ·have:=h3 j hj;exact⟨by rw[←this.1];simp[World.frozen?,at_,hb],by rw[←this.2];congr 1;exact MJ hb⟩
   ·obtain⟨u,h5,h6⟩:=h4 i hi j hj;exact⟨u,by rw[←h5];exact MJ hb,hv _ _ ((zjy t _ j).mono hc) h6⟩
omit [jA]in
def zro{m:Nat}{v:V}(h:qM v=true):Rk m v:=by
 cases v<;>simp[qM]at h
 ·exact .bool _
 ·exact .int _ _
 ·exact .str _
omit [jA]in
def zcn(ow:List Nat)(base:Nat):∀(vs:List V) (p m m':Nat),DE ow p vs=some m→m≤m'→
  (∀v∈NA ow base p vs,Rk m' v)∧∀q t l,XA ow base (λ_=>none) p vs q=some ⟨.arr t l, .own⟩→t.rank≤m'
 | [],p,m,m',h,hm=>⟨λv hv=>by simp[NA]at hv,λq t l hq=>by simp[XA]at hq⟩
 | v :: vs,p,m,m',h,hm=>by
  cases v
  case sl t l=>
   simp only[DE]at h;split at h
   case h_2=>cases h
   rename_i m1 h1;cases h;have hm1:m1≤m':=Nat.le_trans (Nat.le_max_right _ _) hm;have F3:=Nat.le_trans (Nat.le_max_left _ _) hm;obtain⟨i1,i2⟩:=zcn ow base vs (p+1) m1 m' h1 hm1;cases ho:ow.any (Nat.beq p)
   ·simp only[ho,cond_false]at F3;simp only[NA,XA,ho,cond_false];refine⟨λv hv=>?_,i2⟩
    rcases List.mem_cons.1 hv with rfl | hv
    ·exact .sl _ _ (by omega)
    ·exact i1 v hv
   ·simp only[ho,cond_true]at F3;simp only[NA,XA,ho,cond_true];refine⟨λv hv=>?_,λq t' l' hq=>?_⟩
    ·rcases List.mem_cons.1 hv with rfl | hv
     ·exact .ow _
     ·exact i1 v hv
    ·by_cases O2:q=base+p
     ·subst O2;rw[MA]at hq;cases hq;exact F3
     ·rw[BA _ _ _ _ O2]at hq;exact i2 q t' l' hq
  case nil=>
   simp only[DE]at h;obtain⟨i1,i2⟩:=zcn ow base vs (p+1) m m' h hm;simp only[NA,XA];refine⟨λv hv=>?_,i2⟩
   rcases List.mem_cons.1 hv with rfl | hv
   ·exact .nil
   ·exact i1 v hv
  all_goals
   simp only[DE]at h
   first
   | (simp only[qM,cond_false]at h;cases h;done)
   | (simp only [qM,cond_true] at h
      obtain⟨i1,i2⟩:=zcn ow base vs (p+1) m m' h hm;simp only[NA,XA];refine⟨λv hv=>?_,i2⟩
      rcases List.mem_cons.1 hv with rfl | hv
      ·exact zro rfl
      ·exact i1 v hv)
omit [jA]in
def zjz{m:Nat}:∀(sh:List (Bool×Nat)) (vs:List V),(∀v∈vs,Rk m v)→∀v∈EE sh vs,Rk m v
 | [],vs,h,v,hv=>by simp[EE]at hv
 | (ag,n) :: sh,vs,h,v,hv=>by
  simp only[EE]at hv
  rcases List.mem_cons.1 hv with rfl | hv
  ·cases ag
   ·cases vs with
    | nil=>exact .undef
    | cons x vs=>exact h x (by simp)
   ·exact .agg _ λc hc=>h c (List.mem_of_mem_take hc)
  ·exact zjz sh (vs.drop n) (λv hv=>h v (List.mem_of_mem_drop hv)) v hv
omit [jA]in
def ztY{m:Nat}(sh:List (Bool×Nat))(vs:List V)(h:∀v∈vs,Rk m v):Rk m (pI sh vs):=by
 have:=zjz sh vs h;unfold pI;split
 ·grind
 ·exact .tup _ this
omit [jA]in
def zbO{m:Nat}:∀(ks:List jB) (as:List V) (bs:List Nat) (vs:List V) (r:Nat) (row:sA),(∀v∈vs,Rk m v)→LB ks as bs vs (λ_=>none) r=some row→zdf m row.c
 | [],as,bs,vs,r,row,hv,h=>by cases as<;>simp[LB]at h
 | .plain :: ks,[],bs,vs,r,row,hv,h=>by simp[LB]at h
 | .plain :: ks,a :: as,bs,vs,r,row,hv,h=>by simp only[LB]at h;exact zbO ks as bs vs r row hv h
 | .mv ow :: ks,[],bs,vs,r,row,hv,h=>by simp[LB]at h
 | .mv ow :: ks,a :: as,bs,vs,r,row,hv,h=>by simp only[LB]at h;exact zbO ks as bs vs r row hv h
 | .ptr ow :: ks,[],bs,vs,r,row,hv,h=>by simp[LB]at h
 | .ptr ow :: ks,a :: as,[],vs,r,row,hv,h=>by cases a<;>simp[LB]at h
 | .ptr ow :: ks,a :: as,b :: bs,vs,r,row,hv,h=>by
  cases a<;>try (simp[LB]at h;done)
  simp only[LB]at h
  by_cases hr:r=b
  ·subst hr;rw[MA]at h;cases h;exact λc hc=>hv c (List.mem_of_mem_take hc)
  ·rw[BA _ _ _ _ hr]at h;exact zbO ks as bs _ r row (λv A2=>hv v (List.mem_of_mem_drop A2)) h
omit [jA]in
def zuy{ci:WA}{as:List V}{bs:List Nat}{base:Nat}{rs:List V}{m:Nat}(hm:DE ci.own 0 rs=some m)(hp:ci.pb=false):
  (∀r row,aE ci as bs base rs r=some row→zdf m row.c)∧Rk m (gJ ci base rs):=by
 obtain⟨h1,h2⟩:=zcn ci.own base rs 0 m m hm (Nat.le_refl _);refine⟨λr row h=>?_,?_⟩
 ·unfold aE WE at h;rw[hp,cond_false,UL]at h;split at h
  ·rename_i x hx;cases h;exact zbO _ _ _ _ _ _ (λv hv=>h1 v (List.mem_of_mem_drop hv)) hx
  ·obtain⟨t,l,h0,_,_⟩:=yE _ _ _ _ _ _ h;subst h0;exact h2 r t l h
 ·unfold gJ;rw[hp,cond_false];exact ztY _ _ h1
end Go.D
namespace Go.D
variable [jA]
structure XF(C:Cx):Prop where
 ok:∀k ci,C.Φ k=some ci→pB C.P (k % 1048576) ci C.g
section
variable {C:Cx} {w0:World} {outer own:Nat→Prop} {ρ:Nat→Option RI} {st st':St} {a:Act} {w:World} {h:Nat→Option sA}
def VA.grow(hr:VA C w0 outer own ρ st a w){w1:World}(hx:Wx w w1)(ho:∀b,b<w.heap.size→w1.heap[b]?=w.heap[b]?):VA C w0 outer own ρ st a w1:=by
 have hv:∀u d,VR w ρ (rA outer ρ st.h) u d→VR w1 ρ (rA outer ρ st.h) u d:=λu d hu=>hu.mono (λ_ _ h=>h) (λb _ hb=>ho b hb) λb hb=> .inl hb;refine⟨⟨hr.heap.wx.trans hx,λb hb hn=>(ho b (Nat.lt_of_lt_of_le hb hr.heap.wx.size)).trans (hr.heap.old b hb hn),hr.heap.outLt,λr row h=>?_,hr.heap.inj⟩,λi=>hv _ _ (hr.slots i),hr.size,hr.defers,hr.glob⟩;obtain⟨ri,h1,h2,h3⟩:=hr.heap.rows r row h;exact⟨ri,h1,h2.keep (λhn=>ho _ (h3 hn).2) hv,λhn=>⟨(h3 hn).1,Nat.lt_of_lt_of_le (h3 hn).2 hx.size⟩⟩
inductive Sc:V→Prop where
 | undef:Sc .undef
 | bool (b:Bool):Sc (.bool b)
 | int (k:IntKind) (n:Int):Sc (.int k n)
 | str (s:List UInt8):Sc (.str s)
 | nil:Sc .nil
 | ow (r:Nat):Sc (.ow r)
 | agg (cs:List V) (h:∀c∈cs,Sc c):Sc (.agg cs)
 | tup (cs:List V) (h:∀c∈cs,Sc c):Sc (.tup cs)
def VR.sc{ρ':Nat→Option RI}{bad bad':Nat→Prop}{w':World}{v:Value}{d:V}(h:VR w ρ bad v d)(hs:Sc d)(hρ:∀r ri,ρ r=some ri→ρ' r=some ri):VR w' ρ' bad' v d:=by
 induction h with
 | undef=>exact .undef _
 | bool=>exact .bool _
 | int k n h=>exact .int _ _ h
 | str s h=>exact .str _ h
 | nil=>exact .nil
 | ow r ri h h1 h2 h3=>exact .ow _ _ (hρ _ _ h) h1 h2 h3
 | owN r ri ao h h1 h2=>exact .owN _ _ _ (hρ _ _ h) h1 h2
 | agg cs vs NV hv ih=>
  cases hs with
  | agg _ hs=>exact .agg _ _ NV λj hj=>ih j hj (hs _ (List.getElem_mem hj))
 | tup cs vs NV hv ih=>
  cases hs with
  | tup _ hs=>exact .tup _ _ NV λj hj=>ih j hj (hs _ (List.getElem_mem hj))
 | _=>cases hs
omit [jA]in
def zc8{v:V}(h:qM v=true):Sc v:=by
 cases v<;>simp[qM]at h
 ·exact .bool _
 ·exact .int _ _
 ·exact .str _
omit [jA]in
def zuM{t:TN}(h:t.flat=true)(x:El t)(j:Nat):Sc ((enc t x).getD j .undef):=by
 have K9:∀c∈enc t x,Sc c:=by
  cases t<;>simp[TN.flat]at h<;>intro c hc<;>simp[enc]at hc<;>(try subst hc)<;>(try exact zc8 rfl)<;>(repeat' (rcases hc with rfl | hc))<;>(try subst hc)<;>first | exact zc8 rfl | skip
  all_goals (simp[zce,zbB,zb3,zcb]at hc;repeat' (rcases hc with rfl | hc))<;>(try subst hc)<;>exact zc8 rfl
 rw[List.getD_eq_getElem?_getD]
 by_cases hj:j<(enc t x).length
 ·rw[List.getElem?_eq_getElem hj];exact K9 _ (List.getElem_mem hj)
 ·rw[List.getElem?_eq_none (by omega)];exact .undef
omit [jA]in
def zjr:∀(sh:List (Bool×Nat)) (vs:List V),(∀v∈vs,Sc v)→∀v∈EE sh vs,Sc v
 | [],vs,h,v,hv=>by simp[EE]at hv
 | (ag,n) :: sh,vs,h,v,hv=>by
  simp only[EE]at hv
  rcases List.mem_cons.1 hv with rfl | hv
  ·cases ag
   ·cases vs with
    | nil=>exact .undef
    | cons x vs=>exact h x (by simp)
   ·exact .agg _ λc hc=>h c (List.mem_of_mem_take hc)
  ·exact zjr sh (vs.drop n) (λv hv=>h v (List.mem_of_mem_drop hv)) v hv
omit [jA]in
def zt1(sh:List (Bool×Nat))(vs:List V)(h:∀v∈vs,Sc v):Sc (pI sh vs):=by
 have:=zjr sh vs h;unfold pI;split
 ·rename_i v hv;exact this v (by rw[hv];simp)
 ·exact .tup _ this
omit [jA]in
def zfj(ow:List Nat)(base:Nat):∀(vs:List V) (p:Nat),dV ow p vs=true→(∀v∈NA ow base p vs,Sc v)∧∀q t l,XA ow base (λ_=>none) p vs q=some ⟨.arr t l, .own⟩→t.flat=true
 | [],p,h=>⟨λv hv=>by simp[NA]at hv,λq t l hq=>by simp[XA]at hq⟩
 | v :: vs,p,h=>by
  cases v<;>simp only[dV,Bool.and_eq_true]at h
  case sl t l=>
   obtain⟨⟨h1,h2⟩,h3⟩:=h;obtain⟨i1,i2⟩:=zfj ow base vs (p+1) h3;simp only[NA,XA,h1,cond_true];refine⟨λv hv=>?_,λq t' l' hq=>?_⟩
   ·rcases List.mem_cons.1 hv with rfl | hv
    ·exact .ow _
    ·exact i1 v hv
   ·by_cases O2:q=base+p
    ·subst O2;rw[MA]at hq;cases hq;exact h2
    ·rw[BA _ _ _ _ O2]at hq;exact i2 q t' l' hq
  all_goals
   obtain⟨h1,h3⟩:=h;obtain⟨i1,i2⟩:=zfj ow base vs (p+1) h3;simp only[NA,XA];refine⟨λv hv=>?_,i2⟩
   rcases List.mem_cons.1 hv with rfl | hv
   ·exact zc8 h1
   ·exact i1 v hv
omit [jA]in
def zhk:∀(ks:List jB) (as:List V) (bs:List Nat) (vs:List V) (h:Nat→Option sA),ks.all jB.isPlain=true→LB ks as bs vs h=h
 | [],as,bs,vs,h,hp=>by cases as<;>rfl
 | .plain :: ks,[],bs,vs,h,hp=>rfl
 | .plain :: ks,a :: as,bs,vs,h,hp=>by
  simp only[List.all_cons,Bool.and_eq_true]at hp;show LB ks as bs vs h=h
  exact zhk ks as bs vs h hp.2
 | .ptr _ :: ks,as,bs,vs,h,hp=>by simp[jB.isPlain]at hp
 | .mv _ :: ks,as,bs,vs,h,hp=>by simp[jB.isPlain]at hp
omit [jA]in
def zh1:∀(ks:List jB) (k:Nat) (as:List V),ks.all jB.isPlain=true→EA ks k as=λ_=>none
 | [],k,as,h=>by cases as<;>rfl
 | .plain :: ks,k,[],h=>rfl
 | .plain :: ks,k,a :: as,h=>by
  simp only[List.all_cons,Bool.and_eq_true]at h;show EA ks (k+1) as=_
  exact zh1 ks (k+1) as h.2
 | .ptr _ :: ks,k,as,h=>by simp[jB.isPlain]at h
 | .mv _ :: ks,k,as,h=>by simp[jB.isPlain]at h
omit [jA]in
def zi4(h:Nat→Option sA):EF (BO h) h:=λr row' hr=>by
 unfold BO at hr;split at hr
 ·rename_i c h1;cases hr;exact⟨_,h1,rfl,λ_=>rfl⟩
 ·exact⟨row',hr,rfl,id⟩
omit [jA]in
def zqV(h:Nat→Option sA):EF h (BO h):=λr row hr=>by
 unfold BO;obtain⟨c,m⟩:=row;cases m
 ·exact⟨_,by rw[hr],rfl,λ_=>rfl⟩
 ·exact⟨_,by rw[hr],rfl,λh=>h⟩
 ·exact⟨⟨c, .own⟩,by rw[hr],rfl,λ_=>rfl⟩
def VA.less(hr:VA C w0 outer own ρ st a w){h':Nat→Option sA}(hl:EF h' st.h):VA C w0 outer own ρ {st with h:=h'} a w:=
 ⟨(hr.heap.less hl).1,λi=>(hr.heap.less hl).2 _ _ (hr.slots i),hr.size,hr.defers,hr.glob⟩
variable {o:Oper} {i:Nat} (hr:VA C w0 outer own ρ st a w)
include hr
def zjW(OX:∃N,∀r,N≤r→ρ r=none)(xW:∀q,q<128→ρ (i+q)=none)(f:Nat)(args:Array Value)(as:List V)(NV:args.size=as.length)
  (nW:∀j (hj:j<as.length),VR w ρ (rA outer ρ st.h) (args.getD j undef) as[j]) (UV:(execOp a.eval o).run C.P w=(callFunc f args).run C.P w)
  {ci:WA} (v8:pB C.P f ci C.g) {as':List V} {h':Nat→Option sA} {bs:List Nat} (yZ:oC ci.ks as st.h=some (as',h',bs)) {x:ci.A} (eZ:ci.dA as'=some x) {r:ci.R} (hF:ci.F x=some r)
  (jW:(ci.eR r).length≤128) (hk:QA C o.dst {st with h:=dH ci as' bs i (ci.eR r) (fL ci (ci.eR r) st.h h')} (gJ ci i (ci.eR r)) some=some st'):
  BC C.P o a w (wC C w0 outer own i ρ st'):=by
 obtain⟨N,hN⟩:=OX
 -- the arguments
 have L9:∀q,N≤q→st.h q=none:=λq hq=>by
  cases hg:st.h q with
  | none=>rfl
  | some row=>obtain⟨ri,h3,_⟩:=hr.heap.rows _ _ hg;rw[hN q hq]at h3;cases h3
 obtain⟨ρ',g',c1,c2,c3,c4,c5,c6,c7,c8,c9,qG,LG⟩:=zbH N ci.ks as st.h h' as' bs 0 ρ st.h (λj=>args.getD j undef) yZ hr.heap nW (λ_ _ h=>h) (λr hr=>hN r (by omega)) L9;have VV:=vT _ _ _ _ yZ;simp only at VV;let φ:Nat→Nat:=λq=>(kB ci.ks 0 bs q).getD (N+q);let E:=EA ci.ks 0 as';let ρc:Nat→Option RI:=λq=>if(E q).isSome=true then ρ' (φ q)else none
 let ownc:Nat→Prop:=λb=>∃q row ri,E q=some row∧ρc q=some ri∧ri.nl=false∧ri.b=b;let outc:Nat→Prop:=rA outer ρ' h'
 have M9:∀b∈bs,b<N:=λb hb=>by
  rcases Nat.lt_or_ge b N with h3 | h3
  ·exact h3
  ·exact absurd (L9 b h3) (c8 b hb).2
 have hφbox:∀q b,kB ci.ks 0 bs q=some b→φ q=b:=λq b h=>by simp[φ,h]
 have hφarr:∀q,q % 128≠127→φ q=N+q:=λq hq=>by
  have:kB ci.ks 0 bs q=none:=by
   cases hb:kB ci.ks 0 bs q with
   | none=>rfl
   | some b=>exact absurd (sF _ _ _ _ _ hb).2.1 hq
  simp[φ,this]
 -- the rows of the entry
 have hE:∀q row,E q=some row→∃row' ri,g' (φ q)=some row'∧row'.m= .own∧h' (φ q)=none∧ρc q=some ri∧ρ' (φ q)=some ri:=λq row hq=>by
  obtain⟨h1,h2,h3⟩:=c7.row hq;have MV:(E q).isSome=true:=by show(EA ci.ks 0 as' q).isSome=true;have h0:EA ci.ks 0 as' q=some row:=hq;rw[h0];rfl
  rcases h3 with⟨b,ow,k',cs,ri,e1,e2,e3,e4,e5,e6,e7,e8⟩ | ⟨t,l,e1,e2,e3⟩
  ·refine⟨_,ri,by rw[hφbox q b e1];exact e6,rfl,by rw[hφbox q b e1];exact(c8 b (sF _ _ _ _ _ e1).2.2).1,?_,by rw[hφbox q b e1];exact e7⟩;simp only[ρc,MV,if_true,hφbox q b e1,e7]
  ·obtain⟨ri,f1,_⟩:=c1.rows _ _ e2;subst e1;refine⟨_,ri,by rw[hφarr q e3];exact e2,rfl,by rw[hφarr q e3];exact c3 _ (L9 _ (by omega)),?_,by rw[hφarr q e3];exact f1⟩;simp only[ρc,MV,if_true,hφarr q e3,f1]
 have U3:∀b,ownc b→∃q row ri,g' q=some row∧row.m= .own∧h' q=none∧ρ' q=some ri∧ri.nl=false∧ri.b=b:=by
  rintro b ⟨q,row,ri,h1,h2,h3,h4⟩;obtain⟨row',ri',f1,f2,f3,f4,f5⟩:=hE q row h1;rw[h2]at f4;cases f4;exact⟨_,row',ri,f1,f2,f3,f5,h3,h4⟩
 have OV:∀q row,h' q=some row→∃ri,ρ' q=some ri∧(ri.nl=false→¬ownc ri.b∧ri.b<w.heap.size∧(¬outer ri.b∧(row.m.isRo=false→w0.heap.size≤ri.b∨own ri.b))):=λq row hq=>by
  obtain⟨ri,f1,_,f2⟩:=c1.rows q row (c2 q row hq);refine⟨ri,f1,λhn=>⟨λho=>?_,(f2 hn).2,(f2 hn).1⟩⟩;obtain⟨q',row',ri',e1,e2,e3,e4,e5,e6⟩:=U3 _ ho;have:=c1.inj q q' row row' ri ri' (c2 q row hq) e1 f1 e4 hn e5 e6.symm;subst this;rw[hq]at e3;cases e3
 have xX:∀b,ownc b→b<w.heap.size∧(w0.heap.size≤b∨own b):=λb hb=>by
  obtain⟨q',row',ri',e1,e2,e3,e4,e5,e6⟩:=U3 _ hb;obtain⟨ri2,f1,_,f2⟩:=c1.rows q' row' e1;rw[e4]at f1;cases f1;rw[←e6];exact⟨(f2 e5).2,(f2 e5).1.2 (by rw[e2];rfl)⟩
 have iX:∀b,outc b→b<w.heap.size∧¬ownc b:=by
  rintro b (hb | ⟨q,row,ri,f1,f2,f3,f4,f5⟩)
  ·obtain⟨g1,g2⟩:=c1.outLt b hb;refine⟨Nat.lt_of_lt_of_le g1 c1.wx.size,λho=>?_⟩
   rcases(xX b ho).2 with h3 | h3
   ·omega
   ·exact g2 h3
  ·obtain⟨ri',k1,k2⟩:=OV q row f1;rw[f3]at k1;cases k1;rw[←f5];exact⟨(k2 f4).2.1,(k2 f4).1⟩
 have XZ:∀b,rA outc ρc E b→rA outer ρ' g' b:=by
  rintro b (hb | ⟨q,row,ri,f1,f2,f3,f4,f5⟩)
  ·exact hb.mono λq row h1 h2=>⟨row,c2 q row h1,h2⟩
  ·obtain⟨row',ri',k1,k2,k3,k4,k5⟩:=hE q row f1;rw[f3]at k4;cases k4;exact .inr ⟨_,row',ri,k1,by rw[k2];rfl,k5,f4,f5⟩
 have hρcbox:∀q b,kB ci.ks 0 bs q=some b→q<128 *ci.ks.length→ρc q=ρ' b:=λq b h _=>by
  obtain⟨row,h0⟩:=c7.found h;have MV:(E q).isSome=true:=by show(EA ci.ks 0 as' q).isSome=true;rw[h0];rfl
  simp only[ρc,MV,if_true,hφbox q b h]
 have YZ:∀q b,kB ci.ks 0 bs q=some b→q<128 *ci.ks.length:=λq b h=>by have:=zbN _ _ _ _ _ h;omega
 have V3:iB w outc ownc ρc E w:=by
  refine c1.sub φ (Wx.refl _) (λ_ _ _=>rfl) iX (λq row hq=>?_) (λq q' row row' h1 h2 h3=>?_)
  ·obtain⟨h1,h2,h3⟩:=c7.row hq;obtain⟨row',ri,f1,f2,f3,f4,f5⟩:=hE q row hq;refine⟨row',ri,f1,f4,f5,?_,λhn=>⟨λho=>(iX _ ho).2 ⟨q,row,ri,hq,f4,hn,rfl⟩,λ_=> .inr ⟨q,row,ri,hq,f4,hn,rfl⟩⟩⟩;obtain⟨ri2,k1,k2,_⟩:=c1.rows _ _ f1;rw[f5]at k1;cases k1
   rcases h3 with⟨b,ow,k',cs,ri',e1,e2,e3,e4,e5,e6,e7,e8,e9,e10,e11,e12⟩ | ⟨t,l,e1,e2,e3⟩
   ·rw[hφbox q b e1,e6]at f1;cases f1;subst e5;refine⟨k2.1,λj hj=>?_⟩;rw[qF]at hj;obtain⟨g1,x,g2,g3⟩:=k2.2 j (by rw[qF];exact hj);refine⟨g1,x,g2,?_⟩
    have:=bU (w:=w) (ρ:=ρ') (ρ2:=ρc) (bad:=rA outer ρ' g') (bad2:=rA outc ρc E) ow (N+128 *k') (128 *k') cs 0 (λj=>(w.cell? (at_ ri.b j)).getD undef) (λq' _ h4 h5 h6=>by
      obtain⟨t,l,h6⟩:=h6;have h0:=e12 q' t l (by simpa using h6) h5;have MV:(E (128 *k'+q')).isSome=true:=by show(EA ci.ks 0 as' (128 *k'+q')).isSome=true;rw[h0];rfl
      simp only[ρc,MV,if_true];rw[hφarr _ (by omega)];congr 1;omega) e10 XZ (λj hj=>by
      obtain⟨_,x,g2,g3⟩:=k2.2 j hj;rw[g2];exact g3) j (by rw[qF];exact hj)
    rw[g2]at this;exact this
   ·subst e1;rw[hφarr q e3,e2]at f1;cases f1;exact zau k2 XZ ρc
  ·obtain⟨_,_,h4⟩:=c7.row h1;obtain⟨_,_,h5⟩:=c7.row h2
   rcases h4 with⟨b,_,_,_,_,e1,_⟩ | ⟨_,_,_,_,e3⟩<;>rcases h5 with⟨b',_,_,_,_,e1',_⟩ | ⟨_,_,_,_,e3'⟩
   ·rw[hφbox q b e1,hφbox q' b' e1']at h3;subst h3;exact pU _ _ _ _ _ _ c9 e1 e1'
   ·rw[hφbox q b e1,hφarr q' e3']at h3;have:=M9 b (sF _ _ _ _ _ e1).2.2;omega
   ·rw[hφbox q' b' e1',hφarr q e3]at h3;have:=M9 b' (sF _ _ _ _ _ e1').2.2;omega
   ·rw[hφarr q e3,hφarr q' e3']at h3;omega
 obtain⟨E1,hv2⟩:=c7.vals XZ (λq b h=>hρcbox q b h (YZ q b h)) λq row h h3=>by
  have MV:(E q).isSome=true:=by show(EA ci.ks 0 as' q).isSome=true;rw[h];rfl
  simp only[ρc,MV,if_true,hφarr q h3]
 have aY:∀q,ρ q≠none→Out i 128 q:=λq hq h3=>hq (by
  have:=xW (q - i) (by omega);rwa [show i+(q - i)=q by omega]at this)
 have hsthρ:∀q row,st.h q=some row→ρ q≠none:=λq row hq=>by
  obtain⟨ri,h3,_⟩:=hr.heap.rows _ _ hq;rw[h3];simp
 have hbsρ:∀b∈bs,ρ b≠none:=λb hb=>by
  cases hq:st.h b with
  | none=>exact absurd hq (c8 b hb).2
  | some row=>exact hsthρ b row hq
 have G:=v8 w args as' outc ownc ρc x r i bs (by rw[NV,qG]) E1 V3 hv2 (λq hq=>by simp only[ρc];rw[if_neg];show ¬(EA ci.ks 0 as' q).isSome=true;rw[hq];simp) c9 (λb hb=>aY b (hbsρ b hb)) eZ hF jW
  ⟨C.g.stay w0 w (λc hc=>hr.heap.old c (Nat.lt_of_lt_of_le hc (C.g.lt _ hr.glob.p)) (hr.glob.own c hc)) hr.glob.p,λc hc ho=>by
   have:=Nat.lt_of_lt_of_le hc (C.g.lt _ hr.glob.p)
   rcases(xX c ho).2 with h | h
   ·omega
   ·exact hr.glob.own c hc h,Nat.le_trans hr.glob.base hr.heap.wx.size,λc hc ho=>by
   have:=Nat.lt_of_lt_of_le hc hr.glob.base
   rcases(xX c ho).2 with h | h
   ·omega
   ·exact hr.glob.low c hc h⟩
 -- a call that leaves all as it is
 cases fZ:FM ci (ci.eR r)
 case true=>
  simp only[fL,fZ,cond_true]at hk;simp only[FM,Bool.and_eq_true,Bool.not_eq_true']at fZ;obtain⟨⟨L2,vZ⟩,hsc⟩:=fZ;have hE0:E=λ_=>none:=zh1 _ _ _ vZ
  have KW:∀b,¬ownc b:=by
   rintro b ⟨q,row,ri,h1,_⟩;rw[hE0]at h1;cases h1
  obtain⟨s1,s2⟩:=zfj ci.own i (ci.eR r) 0 hsc
  have jX:Sc (gJ ci i (ci.eR r)):=by
   unfold gJ;rw[L2,cond_false];exact zt1 _ _ s1
  have N9:aE ci as' bs i (ci.eR r)=XA ci.own i (λ_=>none) 0 (ci.eR r):=by
   unfold aE WE;rw[L2,cond_false,zhk _ _ _ _ _ vZ]
  have fin0:∀v w1,(∃ρx,iB w outc ownc ρx (aE ci as' bs i (ci.eR r)) w1∧
    VR w1 ρx (rA outc ρx (aE ci as' bs i (ci.eR r))) v (gJ ci i (ci.eR r))∧
    (∀q b,kB ci.ks 0 bs q=some b→ρx b=ρc q)∧(∀r,ρx r≠none→(i≤r∧r<i+128)∨r∈bs))→wC C w0 outer own i ρ st' (a.put o.dst v) w1:=by
   rintro v w1 ⟨ρx,hX,hV,_,W3⟩;have hg:=hr.grow hX.wx λb hb=>hX.old b hb (KW b)
   have R4:∀q,dH ci as' bs i (ci.eR r) st.h q=match aE ci as' bs i (ci.eR r) q with | some x=>some x | none=>st.h q:=λq=>by
    rw[sO]
    all_goals (cases aE ci as' bs i (ci.eR r) q<;>rfl)
   generalize z8:aE ci as' bs i (ci.eR r)=X at hX hV R4 N9;generalize dH ci as' bs i (ci.eR r) st.h=VW at hk R4;let ρn:Nat→Option RI:=λq=>if i≤q∧q<i+128 then ρx q else ρ q
   have aY:∀q,ρ q≠none→¬(i≤q∧q<i+128):=λq hq h3=>hq (by
    have:=xW (q - i) (by omega);rwa [show i+(q - i)=q by omega]at this)
   have O9:∀q row,X q=some row→i≤q∧q<i+128:=λq row hq=>by
    rw[N9]at hq;obtain⟨_,_,_,e1,e2⟩:=yE _ _ _ _ _ _ hq;omega
   have hρo:∀q ri,ρ q=some ri→ρn q=some ri:=λq ri hq=>by
    simp only[ρn,aY q (by rw[hq];simp),if_false];exact hq
   have hρX:∀q row ri,X q=some row→ρx q=some ri→ρn q=some ri:=λq row ri hq h3=>by
    simp only[ρn,O9 q row hq,and_self,if_true];exact h3
   have HW:∀q row,X q=some row→∃ri t l,row=⟨.arr t l, .own⟩∧t.flat=true∧ρx q=some ri∧QD w1 ρx (rA outc ρx X) ri (.arr t l)∧(ri.nl=false→w.heap.size≤ri.b∧ri.b<w1.heap.size):=λq row hq=>by
    obtain⟨ri,k1,k2,k3⟩:=hX.rows q row hq;have LX:=hq;rw[N9]at LX;obtain⟨t,l,e0,_,_⟩:=yE _ _ _ _ _ _ LX;subst e0;refine⟨ri,t,l,rfl,s2 q t l LX,k1,k2,λhn=>⟨?_,(k3 hn).2⟩⟩
    rcases(k3 hn).1.2 rfl with h | h
    ·exact h
    ·exact absurd h (KW _)
   have oW:∀q row,VW q=some row→X q=some row∨(X q=none∧st.h q=some row):=λq row hq=>by
    rw[R4]at hq;cases hx:X q with
    | some y=>rw[hx]at hq;exact .inl hq
    | none=>rw[hx]at hq;exact .inr ⟨rfl,hq⟩
   have P2:∀q row ri,st.h q=some row→ρ q=some ri→ri.nl=false→ri.b<w.heap.size:=λq row ri hq h3 hn=>by
    obtain⟨ri',k1,_,k3⟩:=hr.heap.rows q row hq;rw[h3]at k1;cases k1;exact(k3 hn).2
   have hstρ:∀q row,st.h q=some row→∃ri,ρ q=some ri:=λq row hq=>by
    obtain⟨ri,k1,_⟩:=hr.heap.rows q row hq;exact⟨ri,k1⟩
   have yX:∀b,rA outer ρn VW b→rA outer ρ st.h b∨w.heap.size≤b:=by
    rintro b (hb | ⟨q,row,ri,f1,f2,f3,f4,f5⟩)
    ·exact .inl (.inl hb)
    ·rcases oW q row f1 with h3 | ⟨_,h3⟩
     ·obtain⟨ri',t,l,_,_,k1,_,k2⟩:=HW q row h3;rw[hρX q row ri' h3 k1]at f3;cases f3;exact .inr (by rw[←f5];exact(k2 f4).1)
     ·obtain⟨ri',k1⟩:=hstρ q row h3;rw[hρo q ri' k1]at f3;cases f3;exact .inl (.inr ⟨q,row,_,h3,f2,k1,f4,f5⟩)
   have keepAll:∀u d,VR w ρ (rA outer ρ st.h) u d→VR w1 ρn (rA outer ρn VW) u d:=λu d hu=>
    hu.mono hρo (λb _ MV=>hX.old b MV (KW b)) yX
   have ZZ:iB w0 outer own ρn VW w1:=by
    refine⟨hg.heap.wx,hg.heap.old,hg.heap.outLt,λq row hq=>?_,λq q' row row' qi qi' h1 h2 h3 h4 h5 h6 h7=>?_⟩
    ·rcases oW q row hq with h3 | ⟨_,h3⟩
     ·obtain⟨ri,t,l,rfl,ht,k1,k2,k3⟩:=HW q row h3;refine⟨ri,hρX q _ ri h3 k1,⟨k2.1,?_⟩,λhn=>⟨⟨λho=>?_,λ_=> .inl (Nat.le_trans hr.heap.wx.size (k3 hn).1)⟩,(k3 hn).2⟩⟩
      ·rcases k2.2 with h4 | ⟨e1,ee,e2,e3,e4,e5⟩
       ·exact .inl h4
       ·refine .inr ⟨e1,ee,e2,e3,e4,λa ha j hj=>?_⟩;obtain⟨u,f1,f2⟩:=e5 a ha j hj;exact⟨u,f1,f2.noRef (λS=>wM S t _ j) ρn |>.sc (zuM ht _ j) λ_ _ h=>h⟩
      ·have:=(hr.heap.outLt _ ho).1;have:=hr.heap.wx.size;have:=(k3 hn).1;omega
     ·obtain⟨ri,k1,k2,k3⟩:=hr.heap.rows q row h3;exact⟨ri,hρo q ri k1,k2.keep (λhn=>hX.old _ (k3 hn).2 (KW _)) keepAll,λhn=>⟨(k3 hn).1,Nat.lt_of_lt_of_le (k3 hn).2 hX.wx.size⟩⟩
    ·rcases oW q row h1 with k1 | ⟨_,k1⟩<;>rcases oW q' row' h2 with k2 | ⟨_,k2⟩
     ·obtain⟨r1,_,_,_,_,e1,_⟩:=HW q row k1;obtain⟨r2,_,_,_,_,e2,_⟩:=HW q' row' k2;rw[hρX q row r1 k1 e1]at h3;cases h3;rw[hρX q' row' r2 k2 e2]at h4;cases h4;exact hX.inj q q' row row' _ _ k1 k2 e1 e2 h5 h6 h7
     ·obtain⟨r1,_,_,_,_,e1,_,e2⟩:=HW q row k1;obtain⟨r2,e3⟩:=hstρ q' row' k2;rw[hρX q row r1 k1 e1]at h3;cases h3;rw[hρo q' r2 e3]at h4;cases h4;have h8:=(e2 h5).1;have h9:=P2 q' row' _ k2 e3 h6;omega
     ·obtain⟨r1,_,_,_,_,e1,_,e2⟩:=HW q' row' k2;obtain⟨r2,e3⟩:=hstρ q row k1;rw[hρX q' row' r1 k2 e1]at h4;cases h4;rw[hρo q r2 e3]at h3;cases h3;have h8:=(e2 h6).1;have h9:=P2 q row _ k1 e3 h5;omega
     ·obtain⟨r1,e1⟩:=hstρ q row k1;obtain⟨r2,e2⟩:=hstρ q' row' k2;rw[hρo q r1 e1]at h3;cases h3;rw[hρo q' r2 e2]at h4;cases h4;exact hr.heap.inj q q' row row' _ _ k1 k2 e1 e2 h5 h6 h7
   have QV:VA C w0 outer own ρn {st with h:=VW} a w1:=hr.turn ZZ keepAll;refine⟨ρn,(QV.put (hV.sc jX λq ri hq=>?_) hk).1,λq hq=>?_,hρo⟩
   ·have:i≤q∧q<i+128:=by
     rcases W3 q (by rw[hq];simp)with h | h
     ·exact h
     ·exact absurd h (by
       have:bs=[]:=by
        cases bs with
        | nil=>rfl
        | cons b bs'=>
         obtain⟨q',LX⟩:=c7.surj b (by simp);obtain⟨row,HV⟩:=c7.found LX;have:EA ci.ks 0 as'=λ_=>none:=hE0;rw[this]at HV;cases HV
       rw[this];simp)
    simp only[ρn,this,and_self,if_true];exact hq
   ·simp only[ρn,hq,if_false]
  intro next Q hn;unfold Oper.wp;rw[UV]
  rcases G with⟨G1,G2⟩ | ⟨v,w1,G1,G2⟩
  ·rw[G1,Oper.upon_enter];refine Calls.mono' G2 ?_;rintro e w1 ⟨v,rfl,h3⟩;exact hn _ _ (fin0 v w1 h3)
  ·rw[G1,Oper.upon_value];exact hn _ _ (fin0 v w1 G2)
 simp only[fL,fZ,cond_false]at hk
 -- rows that stay the caller's own
 have S4:∀hb,(bif ci.pb then h' else match DE ci.own 0 (ci.eR r)with | some m=>oL m st.h h' | none=>h')=hb→
   ∀q row,hb q=some row→h' q=some row∨(∃t l m c,ci.pb=false∧DE ci.own 0 (ci.eR r)=some m∧m≤t.rank∧row=⟨.arr t l, .own⟩∧st.h q=some row∧h' q=some ⟨c, .ro⟩):=by
  rintro hb rfl q row hq;cases hp:ci.pb
  ·rw[hp,cond_false]at hq;cases hm:DE ci.own 0 (ci.eR r)with
   | none=>rw[hm]at hq;exact .inl hq
   | some m=>
    rw[hm]at hq;have hq:oL m st.h h' q=some row:=hq;unfold oL at hq;split at hq
    ·rename_i t l c h3 h4;cases X3:Nat.ble m t.rank
     ·rw[X3,cond_false]at hq;exact .inl (by rw[h4];exact hq)
     ·rw[X3,cond_true]at hq;cases hq;exact .inr ⟨t,l,m,c,rfl,rfl,Nat.le_of_ble_eq_true X3,rfl,h3,h4⟩
    ·exact .inl hq
  ·rw[hp,cond_true]at hq;exact .inl hq
 generalize hbe:(bif ci.pb then h' else match DE ci.own 0 (ci.eR r)with | some m=>oL m st.h h' | none=>h')=hb at hk
 replace S4:=S4 hb hbe
 clear hbe
 -- behind the call
 have RB:∀v w1,(∃ρx,iB w outc ownc ρx (aE ci as' bs i (ci.eR r)) w1∧
   VR w1 ρx (rA outc ρx (aE ci as' bs i (ci.eR r))) v (gJ ci i (ci.eR r))∧
   (∀q b,kB ci.ks 0 bs q=some b→ρx b=ρc q)∧(∀r,ρx r≠none→(i≤r∧r<i+128)∨r∈bs))→wC C w0 outer own i ρ st' (a.put o.dst v) w1:=by
  rintro v w1 ⟨ρx,hX,hV,WW,W3⟩;generalize z8:aE ci as' bs i (ci.eR r)=X at hX hV
  have hrk:∀m,ci.pb=false→DE ci.own 0 (ci.eR r)=some m→(∀q row,X q=some row→zdf m row.c)∧Rk m (gJ ci i (ci.eR r)):=λm hp hm=>by
   have:=zuy (as:=as') (bs:=bs) (base:=i) hm hp;rw[z8]at this;exact this
  have R4:∀q,dH ci as' bs i (ci.eR r) hb q=match X q with | some x=>some x | none=>hb q:=λq=>by
   rw[sO,z8]
   all_goals (cases X q<;>rfl)
  generalize pY:dH ci as' bs i (ci.eR r) hb=VW at hk R4;let ρn:Nat→Option RI:=λq=>if i≤q∧q<i+128 then ρx q else ρ q
  have hρbs:∀b∈bs,ρx b=ρ b:=λb hb=>by
   obtain⟨q,hq⟩:=c7.surj b hb;rw[WW q b hq,hρcbox q b hq (YZ q b hq),LG b (M9 b hb)]
  have hρx:∀q,ρx q≠none→ρn q=ρx q:=λq hq=>by
   by_cases tW:i≤q∧q<i+128
   ·simp only[ρn,tW,and_self,if_true]
   ·simp only[ρn,tW,if_false]
    rcases W3 q hq with h3 | h3
    ·exact absurd h3 tW
    ·exact(hρbs q h3).symm
  have hρo:∀q,ρ q≠none→ρn q=ρ q:=λq hq=>by
   have:¬(i≤q∧q<i+128):=aY q hq;simp only[ρn,this,if_false]
  have hρ':∀q ri,ρ q≠none→ρ' q=some ri→ρ q=some ri:=λq ri hq h3=>by
   cases h4:ρ q with
   | none=>exact absurd h4 hq
   | some ri'=>have:=c5 _ _ h4;rw[h3]at this;rw[this]
  have oW:∀q row,VW q=some row→X q=some row∨(X q=none∧hb q=some row):=λq row hq=>by
   rw[R4]at hq;cases hx:X q with
   | some y=>rw[hx]at hq;exact .inl hq
   | none=>rw[hx]at hq;exact .inr ⟨rfl,hq⟩
  have hh'ρ:∀q row,h' q=some row→ρ q≠none:=λq row hq=>by
   obtain⟨row',h3,_⟩:=VV q row hq;exact hsthρ q row' h3
  have hbρ:∀q row,hb q=some row→ρ q≠none:=λq row hq=>by
   rcases S4 q row hq with h3 | ⟨_,_,_,_,_,_,_,_,_,h3⟩
   ·exact hh'ρ q row h3
   ·exact hh'ρ q _ h3
  have hXρ:∀q row,X q=some row→ρn q=ρx q:=λq row hq=>by
   obtain⟨ri,h3,_⟩:=hX.rows q row hq;exact hρx q (by rw[h3];simp)
  -- the AC of rows that stay the caller's own
  let Rest:Nat→Prop:=λb=>∃q t l m c ri,ci.pb=false∧DE ci.own 0 (ci.eR r)=some m∧m≤t.rank∧st.h q=some ⟨.arr t l, .own⟩∧h' q=some ⟨c, .ro⟩∧ρ q=some ri∧ri.nl=false∧ri.b=b
  have yX:∀b,rA outer ρn VW b→rA outc ρx X b∨Rest b:=by
   rintro b (qX | ⟨q,row,ri,f1,f2,f3,f4,f5⟩)
   ·exact .inl (.inl (.inl qX))
   ·rcases oW q row f1 with h3 | ⟨_,h3⟩
    ·rw[hXρ q row h3]at f3;exact .inl (.inr ⟨q,row,ri,h3,f2,f3,f4,f5⟩)
    ·rw[hρo q (hbρ q row h3)]at f3
     rcases S4 q row h3 with h3 | ⟨t,l,m,c,e1,e2,e3,rfl,e5,e6⟩
     ·exact .inl (.inl (.inr ⟨q,row,ri,h3,f2,c5 _ _ f3,f4,f5⟩))
     ·exact .inr ⟨q,t,l,m,c,ri,e1,e2,e3,e5,e6,f3,f4,f5⟩
  have gZ:∀b,ownc b→rA outer ρ' g' b:=λb hb=>by
   obtain⟨q,row,ri,e1,e2,e3,e4,e5,e6⟩:=U3 b hb;exact .inr ⟨q,row,ri,e1,by rw[e2];rfl,e4,e5,e6⟩
  have iZ:∀b,rA outc ρx X b→rA outer ρ' g' b∨w.heap.size≤b:=by
   rintro b (hb | ⟨q,row,ri,f1,f2,f3,f4,f5⟩)
   ·exact .inl (hb.mono λq row h1 h2=>⟨row,c2 q row h1,h2⟩)
   ·obtain⟨ri',k1,_,k2⟩:=hX.rows q row f1;rw[f3]at k1;cases k1
    rcases(k2 f4).1.2 f2 with h3 | h3
    ·exact .inr (by omega)
    ·exact .inl (by rw[←f5];exact gZ _ h3)
  -- what the arguments' taking keeps clear of was kept clear of before
  have Q2:∀b,PS w b→rA outer ρ' g' b→rA outer ρ st.h b:=by
   rintro b ⟨o,u,hu⟩ qX;refine Classical.byContradiction λhn=>?_
   have h1:VR w ρ (rA outer ρ st.h) (.pointer (some (at_ b (o+0)))) (.fp [.undef] 0):=
    .fp [.undef] 0 b o (fun _ => u) (by simp) hn (fun j hj => by have : j = 0 := by simpa using hj
                                                                 subst this;exact hu) λj hj=>by
     have:j=0:=by simpa using hj
     subst this;exact .undef _
   have h2:=c6 _ _ h1;generalize hp:Value.pointer (some (at_ b (o+0)))=pv at h2;cases h2 with
   | fp _ _ b2 o2 u2 _ J1 hu2 _=>
    have:b=b2:=by injection hp with hp;injection hp with hp;exact congrArg Addr.block hp
    subst this;exact J1 qX
  have R2:∀b,Rest b→rA outer ρ st.h b∧b<w.heap.size∧¬ownc b∧jA.base≤b∧∃t m,AF w b t∧ci.pb=false∧DE ci.own 0 (ci.eR r)=some m∧m≤t.rank:=by
   rintro b ⟨q,t,l,m,c,ri,e1,e2,e3,e4,e5,e6,e7,e8⟩;obtain⟨ri2,k1,k2,k3⟩:=hr.heap.rows q _ e4;rw[e6]at k1;cases k1;obtain⟨ri3,n1,n2⟩:=OV q _ e5;have:=c5 _ _ e6;rw[n1]at this;cases this;subst e8;refine⟨.inr ⟨q,_,ri,e4,rfl,e6,e7,rfl⟩,(k3 e7).2,(n2 e7).1,?_,t,m,?_,e1,e2,e3⟩
   ·rcases(k3 e7).1.2 rfl with h | h
    ·exact Nat.le_trans hr.glob.base h
    ·exact Nat.le_of_not_lt λh'=>hr.glob.low _ h' h
   ·rcases k2.2 with h | ⟨_,he,_⟩
    ·rw[e7]at h;cases h.1
    ·exact he
  have keepAll:∀u d,VR w ρ (rA outer ρ st.h) u d→VR w1 ρn (rA outer ρn VW) u d:=λu d hu=>
   hu.keep2 hu.refs (λq ri hq h3=>by rw[hρo q hq];exact h3)
    (fun b hb hc=>by
     obtain⟨_,_,HY⟩:=hc;exact hX.old b (AU HY) λho=>hb (Q2 b ⟨_,_,HY⟩ (gZ b ho)))
    λb hc qX=>by
     obtain⟨_,_,HY⟩:=id hc;have:=AU HY
     rcases yX b qX with h | h
     ·rcases iZ b h with h | h
      ·exact Q2 b hc h
      ·omega
     ·exact(R2 b h).1
  have keepX:∀u d,(∀m,ci.pb=false→DE ci.own 0 (ci.eR r)=some m→Rk m d)→VR w1 ρx (rA outc ρx X) u d→VR w1 ρn (rA outer ρn VW) u d:=λu d hk hu=>by
   have h0:VR w1 ρx (rA outer ρn VW) u d:=by
    by_cases hm:∃m,ci.pb=false∧DE ci.own 0 (ci.eR r)=some m
    ·obtain⟨m,hp,hm⟩:=hm;refine hu.widen (hk m hp hm) λb qX=>?_
     rcases yX b qX with h | h
     ·exact .inl h
     ·obtain⟨_,h1,h2,h3,t,m',h4,_,h5,h6⟩:=R2 b h;rw[hm]at h5;cases h5;exact .inr ⟨h3,t,h4.same (hX.old b h1 h2),h6⟩
    ·refine hu.mono (λ_ _ h=>h) (λ_ _ _=>rfl) λb qX=>?_
     rcases yX b qX with h | ⟨_,_,_,m,_,_,h1,h2,_⟩
     ·exact .inl h
     ·exact absurd ⟨m,h1,h2⟩ hm
   exact h0.keep h0.refs (λq ri hq h3=>by rw[hρx q hq];exact h3) (λ_ _ _=>rfl) λb hb=> .inl hb
  have keepRow:∀q row ri,X q=some row→QD w1 ρx (rA outc ρx X) ri row.c→QD w1 ρn (rA outer ρn VW) ri row.c:=λq row ri hq PV=>by
   by_cases hm:∃m,ci.pb=false∧DE ci.own 0 (ci.eR r)=some m
   ·obtain⟨m,hp,hm⟩:=hm;exact PV.keepR ((hrk m hp hm).1 q row hq) (λ_=>rfl) λu d hd hu=>keepX u d (λm' _ hm'=>by rw[hm]at hm';cases hm';exact hd) hu
   ·exact PV.keep (λ_=>rfl) λu d hu=>keepX u d (λm hp h=>absurd ⟨m,hp,h⟩ hm) hu
  have HW:∀q row,X q=some row→∃ri,ρn q=some ri∧ρx q=some ri∧QD w1 ρx (rA outc ρx X) ri row.c∧(ri.nl=false→(w.heap.size≤ri.b∨ownc ri.b)∧ri.b<w1.heap.size):=λq row hq=>by
   obtain⟨ri,k1,k2,k3⟩:=hX.rows q row hq;exact⟨ri,by rw[hXρ q row hq];exact k1,k1,k2,λhn=>⟨(k3 hn).1.2 (by rw[zfs jW (by rw[←z8]at hq;exact hq)];rfl),(k3 hn).2⟩⟩
  have qY:∀q row,hb q=some row→∃ri,ρn q=some ri∧ρ q=some ri∧ρ' q=some ri∧QD w ρ (rA outer ρ st.h) ri row.c∧(ri.nl=false→¬ownc ri.b∧ri.b<w.heap.size∧(¬outer ri.b∧(row.m.isRo=false→w0.heap.size≤ri.b∨own ri.b))):=λq row hq=>by
   rcases S4 q row hq with hq | ⟨t,l,m,c,e1,e2,e3,rfl,e5,e6⟩
   ·obtain⟨row',h3,h4,_⟩:=VV q row hq;obtain⟨ri,k1,k2,_⟩:=hr.heap.rows q row' h3;obtain⟨ri',k3,k4⟩:=OV q row hq;have:=c5 _ _ k1;rw[k3]at this;cases this;exact⟨ri,by rw[hρo q (hh'ρ q row hq)];exact k1,k1,k3,by rw[←h4];exact k2,k4⟩
   ·obtain⟨ri,k1,k2,k5⟩:=hr.heap.rows q _ e5;obtain⟨ri',k3,k4⟩:=OV q _ e6;have:=c5 _ _ k1;rw[k3]at this;cases this;exact⟨ri,by rw[hρo q (hh'ρ q _ e6)];exact k1,k1,k3,k2,λhn=>⟨(k4 hn).1,(k4 hn).2.1,(k5 hn).1⟩⟩
  have hbg:∀q row,hb q=some row→∃row',g' q=some row':=λq row hq=>by
   rcases S4 q row hq with hq | ⟨t,l,m,c,e1,e2,e3,rfl,e5,e6⟩
   ·exact⟨_,c2 q row hq⟩
   ·exact⟨_,c2 q _ e6⟩
  have ZZ:iB w0 outer own ρn VW w1:=by
   refine⟨hr.heap.wx.trans hX.wx,λb hb ho=>?_,hr.heap.outLt,λq row hq=>?_,λq q' row row' qi qi' h1 h2 h3 h4 h5 h6 h7=>?_⟩
   ·rw[←hr.heap.old b hb ho];refine hX.old b (Nat.lt_of_lt_of_le hb hr.heap.wx.size) λP9=>?_
    rcases(xX b P9).2 with h3 | h3
    ·omega
    ·exact ho h3
   ·rcases oW q row hq with h3 | ⟨_,h3⟩
    ·obtain⟨ri,k1,k2,k3,k4⟩:=HW q row h3;refine⟨ri,k1,keepRow q row ri h3 k3,λhn=>⟨?_,(k4 hn).2⟩⟩
     have hx:w0.heap.size≤ri.b∨own ri.b:=by
      rcases(k4 hn).1 with h4 | h4
      ·exact .inl (Nat.le_trans hr.heap.wx.size h4)
      ·exact(xX _ h4).2
     refine⟨λho=>?_,λ_=>hx⟩;obtain⟨g1,g2⟩:=hr.heap.outLt _ ho
     rcases hx with hx | hx
     ·omega
     ·exact g2 hx
    ·obtain⟨ri,k1,k2,k3,k4,k5⟩:=qY q row h3;refine⟨ri,k1,k4.keep (λhn=>hX.old _ (k5 hn).2.1 (k5 hn).1) keepAll,λhn=>⟨(k5 hn).2.2,Nat.lt_of_lt_of_le (k5 hn).2.1 hX.wx.size⟩⟩
   ·rcases oW q row h1 with k1 | ⟨_,k1⟩<;>rcases oW q' row' h2 with k2 | ⟨_,k2⟩
    ·obtain⟨r1,e1,e2,_⟩:=HW q row k1;obtain⟨r2,e3,e4,_⟩:=HW q' row' k2;rw[h3]at e1;cases e1;rw[h4]at e3;cases e3;exact hX.inj q q' row row' qi qi' k1 k2 e2 e4 h5 h6 h7
    ·obtain⟨r1,e1,e2,_,e5⟩:=HW q row k1;obtain⟨r2,e3,e4,e6,_,e7⟩:=qY q' row' k2;rw[h3]at e1;cases e1;rw[h4]at e3;cases e3
     rcases(e5 h5).1 with h8 | h8
     ·have:=(e7 h6).2.1;omega
     ·rw[h7]at h8;exact absurd h8 (e7 h6).1
    ·obtain⟨r1,e1,e2,_,e5⟩:=HW q' row' k2;obtain⟨r2,e3,e4,e6,_,e7⟩:=qY q row k1;rw[h4]at e1;cases e1;rw[h3]at e3;cases e3
     rcases(e5 h6).1 with h8 | h8
     ·have:=(e7 h5).2.1;omega
     ·rw[←h7]at h8;exact absurd h8 (e7 h5).1
    ·obtain⟨r1,e1,e2,e2',_⟩:=qY q row k1;obtain⟨r2,e3,e4,e4',_⟩:=qY q' row' k2;rw[h3]at e1;cases e1;rw[h4]at e3;cases e3;obtain⟨y1,y2⟩:=hbg q row k1;obtain⟨y3,y4⟩:=hbg q' row' k2;exact c1.inj q q' y1 y3 qi qi' y2 y4 e2' e4' h5 h6 h7
  have QV:VA C w0 outer own ρn {st with h:=VW} a w1:=hr.turn ZZ keepAll;refine⟨ρn,(QV.put (keepX _ _ (λm hp hm=>(hrk m hp hm).2) hV) hk).1,λq hq=>?_,λq ri hq=>?_⟩
  ·simp only[ρn,hq,if_false]
  ·rw[hρo q (by rw[hq];simp)];exact hq
 intro next Q hn;unfold Oper.wp;rw[UV]
 rcases G with⟨G1,G2⟩ | ⟨v,w1,G1,G2⟩
 ·rw[G1,Oper.upon_enter];refine Calls.mono' G2 ?_;rintro e w1 ⟨v,rfl,h3⟩;exact hn _ _ (RB v w1 h3)
 ·rw[G1,Oper.upon_value];exact hn _ _ (RB v w1 G2)
omit hr in
omit [jA]in
def ztW{ci:WA}{as:List V}{bs:List Nat}{i:Nat}{rs:List V}{h h':Nat→Option sA}(hl:EF h h'):EF (dH ci as bs i rs h) (dH ci as bs i rs h'):=λr row hr=>by
 rw[sO]at hr⊢;split at hr
 ·rename_i x hx;cases hr;exact⟨_,rfl,rfl,id⟩
 ·exact hl r row hr
omit hr in
omit [jA]in
def zu3{dst:Option Nat}{st st':St}{v:V}{h:Nat→Option sA}(hk:QA C dst st v some=some st'):QA C dst {st with h:=h} v some=some {st' with h:=h}:=by
 cases dst with
 | none=>simp only[QA,Option.some.injEq]at hk⊢;subst hk;rfl
 | some d=>
  simp only[QA]at hk⊢;cases hb:Nat.blt d C.nt
  ·simp[hb]at hk
  ·simp only[hb,MC,Option.some.injEq]at hk⊢;subst hk;rfl
omit hr in
omit [jA]in
def zrb{dst:Option Nat}{st st':St}{v:V}(hk:QA C dst st v some=some st'):st'.h=st.h:=by
 cases dst with
 | none=>simp only[QA,Option.some.injEq]at hk;subst hk;rfl
 | some d=>
  simp only[QA]at hk;cases hb:Nat.blt d C.nt
  ·simp[hb]at hk
  ·simp only[hb,MC,Option.some.injEq]at hk;subst hk;rfl
def zse(hΦ:XF C)(OX:∃N,∀r,N≤r→ρ r=none)(xW:∀q,q<128→ρ (i+q)=none)(f:Nat)(args:Array Value)(as:List V)(NV:args.size=as.length)
  (nW:∀j (hj:j<as.length),VR w ρ (rA outer ρ st.h) (args.getD j undef) as[j]) (UV:(execOp a.eval o).run C.P w=(callFunc f args).run C.P w)
  (hk:mK C i o.dst st f as some=some st'):BC C.P o a w (wC C w0 outer own i ρ st'):=by
 unfold mK at hk;split at hk
 ·cases hk
 rename_i ci Y3
 have v8:pB C.P f ci C.g:=by
  cases MV:Nat.blt f 1048576
  ·simp[MV]at Y3
  ·simp only[MV,cond_true]at Y3;have:=hΦ.ok _ _ Y3;rwa [zq4 f as (by simpa using MV)]at this
 split at hk
 ·split at hk
  ·cases hk
  rename_i as' h' bs yZ;obtain⟨x,eZ,hk⟩:=Option.bind_eq_some_iff.1 ((GS _ _).symm.trans hk);obtain⟨r,hF,hk⟩:=Option.bind_eq_some_iff.1 hk;cases jW:(Nat.ble (ci.eR r).length 128&&FM ci (ci.eR r))
  case false=>simp[jW]at hk
  simp only[jW,MC]at hk;simp only[Bool.and_eq_true]at jW;have DW:VA C w0 outer own ρ {st with h:=BO st.h} a w:=hr.less (zi4 _)
  have D:=zjW (o:=o) DW OX xW f args as NV (λj hj=>(hr.heap.less (zi4 st.h)).2 _ _ (nW j hj)) UV v8 yZ eZ hF (Nat.le_of_ble_eq_true jW.1)
   (st':= { st' with h:=dH ci as' bs i (ci.eR r) (BO st.h) }) (by
    rw[fL,jW.2,cond_true];exact zu3 (st:={st with h:=dH ci as' bs i (ci.eR r) st.h}) hk)
  refine λnext Q hn=>D next Q λa' w' ⟨ρ',h1,h2,h3⟩=>hn a' w' ⟨ρ',?_,h2,h3⟩;have e:st'.h=dH ci as' bs i (ci.eR r) st.h:=zrb hk;have:=h1.less (h':=st'.h) (by rw[e];exact ztW (zqV _));exact this
 ·rename_i as' h' bs yZ;obtain⟨x,eZ,hk⟩:=Option.bind_eq_some_iff.1 ((GS _ _).symm.trans hk);obtain⟨r,hF,hk⟩:=Option.bind_eq_some_iff.1 hk;cases jW:Nat.ble (ci.eR r).length 128
  case false=>simp[jW]at hk
  simp only[jW,MC]at hk;exact zjW hr OX xW f args as NV nW UV v8 yZ eZ hF (Nat.le_of_ble_eq_true jW) hk
end
end Go.D
namespace Go.D
variable [jA]
section
variable {C:Cx} {w0:World} {outer own:Nat→Prop} {ρ:Nat→Option RI} {st st':St} {a:Act} {w:World} {h:Nat→Option sA}
variable {o:Oper} {i:Nat} (hr:VA C w0 outer own ρ st a w)
include hr
def ztZ(hΦ:XF C)(OX:∃N,∀r,N≤r→ρ r=none)(xW:∀q,q<128→ρ (i+q)=none)(x:Operand)(args:Array Operand)(argTypes:Array TypeId)
  (ho:o.op= .call {callee:= .value x,args,argTypes}) (hk:gB C i o st some=some st'):BC C.P o a w (wC C w0 outer own i ρ st'):=by
 simp only[gB,ho]at hk;split at hk
 case h_2=>cases hk
 rename_i f cs WV;have hx:=hr.opd x;rw[WV]at hx;generalize hv:a.eval x=v at hx;cases hx with
 | fn _ _ caps hs hvc=>
 refine zse hr hΦ OX xW f (args.map a.eval++caps) _ (by simp[hs]) (λj hj=>?_) ?_ hk
 ·by_cases PW:j<args.size
  ·rw[List.getElem_append_left (by simpa using PW),Array.getD_eq_getD_getElem?,Array.getElem?_append_left (by simpa using PW)];simp only[Array.getElem?_map,Array.getElem?_eq_getElem PW,Option.map_some,Option.getD_some,List.getElem_map,Array.getElem_toList];exact hr.opd _
  ·have JW:j - args.size<cs.length:=by simp at hj;omega
   rw[List.getElem_append_right (by simp;omega),Array.getD_eq_getD_getElem?,Array.getElem?_append_right (by simp;omega)];have:=hvc (j - args.size) JW;rw[Array.getD_eq_getD_getElem?]at this;simpa using this
 ·simp[execOp,ho,resolve,Deferred.ofValue,hv,invoke]
def zrT(c x y:Operand)(ho:o.op= .pick c x y)(t:Bool)(hc:opd st.s c= .bool t)(hk:QA C o.dst st (cond t (opd st.s x) (opd st.s y)) some=some st'):
  BC C.P o a w (wC C w0 outer own i ρ st'):=by
 have h1:=hr.opd c;rw[hc]at h1;generalize U8:a.eval c=vc at h1;cases h1;refine cC (v:=if t then a.eval x else a.eval y) (w':=w) ?_ (hr.after ?_ hk)
 ·cases t<;>simp[execOp,ho,U8,asBool]
 ·cases t
  ·exact hr.opd y
  ·exact hr.opd x
def zky(hC:IF C)(hΦ:XF C)(OX:∃N,∀r,N≤r→ρ r=none)(xW:∀q,q<128→ρ (i+q)=none)(hk:gB C i o st some=some st'):
  BC C.P o a w (wC C w0 outer own i ρ st'):=by
 have hi:ρ i=none:=xW 0 (by omega);have none_of:∀{p:Prop},gB C i o st some=none→p:=λh=>by rw[h]at hk;cases hk
 cases ho:o.op with
 | move x=>exact zj5 hr x (.inl ho) (by simpa only[gB,ho]using hk)
 | assign x=>exact zj5 hr x (.inr ho) (by simpa only[gB,ho]using hk)
 | pick c x y=>
  simp only[gB,ho]at hk;split at hk
  case h_2=>cases hk
  rename_i t hc;split at hk
  ·rename_i p q hx hy;exact ztp hr c x y ho t p q hc hx hy hk
  ·exact zrT hr c x y ho t hc hk
 | alloc e=>
  simp only[gB,ho]at hk;split at hk
  case h_2=>cases hk
  rename_i cs hz;exact zs1 hr e ho hi cs hz hk
 | box e x=>
  simp only[gB,ho]at hk;cases hb:XG (cellsOf (opd st.s x))
  case false=>simp[hb]at hk
  simp only[hb,MC]at hk;exact zuB hr e x ho hi hb hk
 | build t parts=>exact zr8 hr t parts ho hk
 | buildSlice t len parts=>exact zoP hr hC t len parts ho hi hk
 | load t x=>exact zuc hr t x ho hk
 | store t x y=>exact zss hr t x y ho hk
 | nilCheck x=>exact zpS hr x ho hk
 | binOp op t x y t'=>exact zs3 hr op t t' x y ho hk
 | unOp op t x=>exact zuf hr op t x ho hk
 | convert s d x=>exact zqG hr hC s d x ho hi hk
 | makeFunc fn first captured=>
  cases fn with
  | func f=>exact zpw hr f first captured ho hk
  | _=>exact none_of (by simp only[gB,ho])
 | makeSlice t x y=>exact zo4 hr hC t x y ho hi hk
 | slice t x lo hi mx=>exact zr4 hr hC t x lo hi mx ho hk
 | fieldAddr t x f=>exact zpg hr t x f ho hk
 | field t x f=>exact zsg hr t x f ho hk
 | indexAddr t x y=>exact zpp hr hC t x y ho hk
 | index t x y=>exact zso hr t x y ho hk
 | extract x ix=>exact zqt hr x ix ho hk
 | call c=>
  obtain⟨callee,args,argTypes⟩:=c;cases callee with
  | value x=>exact ztZ hr hΦ OX xW x args argTypes ho hk
  | invoke r m=>exact none_of (by simp only[gB,ho])
  | builtin b=>
   cases b with
   | len=>exact zuA hr args argTypes ho hk
   | append=>exact zq3 hr hC args argTypes ho hi hk
   | min=>exact zuY hr args argTypes ho hk
   | max=>exact zu7 hr args argTypes ho hk
   | _=>exact none_of (by simp only[gB,ho])
 | _=>exact none_of (by simp only[gB,ho])
end
end Go.D
namespace Go.D
variable [jA]
section
variable {C:Cx} {R:Type} {st:St} {K:St→Option R}
omit [jA]in
def mS(dst:Option Nat)(st:St)(v:V)(K:St→Option R):QA C dst st v K=(QA C dst st v some).bind K:=by
 cases dst with
 | none=>rfl
 | some d=>simp only[QA];cases Nat.blt d C.nt<;>rfl
omit [jA]in
def zsN(dst:Option Nat)(st:St)(r:Nat)(c:iF)(v:V)(K:St→Option R):jF C dst st r c v K=(jF C dst st r c v some).bind K:=mS _ _ _ _
omit [jA]in
def zoG{K1:V→Option St}{K2:V→Option R}(h:∀v,K2 v=(K1 v).bind K)(ag:Bool)(n:Nat)(cs:List V)(off:Nat):eG ag n cs off K2=(eG ag n cs off K1).bind K:=by
 cases ag<;>simp only[eG,MC,tS]
 ·grind
 ·cases Nat.ble (off+n) cs.length
  ·rfl
  ·exact h _
omit [jA]in
def zsH{K1:V→Option St}{K2:V→Option R}(h:∀v,K2 v=(K1 v).bind K)(op:BinOp)(x y:V):LM op x y K2=(LM op x y K1).bind K:=by
 have hb:∀(b:Bool) (v:V),(bif b then none else K2 v)=(bif b then none else K1 v:Option St).bind K:=λb v=>by cases b;exact h v;rfl
 have qX:∀(b:Bool) (v:V),(bif b then K2 v else none)=(bif b then K1 v else none:Option St).bind K:=λb v=>by cases b;rfl;exact h v
 unfold LM
 grind
omit [jA]in
def zio{f1:Nat→Option St}{f2:Nat→Option R}(h:∀k,f2 k=(f1 k).bind K)(i:Int):∀(n k:Nat),UI f2 i k n=(UI f1 i k n).bind K
 | 0,k=>rfl
 | n+1,k=>by
  simp only[UI];cases i==(k:Int)
  ·exact zio h i n (k+1)
  ·exact h k
omit [jA]in
def zrZ{K1:V→Option St}{K2:V→Option R}(h:∀v,K2 v=(K1 v).bind K)(d:TypeDesc)(tk:TypeId→TN→Bool)(hp:Nat→Option sA)(x:V)(lo hi:Option V):
  CO d tk hp x lo hi K2=(CO d tk hp x lo hi K1).bind K:=by
 have qX:∀(b:Bool) (v:V),(bif b then K2 v else none)=(bif b then K1 v else none:Option St).bind K:=λb v=>by cases b;rfl;exact h v
 unfold CO;split
 ·rfl
 split
 case h_2=>rfl
 rename_i len _ _ _ a b _ _;cases decide (0≤a)&&decide (a≤b)&&decide (b≤(len:Int))
 ·rfl
 simp only[cond_true];split
 ·exact qX _ _
 ·exact h _
 ·split
  ·exact qX _ _
  ·rfl
 ·exact qX _ _
 ·rfl
omit [jA]in
def zeT{α:Type}(x:Option α){f1:α→Option St}{f2:α→Option R}(h:∀v,f2 v=(f1 v).bind K):Option.bind x f2=(Option.bind x f1).bind K:=by
 cases x with
 | none=>rfl
 | some v=>exact h v
omit [jA]in
def zs6(b:Bool){x1:Option St}{x2:Option R}(h:x2=x1.bind K):(bif b then x2 else none)=(bif b then x1 else none:Option St).bind K:=by
 grind
omit [jA]in
def zrK(b:Bool){x1:Option St}{x2:Option R}(h:x2=x1.bind K):(bif b then none else x2)=(bif b then none else x1:Option St).bind K:=by
 grind
omit [jA]in
def zfV(b:Bool){x1:Option St}{x2:Option R}(h:x2=x1.bind K):gd b x2 none=(gd b x1 none:Option St).bind K:=by
 cases b
 ·rfl
 ·exact h
omit [jA]in
def zto(b:Bool){x1:Option St}{x2:Option R}(h:x2=x1.bind K):gd b none x2=(gd b none x1:Option St).bind K:=by
 cases b
 ·exact h
 ·rfl
omit [jA]in
def zfF{α:Type}(x:Option α){f1:α→Option St}{f2:α→Option R}(h:∀v,f2 v=(f1 v).bind K):rK x f2=(rK x f1).bind K:=by
 cases x with
 | none=>rfl
 | some v=>exact h v
omit [jA]in
def zrv(i:Nat)(dst:Option Nat)(f:Nat)(as:List V):mK C i dst st f as K=(mK C i dst st f as some).bind K:=by
 unfold mK;split
 ·rfl
 split
 ·split
  ·rfl
  exact zfF _ λ_=>zeT _ λ_=>zfV _ (mS _ _ _ _)
 exact zfF _ λ_=>zeT _ λ_=>zfV _ (mS _ _ _ _)
omit [jA]in
def XR(i:Nat)(o:Oper):gB C i o st K=(gB C i o st some).bind K:=by
 unfold gB
 repeat' first
  | rfl
  | exact mS _ _ _ _
  | exact zsN _ _ _ _ _ _
  | exact zrv _ _ _ _
  | refine zoG (λ_=>?_) _ _ _ _
  | refine zsH (λ_=>?_) _ _ _
  | refine zio (λ_=>?_) _ _ _
  | refine zrZ (λ_=>?_) _ _ _ _ _ _
  | refine zs6 _ ?_
  | refine zrK _ ?_
  | refine zfV _ ?_
  | refine zto _ ?_
  | refine zfF _ (λ_=>?_)
  | refine zeT _ (λ_=>?_)
  | split
end
end Go.D
namespace Go.D
variable [jA]
def GD(π:Nat→Prop)(h h':Nat→Option sA):Prop:=∀r row,π r→h r=some row→row.m.isOwn=false→h' r=some row
omit [jA]in
def GD.refl(π:Nat→Prop)(h:Nat→Option sA):GD π h h:=λ_ _ _ h _=>h
omit [jA]in
def GD.trans{π:Nat→Prop}{a b c:Nat→Option sA}(h:GD π a b)(k:GD π b c):GD π a c:=λr row hn hr hm=>k r row hn (h r row hn hr hm) hm
omit [jA]in
def MK{π:Nat→Prop}{h h':Nat→Option sA}(k:GD π h h')(r:Nat)(x:Option sA)(hr:¬π r∨∃row,h r=some row∧row.m.isOwn=true):GD π h (AA h' r x):=λq row hn hq hm=>by
 rw[BA]
 ·exact k q row hn hq hm
 grind
omit [jA]in
def yN{π:Nat→Prop}{h:Nat→Option sA}(ids:List Nat)(hl:∀r∈ids,∀row,h r=some row→row.m.isLock=false):GD π h (rC h ids):=λq row hn hq hm=>by
 rw[pF]
 by_cases hi:q∈ids
 ·have:=hl q hi row hq;obtain⟨c,m⟩:=row;cases m
  ·cases hm
  ·simp[hi,hq]
  ·cases this
 ·simp[hi,hq]
def WI(h:Nat→Option sA)(ids:List Nat):Prop:=∀r∈ids,∀row,h r=some row→row.m.isLock=false
omit [jA]in
def cU(h:Nat→Option sA):WI h []:=λr hr=>by simp at hr
omit [jA]in
def zix{h:Nat→Option sA}{i j:List Nat}(a:WI h i)(b:WI h j):WI h (i++j):=λr hr=>by
 rcases List.mem_append.1 hr with hr | hr
 ·exact a r hr
 ·exact b r hr
omit [jA]in
def zeh{h:Nat→Option sA}{r:Nat}{j:List Nat}(a:∀row,h r=some row→row.m.isLock=false)(b:WI h j):WI h (r :: j):=λq hq=>by
 rcases List.mem_cons.1 hq with rfl | hq
 ·exact a
 ·exact b q hq
omit [jA]in
def zdK{h:Nat→Option sA}{v:V}{x:V×List Nat}(hf:xG h v=some x):WI h x.2:=by
 unfold xG at hf;split at hf
 ·split at hf
  ·rename_i t l m hr;cases hm:m.isLock<;>simp[hm]at hf
   subst hf;exact zeh (λrow h1=>by rw[hr]at h1;cases h1;exact hm) (cU _)
  ·cases hf
 ·split at hf
  ·rename_i t' l m hr;cases hm:m.isLock
   ·simp only[hm,cond_false]at hf;split at hf
    ·simp at hf;subst hf;exact zeh (λrow h1=>by rw[hr]at h1;cases h1;exact hm) (cU _)
    ·cases hf
   ·simp[hm]at hf
  ·cases hf
 ·cases hb:lG 8 v<;>simp[hb]at hf
  subst hf;exact cU _
omit [jA]in
def mT{h:Nat→Option sA}:∀{vs:List V} {x:List V×List Nat},QF h vs=some x→WI h x.2
 | [],x,hf=>by simp[QF]at hf;subst hf;exact cU _
 | v :: vs,x,hf=>by
  simp only[QF]at hf;split at hf
  ·cases hf
  rename_i h1;split at hf
  ·cases hf
  rename_i h2;cases hf;exact zix (zdK h1) (mT h2)
omit [jA]in
def zbd{h:Nat→Option sA}{v:V}{x:V×List Nat}(hf:eH h v=some x):WI h x.2:=by
 unfold eH at hf;split at hf
 ·split at hf
  ·rename_i h1;cases hf;exact(mT h1:_)
  ·cases hf
 ·split at hf
  ·rename_i cs m hr;cases hb:(m.isLock||cs.isEmpty)
   case true=>simp[hb]at hf
   simp only[hb,cond_false]at hf;split at hf
   ·rename_i h1;cases hf;refine zeh (λrow h2=>?_) (mT h1)
    grind
   ·cases hf
  ·cases hf
 ·exact zdK hf
omit [jA]in
def zdJ{h:Nat→Option sA}:∀{vs:List V} {x:List V×List Nat},YK h vs=some x→WI h x.2
 | [],x,hf=>by simp[YK]at hf;subst hf;exact cU _
 | v :: vs,x,hf=>by
  simp only[YK]at hf;split at hf
  ·cases hf
  rename_i h1;split at hf
  ·cases hf
  rename_i h2;cases hf;exact zix (zbd h1) (zdJ h2)
omit [jA]in
def ziL{π:Nat→Prop}{h:Nat→Option sA}{t:TN}{v:V}{l:List (El t)}{r:Option Nat}(ht:vS h t v=some (l,r)):GD π h (xO h r):=by
 cases r with
 | none=>exact GD.refl _ _
 | some r=>
  refine MK (GD.refl _ _) r none (.inr ?_);unfold vS at ht;split at ht
  ·cases ht
  ·split at ht
   ·rename_i hr;split at ht
    ·cases ht;exact⟨_,hr,rfl⟩
    ·cases ht
   ·cases ht
  ·split at ht
   ·rename_i hr;split at ht
    ·cases ht;exact⟨_,hr,rfl⟩
    ·cases ht
   ·cases ht
  ·cases ht
omit [jA]in
def uK(π:Nat→Prop)(ow:List Nat):∀(cs:List V) (p:Nat) (h:Nat→Option sA) (x:List V×(Nat→Option sA)),MD ow p cs h=some x→GD π h x.2
 | [],p,h,x,ht=>by simp[MD]at ht;subst ht;exact GD.refl π h
 | c :: cs,p,h,x,ht=>by
  simp only[MD]at ht;cases hb:ow.any (Nat.beq p)
  ·simp only[hb,cond_false]at ht;split at ht
   case h_2=>cases ht
   rename_i hf;split at ht
   case h_2=>cases ht
   rename_i hr;cases ht;have k:=uK π ow cs (p+1) _ _ hr;exact(yN _ (zdK hf)).trans k
  ·simp only[hb,cond_true]at ht;split at ht
   ·split at ht
    case h_2=>cases ht
    rename_i HV;split at ht
    case h_2=>cases ht
    rename_i hr;cases ht;have k:=uK π ow cs (p+1) _ _ hr;exact(MK (GD.refl π h) _ none (.inr ⟨_,HV,rfl⟩)).trans k
   ·split at ht
    case h_2=>cases ht
    rename_i hr;cases ht;have:=uK π ow cs _ _ _ hr;exact this
   ·split at ht
    case h_2=>cases ht
    rename_i HV;split at ht
    case h_2=>cases ht
    rename_i hr;cases ht;have k:=uK π ow cs (p+1) _ _ hr;exact(MK (GD.refl π h) _ none (.inr ⟨_,HV,rfl⟩)).trans k
   ·cases ht
omit [jA]in
def zad(π:Nat→Prop):∀(ks:List jB) (as:List V) (h:Nat→Option sA) (x:List V×(Nat→Option sA)×List Nat),oC ks as h=some x→
  GD π h x.2.1∧∀b∈x.2.2,∃row,h b=some row∧row.m.isOwn=true
 | [],[],h,x,ht=>by simp[oC]at ht;subst ht;exact⟨GD.refl π h,λb hb=>by simp at hb⟩
 | [],_ :: _,h,x,ht=>by simp[oC]at ht
 | .plain :: ks,[],h,x,ht=>by simp[oC]at ht
 | .ptr _ :: ks,[],h,x,ht=>by simp[oC]at ht
 | .mv _ :: ks,[],h,x,ht=>by simp[oC]at ht
 | .mv ow :: ks,v :: vs,h,x,ht=>by
  obtain⟨cs,rfl⟩:=zek ht;simp only[oC]at ht;cases hb:Nat.ble cs.length 127
  case false=>simp[hb]at ht
  simp only[hb,cond_true]at ht;split at ht
  ·cases ht
  rename_i hl;split at ht
  ·cases ht
  rename_i hr;cases ht;obtain⟨k1,k2⟩:=zad π ks vs _ _ hr;refine⟨(uK π _ _ _ _ _ hl).trans k1,λb hb=>?_⟩;obtain⟨row,h1,h2⟩:=k2 b hb;obtain⟨row2,h3,h4,h5⟩:=wL _ _ _ _ _ hl b row h1;refine⟨row2,h3,?_⟩;cases ho:row2.m.isOwn with
  | true=>rfl
  | false=>
   have:=uK (λ_=>True) _ _ _ _ _ hl b row2 trivial h3 ho
   grind
 | .plain :: ks,v :: vs,h,x,ht=>by
  simp only[oC]at ht;split at ht
  ·cases ht
  rename_i v' ids hf;split at ht
  ·cases ht
  rename_i hr;cases ht;obtain⟨k1,k2⟩:=zad π ks vs _ _ hr;refine⟨(yN _ (zbd hf)).trans k1,λb hb=>?_⟩;obtain⟨row,h1,h2⟩:=k2 b hb;obtain⟨row',h3,h4,h5⟩:=UT h ids b row h1;rw[pF]at h1
  by_cases hm:b∈ids
  ·simp[hm,h3]at h1;subst h1;cases h2
  grind
 | .ptr ow :: ks,v :: vs,h,x,ht=>by
  obtain⟨r,rfl⟩:=zd2 ht;simp only[oC]at ht;split at ht
  case h_2=>cases ht
  rename_i cs HV;cases hb:Nat.ble cs.length 127
  case false=>simp[hb]at ht
  simp only[hb,cond_true]at ht;split at ht
  ·cases ht
  rename_i hl;split at ht
  ·cases ht
  rename_i hr;cases ht;obtain⟨k1,k2⟩:=zad π ks vs _ _ hr;refine⟨(MK (GD.refl π h) _ none (.inr ⟨_,HV,rfl⟩)).trans ((uK π _ _ _ _ _ hl).trans k1),λb hb=>?_⟩
  rcases List.mem_cons.1 hb with rfl | hb
  ·exact⟨_,HV,rfl⟩
  ·obtain⟨row,h1,h2⟩:=k2 b hb;obtain⟨row2,h3,h4,h5⟩:=wL _ _ _ _ _ hl b row h1;have X1:b≠r:=by rintro rfl;rw[MA]at h3;cases h3
   rw[BA _ _ _ _ X1]at h3;refine⟨row2,h3,?_⟩;cases ho:row2.m.isOwn with
   | true=>rfl
   | false=>
    have:=uK (λ_=>True) _ _ _ _ _ hl b row2 trivial (by rw[BA _ _ _ _ X1];exact h3) ho
    grind
def SC{α:Type}(p:α→Prop)(x:Option α):Prop:=∀y,x=some y→p y
structure OO(π:Nat→Prop)(dst:Option Nat)(st st':St):Prop where
 slots:∀s,dst≠some s→st'.s s=st.s s
 rows:GD π st.h st'.h
 nx:st'.nx=st.nx
section
variable {C:Cx} {st:St} {π:Nat→Prop} {dst:Option Nat}
omit [jA]in
def aF{α:Type}{p:α→Prop}:SC p none:=λ_ h=>by cases h
omit [jA]in
def vM{h':Nat→Option sA}(hk:GD π st.h h')(v:V):SC (OO π dst st) (QA C dst {st with h:=h'} v some):=by
 intro st' h;cases dst with
 | none=>simp[QA]at h;subst h;exact⟨λ_ _=>rfl,hk,rfl⟩
 | some d=>
  simp only[QA]at h;cases hb:Nat.blt d C.nt<;>simp[hb]at h
  subst h;exact⟨λs hs=>BA _ _ _ _ (λe=>hs (by rw[e])),hk,rfl⟩
omit [jA]in
def zca(v:V):SC (OO π dst st) (QA C dst st v some):=vM (GD.refl π st.h) v
omit [jA]in
def zkw{h':Nat→Option sA}(hk:GD π st.h h'){i:Nat}(hi:∀q,q<128→¬π (i+q))(c:iF)(v:V):SC (OO π dst st) (jF C dst {st with h:=h'} i c v some):=vM (MK hk i _ (.inl (hi 0 (by omega)))) v
omit [jA]in
def zsO{i:Nat}(hi:∀q,q<128→¬π (i+q))(c:iF)(v:V):SC (OO π dst st) (jF C dst st i c v some):=vM (MK (GD.refl π st.h) i _ (.inl (hi 0 (by omega)))) v
omit [jA]in
def iS{α:Type}{p:α→Prop}(b:Bool){x:Option α}(h:b=true→SC p x):SC p (bif b then x else none):=by
 cases b
 ·exact aF
 ·exact h rfl
omit [jA]in
def GR{α:Type}{p:α→Prop}(b:Bool){x:Option α}(h:b=false→SC p x):SC p (bif b then none else x):=by
 cases b
 ·exact h rfl
 ·exact aF
omit [jA]in
def lS{α β:Type}{p:β→Prop}(x:Option α){f:α→Option β}(h:∀v,x=some v→SC p (f v)):SC p (Option.bind x f):=by
 cases x with
 | none=>exact aF
 | some v=>exact h v rfl
omit [jA]in
def iK{α:Type}{p:α→Prop}(b:Bool){x:Option α}(h:b=true→SC p x):SC p (gd b x none):=by
 cases b
 ·exact aF
 ·exact h rfl
omit [jA]in
def zj1{α:Type}{p:α→Prop}(b:Bool){x:Option α}(h:b=false→SC p x):SC p (gd b none x):=by
 cases b
 ·exact h rfl
 ·exact aF
omit [jA]in
def wS{α β:Type}{p:β→Prop}(x:Option α){f:α→Option β}(h:∀v,x=some v→SC p (f v)):SC p (rK x f):=by
 cases x with
 | none=>exact aF
 | some v=>exact h v rfl
omit [jA]in
def zju{p:St→Prop}{K:V→Option St}(h:∀v,SC p (K v))(ag:Bool)(m:Nat)(cs:List V)(off:Nat):SC p (eG ag m cs off K):=by
 cases ag<;>simp only[eG,MC,tS]
 ·split
  ·exact h _
  ·exact aF
 ·exact iK _ λ_=>h _
omit [jA]in
def zkl{p:St→Prop}{K:V→Option St}(h:∀v,SC p (K v))(op:BinOp)(x y:V):SC p (LM op x y K):=by
 unfold LM;split
 ·exact iS _ λ_=>GR _ λ_=>h _
 ·exact iS _ λ_=>GR _ λ_=>h _
 ·exact GR _ λ_=>h _
 ·exact GR _ λ_=>h _
 ·exact iS _ λ_=>h _
 ·split
  ·exact h _
  ·exact aF
omit [jA]in
def zeG{p:St→Prop}{f:Nat→Option St}(h:∀k,SC p (f k))(i:Int):∀(m k:Nat),SC p (UI f i k m)
 | 0,k=>aF
 | m+1,k=>by
  simp only[UI];cases i==(k:Int)
  ·exact zeG h i m (k+1)
  ·exact h k
omit [jA]in
def zj7{p:St→Prop}{K:V→Option St}(h:∀v,SC p (K v))(d:TypeDesc)(tk:TypeId→TN→Bool)(hp:Nat→Option sA)(x:V)(lo hi:Option V):SC p (CO d tk hp x lo hi K):=by
 unfold CO;split
 ·exact aF
 split
 case h_2=>exact aF
 refine iS _ λ_=>?_;split
 ·exact iK _ λ_=>h _
 ·exact h _
 ·split
  ·exact iK _ λ_=>h _
  ·exact aF
 ·exact iK _ λ_=>h _
 ·exact aF
omit [jA]in
def zh5:∀(ks:List jB) (as:List V) (h:Nat→Option sA) (x:List V×(Nat→Option sA)×List Nat),ks.all jB.isPlain=true→oC ks as h=some x→x.2.2=[]
 | [],[],h,x,_,ht=>by simp[oC]at ht;subst ht;rfl
 | [],_ :: _,h,x,_,ht=>by simp[oC]at ht
 | .plain :: ks,[],h,x,_,ht=>by simp[oC]at ht
 | .plain :: ks,v :: vs,h,x,hp,ht=>by
  simp only[List.all_cons,Bool.and_eq_true]at hp;simp only[oC]at ht;split at ht
  ·cases ht
  split at ht
  ·cases ht
  rename_i hr;cases ht;have:=zh5 ks vs _ _ hp.2 hr;exact this
 | .ptr _ :: ks,as,h,x,hp,ht=>by simp[jB.isPlain]at hp
 | .mv _ :: ks,as,h,x,hp,ht=>by simp[jB.isPlain]at hp
omit [jA]in
def zpP{ci:WA}{rs:List V}{h h':Nat→Option sA}{q:Nat}{row:sA}(hq:fL ci rs h h' q=some row):h q=some row∨h' q=some row:=by
 unfold fL at hq;cases hp:FM ci rs
 ·rw[hp,cond_false]at hq;cases hb:ci.pb
  ·rw[hb,cond_false]at hq;cases hm:DE ci.own 0 rs with
   | none=>rw[hm]at hq;exact .inr hq
   | some m=>
    rw[hm]at hq;have hq:oL m h h' q=some row:=hq;unfold oL at hq
    grind
  grind
 grind
omit [jA]in
def zqp{ci:WA}{rs:List V}{h h':Nat→Option sA}{q:Nat}{row:sA}(h1:h q=some row)(h2:h' q=some row)(hm:row.m.isOwn=false):fL ci rs h h' q=some row:=by
 unfold fL;cases FM ci rs
 ·cases ci.pb
  ·simp only[cond_false];cases DE ci.own 0 rs with
   | none=>exact h2
   | some m=>
    show oL m h h' q=some row
    unfold oL
    grind
  ·exact h2
 ·exact h1
omit [jA]in
def zsc{i:Nat}(hi:∀q,q<128→¬π (i+q))(f:Nat)(as:List V):SC (OO π dst st) (mK C i dst st f as some):=by
 unfold mK;split
 ·exact aF
 rename_i ci _;split
 ·split
  ·exact aF
  rename_i as' h' bs yZ;refine wS _ λx _=>lS _ λr _=>iK _ λKV=>vM ?_ _;simp only[Bool.and_eq_true]at KV;intro q row hq HV hm;rw[sO]
  have KW:aE ci as' bs i (ci.eR r) q=none:=by
   cases hx:aE ci as' bs i (ci.eR r) q with
   | none=>rfl
   | some y=>
    rcases zkD (Nat.le_of_ble_eq_true KV.1) hx with h1 | h1
    ·have hp:=KV.2;simp only[FM,Bool.and_eq_true]at hp;have hb:bs=[]:=zh5 ci.ks as _ _ hp.1.2 yZ
     grind
    ·exact absurd hq (by have:=hi (q - i) (by omega);rwa [show i+(q - i)=q by omega]at this)
  grind
 rename_i as' h' bs yZ;refine wS _ λx _=>lS _ λr _=>iK _ λKV=>vM ?_ _;obtain⟨k1,k2⟩:=zad π _ _ _ _ yZ;intro q row hq HV hm;have KV:=Nat.le_of_ble_eq_true KV;rw[sO]
 have KW:aE ci as' bs i (ci.eR r) q=none:=by
  cases hx:aE ci as' bs i (ci.eR r) q with
  | none=>rfl
  | some y=>
   rcases zkD KV hx with h1 | h1
   ·grind
   ·exact absurd hq (by have:=hi (q - i) (by omega);rwa [show i+(q - i)=q by omega]at this)
 rw[KW];exact zqp HV (k1 q row hq HV hm) hm
omit [jA]in
def zhZ{i:Nat}(hi:∀q,q<128→¬π (i+q))(o:Oper):SC (OO π o.dst st) (gB C i o st some):=by
 unfold gB
 repeat' first
  | exact aF
  | exact zca _
  | exact zsO hi _ _
  | exact zsc hi _ _
  | exact vM (yN _ (zdJ ‹_›)) _
  | exact zkw (yN _ (zdJ ‹_›)) hi _ _
  | exact zkw (ziL ‹_›) hi _ _
  | exact vM (MK (GD.refl π st.h) _ _ (.inr ⟨_, ‹_›,rfl⟩)) _
  | exact vM (MK (yN _ (mT ‹_›)) _ _ (.inr ⟨_, ‹_›,rfl⟩)) _
  | refine zju (λ_=>?_) _ _ _ _
  | refine zkl (λ_=>?_) _ _ _
  | refine zeG (λ_=>?_) _ _ _
  | refine zj7 (λ_=>?_) _ _ _ _ _ _
  | refine iS _ (λ_=>?_)
  | refine GR _ (λ_=>?_)
  | refine iK _ (λ_=>?_)
  | refine zj1 _ (λ_=>?_)
  | refine wS _ (λ_ _=>?_)
  | refine lS _ (λ_ _=>?_)
  | split
end
abbrev ZC(n:Nat)(h h':Nat→Option sA):Prop:=GD (λr=>r<n) h h'
omit [jA]in
def ZC.refl(n:Nat)(h:Nat→Option sA):ZC n h h:=GD.refl _ h
omit [jA]in
def ZC.trans{n:Nat}{a b c:Nat→Option sA}(h:ZC n a b)(k:ZC n b c):ZC n a c:=GD.trans h k
omit [jA]in
def ZC.le{n m:Nat}{a b:Nat→Option sA}(h:ZC n a b)(hm:m≤n):ZC m a b:=λr row hr=>h r row (by have:r<m:=hr;show r<n;omega)
omit [jA]in
def ziJ{C:Cx}{st:St}{n:Nat}{i:Nat}(hi:n≤i)(o:Oper):SC (OO (λr=>r<n) o.dst st) (gB C i o st some):=zhZ (λq _ h=>by omega) o
end Go.D

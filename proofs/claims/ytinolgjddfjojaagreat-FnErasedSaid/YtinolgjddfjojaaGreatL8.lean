/-
  Short names for what the plain semantics computes with numbers.
-/
import Derived.Test.YtinolgjddfjojaaGreatL7
namespace Go.D
def lookC (k:Nat):List (Nat × CInfo)→Option CInfo
  | []=>none
  | (j,x) :: r=>bif Nat.beq j k then some x else lookC k r
@[reducible] def iadd (k:IntKind) (a b:Int):Int:=k.wrap (a+b)
@[reducible] def isub (k:IntKind) (a b:Int):Int:=k.wrap (a - b)
@[reducible] def imul (k:IntKind) (a b:Int):Int:=k.wrap (a *b)
def iand (k:IntKind) (a b:Int):Int:=k.wrap (BitVec.ofInt k.bits a&&&BitVec.ofInt k.bits b).toNat
def ior (k:IntKind) (a b:Int):Int:=k.wrap (BitVec.ofInt k.bits a|||BitVec.ofInt k.bits b).toNat
def ixor (k:IntKind) (a b:Int):Int:=k.wrap (BitVec.ofInt k.bits a^^^BitVec.ofInt k.bits b).toNat
def iandNot (k:IntKind) (a b:Int):Int:=k.wrap (BitVec.ofInt k.bits a&&& ~~~ BitVec.ofInt k.bits b).toNat
def ishl (k:IntKind) (a b:Int):Int:=k.wrap (a *2^(min b.toNat k.bits))
def ishr (k:IntKind) (a b:Int):Int:=a.fdiv (2^(min b.toNat k.bits))
def iquo (k:IntKind) (a b:Int):Int:=k.wrap (a.tdiv b)
def irem (_:IntKind) (a b:Int):Int:=a.tmod b
def tnAll1 (P:Program) (p:TypeId × TN):Bool:=match P.info? p.1 with
  | some i=>Nat.beq i.size (sz p.2)&&Nat.ble i.bytes 1024&&(match i.zero with
    | some z=>Nat.beq z.cells.size (sz p.2)
    | none=>false)
  | none=>false
def tnAll (P:Program) (l:List (TypeId × TN)):Bool:=l.all (tnAll1 P)
theorem look_mem {α:Type} {k:Nat} {x:α}:∀ {l:List (Nat × α)},look k l=some x→(k,x) ∈ l
  | [],h=>by simp [look] at h
  | (j,y) :: r,h=>by
    simp only [look] at h
    cases hb:Nat.beq j k
    · simp only [hb,cond_false] at h;exact List.mem_cons_of_mem _ (look_mem h)
    · simp only [hb,cond_true,Option.some.injEq] at h
      have:=Nat.eq_of_beq_eq_true hb
      subst this h;simp
theorem tnOk_of {P:Program} {l:List (TypeId × TN)} (hm:P.follows .mixedOrders=true) (h:tnAll P l=true) (Φ:Nat→Option CInfo) (n:Nat) (g:Gl):TnOk ⟨P,fun t=>look t l,Φ,n,g⟩:=by
  refine ⟨hm,fun e t he=>?_⟩
  have h1:=List.all_eq_true.1 h _ (look_mem he)
  simp only [tnAll1] at h1
  split at h1
  case h_2=>cases h1
  rename_i i hi
  simp only [Bool.and_eq_true] at h1
  obtain ⟨⟨h2,h3⟩,h4⟩:=h1
  split at h4
  case h_2=>cases h4
  rename_i z hz
  exact ⟨i,z,hi,Nat.eq_of_beq_eq_true h2,Nat.le_of_ble_eq_true h3,hz,Nat.eq_of_beq_eq_true h4⟩
theorem phi_nil {P:Program} {tn:TypeId→Option TN} {n:Nat} {g:Gl}:PhiOk ⟨P,tn,fun f=>lookC f [],n,g⟩:=⟨fun _ _ h=>by cases h⟩
theorem phi_cons {P:Program} {tn:TypeId→Option TN} {n g:Nat} {ci:CInfo} {l:List (Nat × CInfo)} {gl:Gl} (h:Contract P (g % 1048576) ci gl) (k:PhiOk ⟨P,tn,fun f=>lookC f l,n,gl⟩):PhiOk ⟨P,tn,fun f=>lookC f ((g,ci) :: l),n,gl⟩:=⟨fun f c hf=>by
  simp only [lookC] at hf
  cases hb:Nat.beq g f
  · simp only [hb,cond_false] at hf;exact k.ok f c hf
  · simp only [hb,cond_true,Option.some.injEq] at hf
    have:=Nat.eq_of_beq_eq_true hb
    subst this hf;exact h⟩
theorem kindsOk_of {P:Program} {l:List (TypeId × TN)} {D:Nat} (h:(l.all fun p=>decide (kindsT P (fun t=>look t l) D p.1=some (lk p.2))&&Nat.beq (P.cellsOf p.1) (sz p.2))=true):KindsOk P (fun t=>look t l) D:=⟨fun e t he=>by
  have h1:=List.all_eq_true.1 h _ (look_mem he)
  simp only [Bool.and_eq_true,decide_eq_true_eq] at h1
  exact ⟨h1.1,Nat.eq_of_beq_eq_true h1.2⟩⟩
def mkCI (ks:List ArgK) (ats rts:List Ty) (F:TyTup ats→Option (TyTup rts)) (sh:List (Bool × Nat)) (own:List Nat) (pb:Bool):CInfo:=
  ⟨ks,TyTup ats,TyTup rts,decTup ats,F,flatTup rts,sh,own,pb⟩
theorem evC {P:Program} {tl:List (TypeId × TN)} {f:Nat} {fn:Func} {ks:List ArgK} {ats rts:List Ty} {F:TyTup ats→Option (TyTup rts)} {sh:List (Bool × Nat)} {own:List Nat} (n:Nat) {l:List (Nat × CInfo)} {g:Gl}
    (hm:P.follows .mixedOrders=true) (ht:tnAll P tl=true) (hΦ:PhiOk ⟨P,fun t=>look t tl,fun f=>lookC f l,n,g⟩) (hf:P.funcs[f]?=some fn) (an:An) (Raw:TyTup ats→Option (TyTup rts))
    (h0 : (fn.body.isSome && !(fn.name == "runtime.NumGoroutine") && Nat.beq n fn.ntmps && ksOk ks ats && Nat.ble ks.length fn.ntmps) = true)
    (he:∀ x,evalF ⟨P,fun t=>look t tl,fun f=>lookC f l,n,g⟩ fn (fn.body.getD .skip) an ks own sh rts (encTup ats x)=Raw x) (hok:∀ x r,bdTup ats x→F x=some r→Raw x=some r):
    Contract P f (mkCI ks ats rts F sh own false) g:=by
  simp only [Bool.and_eq_true,Bool.not_eq_true'] at h0
  obtain ⟨⟨⟨⟨h1,h2⟩,h3⟩,h4⟩,h5⟩:=h0
  obtain ⟨b,hb⟩:=Option.isSome_iff_exists.1 h1
  have hbd:fn.body.getD .skip=b:=by rw [hb];rfl
  exact evalF_ok (C:=⟨P,fun t=>look t tl,fun f=>lookC f l,n,g⟩) (tnOk_of hm ht _ _ _) hΦ hf hb h2 (Nat.eq_of_beq_eq_true h3) an ks own sh ats rts F h4 h5 fun x r hx hr=>by
    have:=he x
    rw [hbd] at this
    exact this.trans (hok x r hx hr)
theorem evP {P:Program} {tl:List (TypeId × TN)} {f:Nat} {fn:Func} {m:Nat} {ats rts:List Ty} {F:TyTup ats→Option (TyTup rts)} {sh:List (Bool × Nat)} (n:Nat) {l:List (Nat × CInfo)} {g:Gl}
    (hm:P.follows .mixedOrders=true) (ht:tnAll P tl=true) (hΦ:PhiOk ⟨P,fun t=>look t tl,fun f=>lookC f l,n,g⟩) (hf:P.funcs[f]?=some fn) (an:An) (Raw:TyTup ats→Option (TyTup rts))
    (h0 : (fn.body.isSome && !(fn.name == "runtime.NumGoroutine") && Nat.beq n fn.ntmps && ksOk (plains m) ats && Nat.ble m fn.ntmps) = true)
    (he:∀ x,evalP ⟨P,fun t=>look t tl,fun f=>lookC f l,n,g⟩ fn (fn.body.getD .skip) an (plains m) rts (encTup ats x)=Raw x) (hok:∀ x r,bdTup ats x→F x=some r→Raw x=some r):
    Contract P f (mkCI (plains m) ats rts F sh [] true) g:=by
  simp only [Bool.and_eq_true,Bool.not_eq_true'] at h0
  obtain ⟨⟨⟨⟨h1,h2⟩,h3⟩,h4⟩,h5⟩:=h0
  obtain ⟨b,hb⟩:=Option.isSome_iff_exists.1 h1
  have hbd:fn.body.getD .skip=b:=by rw [hb];rfl
  exact evalP_ok (C:=⟨P,fun t=>look t tl,fun f=>lookC f l,n,g⟩) (tnOk_of hm ht _ _ _) hΦ hf hb h2 (Nat.eq_of_beq_eq_true h3) an m sh ats rts F h4 h5 fun x r hx hr=>by
    have:=he x
    rw [hbd] at this
    exact this.trans (hok x r hx hr)
end Go.D
namespace Go.D
theorem loop_ind {σ R:Type} {f:σ→(σ→Option R)→Option R} {g:σ→Option R} {inv:σ→Prop} {μ:σ→Nat}
    (h:∀ x,inv x→∀ k:σ→Option R,(∀ y,inv y→μ y<μ x→k y=g y)→f x k=g x):∀ (n:Nat) (x:σ),inv x→μ x<n→loopK n f x=g x
  | 0,x,_,hn=>by omega
  | n+1,x,hx,hn=>h x hx (loopK n f) fun y hy hlt=>loop_ind h n y hy (by omega)
theorem loop_FU {σ R:Type} {f:σ→(σ→Option R)→Option R} {g:σ→Option R} (inv:σ→Prop) (μ:σ→Nat)
    (h:∀ x,inv x→∀ k:σ→Option R,(∀ y,inv y→μ y<μ x→k y=g y)→f x k=g x) {x:σ} (hx:inv x) (hμ:μ x<2^64):loopK FU f x=g x:=by
  rw [FU_eq];exact loop_ind h _ x hx hμ
theorem wrap_i64 {n:Int} (h1: -9223372036854775808≤n) (h2:n≤9223372036854775807):IntKind.wrap .i64 n=n:=by
  simp only [IntKind.wrap]
  first
    | (simp [IntKind.bits,IntKind.signed];omega)
    | (unfold IntKind.bits;simp;omega)
theorem iadd_nat (i:Nat) (h:i<maxLen):IntKind.wrap .i64 ((i:Int)+1)=((i+1:Nat):Int):=by
  unfold maxLen at h
  rw [wrap_i64 (by omega) (by omega)];omega
theorem loop_up {R:Type} (n:Nat) (hn:n≤maxLen) {f:Int→(Int→Option R)→Option R} {g:Nat→Option R}
    (h:∀ (i:Nat) (k:Int→Option R),i<n→k (IntKind.wrap .i64 ((i:Int)+1))=g (i+1)→f (i:Int) k=g i) (hz:∀ k,f (n:Int) k=g n) (i:Nat) (hi:i≤n):loopK FU f (i:Int)=g i:=by
  have:=loop_FU (g:=fun x:Int=>g x.toNat) (f:=f) (fun x=>0≤x∧x≤n) (fun x=>n - x.toNat) (fun x hx k hk=>by
    obtain ⟨j,rfl⟩:=Int.eq_ofNat_of_zero_le hx.1
    have hj:j≤n:=by omega
    simp only [Int.toNat_natCast]
    rcases Nat.lt_or_eq_of_le hj with hlt | rfl
    · refine h j k hlt ?_
      rw [iadd_nat j (by omega)]
      have:=hk ((j+1:Nat):Int) (by omega) (by omega)
      rw [this];simp
    · exact hz k) (x:=(i:Int)) ⟨by omega,by omega⟩ (by unfold maxLen at hn;simp only [Int.toNat_natCast];omega)
  rw [this];simp
theorem loop_upS {σ R:Type} (n:Nat) (hn:n≤maxLen) {f:Int × σ→(Int × σ→Option R)→Option R} {g:Nat→σ→Option R} (inv:Nat→σ→Prop)
    (h:∀ (i:Nat) (s:σ) (k:Int × σ→Option R),i<n→inv i s→(∀ t,inv (i+1) t→k (IntKind.wrap .i64 ((i:Int)+1),t)=g (i+1) t)→f ((i:Int),s) k=g i s)
    (hz:∀ s k,inv n s→f ((n:Int),s) k=g n s) (i:Nat) (s:σ) (hi:i≤n) (hs:inv i s):loopK FU f ((i:Int),s)=g i s:=by
  have:=loop_FU (g:=fun x:Int × σ=>g x.1.toNat x.2) (f:=f) (fun x=>0≤x.1∧x.1≤n∧inv x.1.toNat x.2) (fun x=>n - x.1.toNat) (fun x hx k hk=>by
    obtain ⟨x,s⟩:=x
    obtain ⟨h0,h1,h2⟩:=hx
    simp only at h0 h1 h2
    obtain ⟨j,rfl⟩:=Int.eq_ofNat_of_zero_le h0
    have hj:j≤n:=by omega
    simp only [Int.toNat_natCast] at h2 ⊢
    rcases Nat.lt_or_eq_of_le hj with hlt | rfl
    · refine h j s k hlt h2 fun t ht=>?_
      rw [iadd_nat j (by omega)]
      have:=hk (((j+1:Nat):Int),t) ⟨by show (0:Int)≤((j+1:Nat):Int);omega,by show ((j+1:Nat):Int)≤n;omega,by simpa using ht⟩ (by simp only [Int.toNat_natCast];omega)
      rw [this];simp
    · exact hz s k h2) (x:=((i:Int),s)) ⟨by show (0:Int)≤(i:Int);omega,by show (i:Int)≤n;omega,by simpa using hs⟩ (by unfold maxLen at hn;simp only [Int.toNat_natCast];omega)
  rw [this];simp
theorem idxI_nat {α:Type} (l:List α) (i:Nat):idxI l (i:Int)=l[i]?:=by simp [idxI]
theorem idxI_get {α:Type} {l:List α} {i:Nat} (h:i<l.length):idxI l (i:Int)=some l[i]:=by rw [idxI_nat,List.getElem?_eq_getElem h]
theorem bind_some' {α β:Type} (a:α) (f:α→Option β):Option.bind (some a) f=f a:=rfl
theorem bdx_fits {t:TN} {x:El t} {k:IntKind} {n:Int} (h:bdx t x) (j:Nat) (hj:j<sz t) (he:(enc t x).getD j .undef= .int k n):Fits k n:=(he ▸ h j hj).fits
theorem fits_i64 {n:Int} (h:Fits .i64 n): -9223372036854775808≤n∧n≤9223372036854775807:=by
  obtain ⟨h1,h2⟩:=h
  simp [IntKind.min,IntKind.max,IntKind.signed,IntKind.bits] at h1 h2
  omega
end Go.D
namespace Go.D
noncomputable section
def eqq {α:Type} (a b:α):Bool:=@decide (a=b) (Classical.propDecidable _)
theorem eqq_true {α:Type} {a b:α}:eqq a b=true↔a=b:=by simp [eqq]
theorem eqq_self {α:Type} (a:α):eqq a a=true:=eqq_true.2 rfl
theorem eqq_false {α:Type} {a b:α}:eqq a b=false↔a≠b:=by simp [eqq]
def pt {α:Type} (p:Prop) (x:α):Option α:=@ite _ p (Classical.propDecidable p) (some x) none
theorem pt_some {α:Type} {p:Prop} {x:α} (h:p):pt p x=some x:=if_pos h
theorem pt_inv {α:Type} {p:Prop} {x r:α} (h:pt p x=some r):p∧x=r:=by
  unfold pt at h
  split at h
  · cases h;exact ⟨‹p›,rfl⟩
  · cases h
theorem pt_ok {α:Type} {p:Prop} {x r:α} {o:Option α} (h:p→o=some x) (hp:pt p x=some r):o=some r:=by
  obtain ⟨h1,rfl⟩:=pt_inv hp
  exact h h1
theorem pt_bind {α β:Type} {p:Prop} {x:α} {f:α→Option β} (h:p):Option.bind (pt p x) f=f x:=by rw [pt_some h];rfl
class Wt (α:Type) where
  of:α→Nat
def wt {α:Type} [Wt α] (x:α):Nat:=Wt.of x
instance:Wt UInt8:=⟨fun _=>0⟩
instance:Wt Int:=⟨fun _=>0⟩
instance:Wt Bool:=⟨fun _=>0⟩
def wtl {α:Type} [Wt α]:List α→Nat
  | []=>0
  | x :: l=>wt x+wtl l+1
instance {α:Type} [Wt α]:Wt (List α):=⟨wtl⟩
theorem wt_nil {α:Type} [Wt α]:wt ([]:List α)=0:=rfl
theorem wt_cons {α:Type} [Wt α] (x:α) (l:List α):wt (x :: l)=wt x+wt l+1:=rfl
theorem wt_append {α:Type} [Wt α]:∀ (l m:List α),wt (l++m)=wt l+wt m
  | [],m=>by simp [wt_nil]
  | x :: l,m=>by rw [List.cons_append,wt_cons,wt_cons,wt_append l m];omega
theorem wt_len {α:Type} [Wt α]:∀ l:List α,l.length≤wt l
  | []=>Nat.le_refl _
  | x :: l=>by rw [wt_cons,List.length_cons];have:=wt_len l;omega
theorem wt_mem {α:Type} [Wt α] {x:α}:∀ {l:List α},x ∈ l→wt x+1≤wt l
  | [],h=>by cases h
  | y :: l,h=>by
    rw [wt_cons]
    rcases List.mem_cons.1 h with rfl | h
    · omega
    · have:=wt_mem h;omega
theorem wt_get {α:Type} [Wt α] {l:List α} {i:Nat} (h:i<l.length):wt l[i]+1≤wt l:=wt_mem (List.getElem_mem h)
theorem wt_take {α:Type} [Wt α] (l:List α) (n:Nat):wt (l.take n)≤wt l:=by
  have:=wt_append (l.take n) (l.drop n)
  rw [List.take_append_drop] at this;omega
theorem wt_drop {α:Type} [Wt α] (l:List α) (n:Nat):wt (l.drop n)≤wt l:=by
  have:=wt_append (l.take n) (l.drop n)
  rw [List.take_append_drop] at this;omega
theorem wt_plain {α:Type} [Wt α] (h:∀ x:α,wt x=0):∀ l:List α,wt l=l.length
  | []=>rfl
  | x :: l=>by rw [wt_cons,List.length_cons,wt_plain h l,h];omega
theorem wt_bytes (l:List UInt8):wt l=l.length:=wt_plain (fun _=>rfl) l
theorem wt_ints (l:List Int):wt l=l.length:=wt_plain (fun _=>rfl) l
theorem bdx_top {n:Int} (h:bdx .int n):n≤9223372036854775807:=(fits_i64 (bdx_fits h 0 (by decide) rfl)).2
def cpy {α:Type} [Wt α] (a:α):Option α:=pt (wt a≤LIM) a
theorem set_at {α:Type} (l r:List α) (x y:α) {i:Nat} (h:l.length=i):List.set (l++x :: r) i y=l++y :: r:=by
  subst h;simp
theorem take_next {α:Type} (l:List α) {i:Nat} (h:i<l.length):l.take (i+1)=l.take i++[l[i]]:=by
  rw [List.take_succ_eq_append_getElem h]
theorem drop_next {α:Type} (l:List α) {i:Nat} (h:i<l.length):l.drop i=l[i] :: l.drop (i+1):=List.drop_eq_getElem_cons h
theorem eqq_cons {α:Type} (a b:α) (l m:List α):eqq (a :: l) (b :: m)=(eqq a b&&eqq l m):=by
  rw [Bool.eq_iff_iff,Bool.and_eq_true,eqq_true,eqq_true,eqq_true]
  exact List.cons_eq_cons
theorem cmp_loop {α:Type} (l m:List α) (hl:l.length≤maxLen) (he:l.length=m.length) {f:Int→(Int→Option Bool)→Option Bool}
    (hf:∀ (i:Nat) (k:Int→Option Bool) (h:i<l.length) (h':i<m.length),f (i:Int) k=bif eqq l[i] m[i] then k (IntKind.wrap .i64 ((i:Int)+1)) else some false)
    (hz:∀ k,f (l.length:Int) k=some true):loopK FU f (0:Int)=some (eqq l m):=by
  have:=loop_up l.length hl (f:=f) (g:=fun i=>some (eqq (l.drop i) (m.drop i))) (fun i k hi hk=>by
      have hi':i<m.length:=by omega
      rw [hf i k hi hi',hk,drop_next l hi,drop_next m hi',eqq_cons]
      cases eqq l[i] m[i] <;> rfl) (fun k=>by
      rw [hz,List.drop_eq_nil_of_le (Nat.le_refl _),List.drop_eq_nil_of_le (by omega)];simp [eqq]) 0 (Nat.zero_le _)
  simpa using this
theorem cmp_list {α:Type} (l m:List α) (hl:l.length≤maxLen) (ne:α→α→Bool) (hne:∀ a b,ne a b= !eqq a b):
    (cond ((l.length:Int) !=(m.length:Int)) (some false) (joinK (fun (_:Unit)=>some true) fun k2=>
      loopK FU (fun (x3:Int) k4=>cond (decide (x3<(l.length:Int))) (Option.bind (idxI l x3) fun e5=>Option.bind (idxI m x3) fun e6=>
        cond (ne e5 e6) (some false) (k4 (iadd .i64 x3 1))) (k2 ())) 0))=some (eqq l m):=by
  by_cases he:l.length=m.length
  · have h1:((l.length:Int) !=(m.length:Int))=false:=by simp [he]
    simp only [h1,cond_false,joinK]
    refine cmp_loop l m hl he (fun i k hi hi'=>?_) (fun k=>by simp)
    have h2:decide ((i:Int)<(l.length:Int))=true:=by simp;exact hi
    simp only [h2,cond_true,idxI_get hi,idxI_get hi',bind_some',hne]
    cases eqq l[i] m[i] <;> rfl
  · have h1:((l.length:Int) !=(m.length:Int))=true:=by simp;omega
    have h2:l≠m:=by rintro rfl;exact he rfl
    simp [h1,eqq_false.2 h2]
theorem ne_int (a b:Int):(a !=b)= !eqq a b:=by
  by_cases h:a=b
  · subst h;simp [eqq_self]
  · simp [eqq_false.2 h,h]
def anyN (n:Nat) (p:Nat→Bool):Bool:=(List.range n).any p
theorem anyN_iff {n:Nat} {p:Nat→Bool}:anyN n p=true↔∃ i,i<n∧p i=true:=by simp [anyN]
theorem anyN_false {n:Nat} {p:Nat→Bool}:anyN n p=false↔∀ i,i<n→p i=false:=by simp [anyN]
theorem anyN_congr {n:Nat} {p q:Nat→Bool} (h:∀ i,i<n→p i=q i):anyN n p=anyN n q:=by
  rw [Bool.eq_iff_iff,anyN_iff,anyN_iff]
  constructor
  · rintro ⟨i,hi,hp⟩;exact ⟨i,hi,by rw [← h i hi];exact hp⟩
  · rintro ⟨i,hi,hp⟩;exact ⟨i,hi,by rw [h i hi];exact hp⟩
theorem loop_any {R:Type} (n:Nat) (hn:n≤maxLen) (p:Nat→Bool) (hit z:Option R) {f:Int→(Int→Option R)→Option R}
    (hf:∀ (i:Nat) (k:Int→Option R),i<n→f (i:Int) k=bif p i then hit else k (IntKind.wrap .i64 ((i:Int)+1))) (hz:∀ k,f (n:Int) k=z):
    loopK FU f (0:Int)=bif anyN n p then hit else z:=by
  have key:=loop_up n hn (f:=f) (g:=fun i=>bif (List.range' i (n - i)).any p then hit else z) (fun i k hi hk=>by
      rw [hf i k hi,hk,show n - i=(n - (i+1))+1 by omega,List.range'_succ,List.any_cons]
      cases p i <;> rfl) (fun k=>by rw [hz];simp) 0 (Nat.zero_le _)
  rw [List.range'_eq_map_range] at key
  simpa [anyN] using key
theorem loop_find {R:Type} (n:Nat) (hn:n≤maxLen) (p:Nat→Bool) (hit:Nat→Option R) (z:Option R) {f:Int→(Int→Option R)→Option R}
    (hf:∀ (i:Nat) (k:Int→Option R),i<n→f (i:Int) k=bif p i then hit i else k (IntKind.wrap .i64 ((i:Int)+1))) (hz:∀ k,f (n:Int) k=z):
    loopK FU f (0:Int)=match (List.range n).find? p with
      | some i=>hit i
      | none=>z:=by
  have key:=loop_up n hn (f:=f) (g:=fun i=>match (List.range' i (n - i)).find? p with
      | some i=>hit i
      | none=>z) (fun i k hi hk=>by
      rw [hf i k hi,hk,show n - i=(n - (i+1))+1 by omega,List.range'_succ,List.find?_cons]
      cases p i <;> rfl) (fun k=>by rw [hz];simp) 0 (Nat.zero_le _)
  rw [← List.range_eq_range'] at key
  exact key
theorem find_none {n:Nat} {p:Nat→Bool} (h:anyN n p=false):(List.range n).find? p=none:=by
  rw [List.find?_eq_none]
  intro x hx
  rw [anyN_false.1 h x (List.mem_range.1 hx)];simp
theorem find_some {n:Nat} {p:Nat→Bool} {m:Nat} (hm:m<n) (hp:p m=true) (h:∀ i,i<m→p i=false):(List.range n).find? p=some m:=by
  rw [List.find?_eq_some_iff_append]
  refine ⟨hp,List.range m,(List.range' (m+1) (n - (m+1))),?_,fun a ha=>by rw [h a (List.mem_range.1 ha)];rfl⟩
  rw [List.range_eq_range',List.range_eq_range', ← List.range'_succ]
  have:=List.range'_append_1 (s:=0) (m:=m) (n:=n - (m+1)+1)
  rw [Nat.zero_add] at this
  rw [this];congr 1;omega
theorem any_least {n:Nat} {p:Nat→Bool} (h:anyN n p=true):∃ m,m<n∧p m=true∧∀ i,i<m→p i=false:=by
  obtain ⟨i,hi,hp⟩:=anyN_iff.1 h
  induction i using Nat.strongRecOn with
  | ind i ih=>
    by_cases hc:∃ j,j<i∧p j=true
    · obtain ⟨j,hj,hpj⟩:=hc
      exact ih j hj (by omega) hpj
    · refine ⟨i,hi,hp,fun j hj=>?_⟩
      cases hb:p j
      · rfl
      · exact absurd ⟨j,hj,hb⟩ hc
theorem loop_once {σ R:Type} {f:σ→(σ→Option R)→Option R} {x:σ} {z:Option R} (h:∀ k,f x k=z):loopK FU f x=z:=
  loop_FU (g:=fun _=>z) (f:=f) (fun y=>y=x) (fun _=>0) (fun y hy k _=>by subst hy;exact h k) rfl (by decide)
theorem at_any {α:Type} {l:List α} {i:Nat} (h:i<l.length) (q:α→Bool):(l[i]?).any q=q l[i]:=by
  rw [List.getElem?_eq_getElem h];rfl
end
end Go.D
namespace Go.D
theorem cond_some {α:Type} (b:Bool) (x y:α):cond b (some x) (some y)=some (cond b x y):=by cases b <;> rfl
theorem eqq_beq {α:Type} [BEq α] [LawfulBEq α] (a b:α):eqq a b=(a==b):=by
  rw [Bool.eq_iff_iff,eqq_true,beq_iff_eq]
theorem any_list {α:Type} (l:List α) (p:α→Bool):(anyN l.length fun i=>(l[i]?).any p)=l.any p:=by
  rw [Bool.eq_iff_iff,anyN_iff,List.any_eq_true]
  constructor
  · rintro ⟨i,hi,h⟩
    rw [at_any hi] at h
    exact ⟨l[i],List.getElem_mem hi,h⟩
  · rintro ⟨x,hx,h⟩
    obtain ⟨i,hi,rfl⟩:=List.getElem_of_mem hx
    exact ⟨i,hi,by rw [at_any hi];exact h⟩
theorem loop_list {α R:Type} (l:List α) (hl:l.length≤maxLen) (p:α→Bool) (hit z:Option R) {f:Int→(Int→Option R)→Option R}
    (hf:∀ (i:Nat) (k:Int→Option R) (h:i<l.length),f (i:Int) k=bif p l[i] then hit else k (IntKind.wrap .i64 ((i:Int)+1))) (hz:∀ k,f (l.length:Int) k=z):
    loopK FU f (0:Int)=bif l.any p then hit else z:=by
  rw [loop_any l.length hl (fun i=>(l[i]?).any p) hit z (fun i k hi=>by rw [hf i k hi,at_any hi]) hz,any_list]
theorem loop_anyF {R:Type} (a n:Nat) (hn:n≤maxLen) (p:Nat→Bool) (hit z:Option R) {f:Int→(Int→Option R)→Option R}
    (hf:∀ (i:Nat) (k:Int→Option R),i<n→f (i:Int) k=bif p i then hit else k (IntKind.wrap .i64 ((i:Int)+1))) (hz:∀ (i:Nat) k,n≤i→f (i:Int) k=z):
    loopK FU f (a:Int)=bif anyN n (fun i=>decide (a≤i)&&p i) then hit else z:=by
  have key:=loop_FU (f:=f) (g:=fun x:Int=>bif anyN n (fun i=>decide (x.toNat≤i)&&p i) then hit else z) (fun x=>0≤x) (fun x=>n - x.toNat) (fun x hx k hk=>by
    obtain ⟨j,rfl⟩:=Int.eq_ofNat_of_zero_le hx
    simp only [Int.toNat_natCast]
    by_cases hj:j<n
    · rw [hf j k hj,iadd_nat j (by omega)]
      cases hp:p j
      · simp only [cond_false]
        rw [hk ((j+1:Nat):Int) (by omega) (by simp only [Int.toNat_natCast];omega)]
        simp only [Int.toNat_natCast]
        congr 1
        refine anyN_congr fun i hi=>?_
        by_cases he:i=j
        · subst he;rw [hp];simp
        · have:decide (j+1≤i)=decide (j≤i):=by
            rw [decide_eq_decide];omega
          rw [this]
      · simp only [cond_true]
        rw [show anyN n (fun i=>decide (j≤i)&&p i)=true from anyN_iff.2 ⟨j,hj,by rw [hp];simp⟩];rfl
    · rw [hz j k (by omega)]
      rw [show anyN n (fun i=>decide (j≤i)&&p i)=false from anyN_false.2 fun i hi=>by
        rw [show decide (j≤i)=false by simp;omega];rfl];rfl) (x:=(a:Int)) (by omega) (by unfold maxLen at hn;simp only [Int.toNat_natCast];omega)
  rw [key]
  simp only [Int.toNat_natCast]
theorem irem_nat (n m:Nat):irem .i64 (n:Int) (m:Int)=((n % m:Nat):Int):=by
  rw [irem,Int.tmod_eq_emod_of_nonneg (by omega)];omega
theorem iquo_nat (n m:Nat) (h:n≤maxLen) (hm:0<m):iquo .i64 (n:Int) (m:Int)=((n / m:Nat):Int):=by
  have:=Nat.div_le_self n m
  rw [iquo,Int.tdiv_eq_ediv_of_nonneg (by omega), ← Int.natCast_ediv]
  generalize n / m=q at this
  rw [wrap_i64 (by omega) (by unfold maxLen at h;omega)]
theorem LIM_is:LIM=68719476736:=rfl
theorem maxLen_is:maxLen=9223372036854775807:=rfl
def findI (n:Nat) (p:Nat→Bool):Int:=match (List.range n).find? p with
  | some i=>(i:Int)
  | none=> -1
theorem loop_findI (n:Nat) (hn:n≤maxLen) (p:Nat→Bool) {f:Int→(Int→Option Int)→Option Int}
    (hf:∀ (i:Nat) (k:Int→Option Int),i<n→f (i:Int) k=bif p i then some (i:Int) else k (IntKind.wrap .i64 ((i:Int)+1))) (hz:∀ k,f (n:Int) k=some (-1)):
    loopK FU f (0:Int)=some (findI n p):=by
  rw [loop_find n hn p (fun i=>some (i:Int)) (some (-1)) hf hz,findI]
  cases (List.range n).find? p <;> rfl
theorem findI_none {n:Nat} {p:Nat→Bool} (h:anyN n p=false):findI n p= -1:=by rw [findI,find_none h]
theorem findI_some {n:Nat} {p:Nat→Bool} {m:Nat} (hm:m<n) (hp:p m=true) (h:∀ i,i<m→p i=false):findI n p=m:=by rw [findI,find_some hm hp h]
theorem findI_cases (n:Nat) (p:Nat→Bool):(anyN n p=false∧findI n p= -1)∨∃ m,m<n∧p m=true∧(∀ i,i<m→p i=false)∧findI n p=(m:Int):=by
  cases h:anyN n p
  · exact .inl ⟨rfl,findI_none h⟩
  · obtain ⟨m,h1,h2,h3⟩:=any_least h
    exact .inr ⟨m,h1,h2,h3,findI_some h1 h2 h3⟩
theorem findI_lt {n:Nat} {p:Nat→Bool} {i:Nat} (hi:i<n) (hp:p i=true):decide (findI n p<(i:Int))=anyN i p∧(findI n p !=(i:Int))=anyN i p:=by
  rcases findI_cases n p with ⟨h1,_⟩ | ⟨m,h1,h2,h3,h4⟩
  · rw [anyN_false.1 h1 i hi] at hp;cases hp
  · rw [h4]
    by_cases hm:m<i
    · rw [show anyN i p=true from anyN_iff.2 ⟨m,hm,h2⟩]
      exact ⟨decide_eq_true (by omega),bne_iff_ne.2 (by omega)⟩
    · have:m=i:=by
        rcases Nat.lt_or_ge i m with h | h
        · rw [h3 i h] at hp;cases hp
        · omega
      subst this
      rw [show anyN m p=false from anyN_false.2 h3]
      exact ⟨decide_eq_false (by omega),by simp⟩
theorem loop_elem {α R:Type} (l:List α) (hl:l.length≤maxLen) (p:α→Bool) (hit:α→Option R) (z:Option R) {f:Int→(Int→Option R)→Option R}
    (hf:∀ (i:Nat) (k:Int→Option R) (h:i<l.length),f (i:Int) k=bif p l[i] then hit l[i] else k (IntKind.wrap .i64 ((i:Int)+1))) (hz:∀ k,f (l.length:Int) k=z):
    loopK FU f (0:Int)=match l.find? p with
      | some e=>hit e
      | none=>z:=by
  have key:=loop_up l.length hl (f:=f) (g:=fun i=>match (l.drop i).find? p with
      | some e=>hit e
      | none=>z) (fun i k hi hk=>by
      rw [hf i k hi,hk,drop_next l hi,List.find?_cons]
      cases p l[i] <;> rfl) (fun k=>by rw [hz];simp) 0 (Nat.zero_le _)
  simpa using key
theorem loop_fold {α σ R:Type} (l:List α) (hl:l.length≤maxLen) (g:σ→α→σ) (fin:σ→Option R) {f:σ × Int→(σ × Int→Option R)→Option R}
    (hf:∀ (i:Nat) (s:σ) (k:σ × Int→Option R) (h:i<l.length),f (s,(i:Int)) k=k (g s l[i],IntKind.wrap .i64 ((i:Int)+1))) (hz:∀ s k,f (s,(l.length:Int)) k=fin s) (s0:σ):
    loopK FU f (s0,(0:Int))=fin (l.foldl g s0):=by
  have key:=loop_FU (f:=f) (g:=fun x:σ × Int=>fin ((l.drop x.2.toNat).foldl g x.1)) (fun x=>0≤x.2∧x.2≤l.length) (fun x=>l.length - x.2.toNat) (fun x hx k hk=>by
    obtain ⟨s,i⟩:=x
    obtain ⟨h0,h1⟩:=hx
    simp only at h0 h1
    obtain ⟨j,rfl⟩:=Int.eq_ofNat_of_zero_le h0
    simp only [Int.toNat_natCast]
    by_cases hj:j<l.length
    · rw [hf j s k hj,iadd_nat j (by omega)]
      rw [hk (g s l[j],((j+1:Nat):Int)) ⟨by show (0:Int)≤((j+1:Nat):Int);omega,by show ((j+1:Nat):Int)≤l.length;omega⟩ (by simp only [Int.toNat_natCast];omega)]
      simp only [Int.toNat_natCast]
      rw [drop_next l hj,List.foldl_cons]
    · have:j=l.length:=by omega
      subst this
      rw [hz];simp) (x:=(s0,(0:Int))) ⟨Int.le_refl _,by show (0:Int)≤l.length;omega⟩ (by show l.length - Int.toNat 0<2^64;unfold maxLen at hl;simp;omega)
  rw [key];simp
theorem len_lim {α:Type} [Wt α] {l:List α} (h:wt l≤LIM):l.length≤maxLen:=by
  have:=wt_len l
  have:=LIM_is
  have:=maxLen_is
  omega
end Go.D
namespace Go.D
end Go.D

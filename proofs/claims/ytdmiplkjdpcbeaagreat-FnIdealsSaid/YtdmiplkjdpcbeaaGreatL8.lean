/-
 Short names for what the plain semantics computes with numbers.
-/
import Derived.Test.YtdmiplkjdpcbeaaGreatL7
namespace Go.D
def UD (k:Nat):List (Nat × NB)→Option NB
 | []=>none
 | (j,x) :: r=>bif Nat.beq j k then some x else UD k r
@[reducible] def cA (k:IntKind) (a b:Int):Int:=k.wrap (a+b)
@[reducible] def sA (k:IntKind) (a b:Int):Int:=k.wrap (a - b)
@[reducible] def LB (k:IntKind) (a b:Int):Int:=k.wrap (a *b)
def JB (k:IntKind) (a b:Int):Int:=k.wrap (BitVec.ofInt k.bits a&&&BitVec.ofInt k.bits b).toNat
def YR (k:IntKind) (a b:Int):Int:=k.wrap (BitVec.ofInt k.bits a|||BitVec.ofInt k.bits b).toNat
def bC (k:IntKind) (a b:Int):Int:=k.wrap (BitVec.ofInt k.bits a^^^BitVec.ofInt k.bits b).toNat
def zqh (k:IntKind) (a b:Int):Int:=k.wrap (BitVec.ofInt k.bits a&&& ~~~ BitVec.ofInt k.bits b).toNat
def aS (k:IntKind) (a b:Int):Int:=k.wrap (a *2^(min b.toNat k.bits))
def wE (k:IntKind) (a b:Int):Int:=a.fdiv (2^(min b.toNat k.bits))
def SC (k:IntKind) (a b:Int):Int:=k.wrap (a.tdiv b)
def GA (_:IntKind) (a b:Int):Int:=a.tmod b
def zg2 (P:Program) (p:TypeId × TN):Bool:=match P.info? p.1 with
 | some i=>Nat.beq i.size (sz p.2)&&Nat.ble i.bytes 1024&&(match i.zero with
  | some z=>Nat.beq z.cells.size (sz p.2)
  | none=>false)
 | none=>false
def YU (P:Program) (l:List (TypeId × TN)):Bool:=l.all (zg2 P)
theorem zbl {α:Type} {k:Nat} {x:α}:∀ {l:List (Nat × α)},SB k l=some x→(k,x) ∈ l
 | [],h=>by simp [SB] at h
 | (j,y) :: r,h=>by
  simp only [SB] at h
  cases hb:Nat.beq j k
  ·simp only [hb,cond_false] at h;exact List.mem_cons_of_mem _ (zbl h)
  ·simp only [hb,cond_true,Option.some.injEq] at h
   have:=Nat.eq_of_beq_eq_true hb
   subst this h;simp
class OM (l:List (TypeId × TN)) extends fA where
 is:∀ e t,SB e l=some t→tn e=some t
theorem zg3 {P:Program} {l:List (TypeId × TN)} [OM l] (hm:P.follows .mixedOrders=true) (h:YU P l=true) (Φ:Nat→Option NB) (n:Nat) (g:Gl):yD ⟨P,fun t=>SB t l,Φ,n,g⟩:=by
 refine ⟨hm,fun e t he=>?_,fun e t he=>OM.is (l:=l) e t he⟩
 have h1:=List.all_eq_true.1 h _ (zbl he)
 simp only [zg2] at h1
 split at h1
 case h_2=>cases h1
 rename_i i hi
 simp only [Bool.and_eq_true] at h1
 obtain ⟨⟨h2,h3⟩,h4⟩:=h1
 split at h4
 case h_2=>cases h4
 rename_i z hz
 exact ⟨i,z,hi,Nat.eq_of_beq_eq_true h2,Nat.le_of_ble_eq_true h3,hz,Nat.eq_of_beq_eq_true h4⟩
theorem kL [fA] {P:Program} {tn:TypeId→Option TN} {n:Nat} {g:Gl}:RD ⟨P,tn,fun f=>UD f [],n,g⟩:=⟨fun _ _ h=>by cases h⟩
theorem IC [fA] {P:Program} {tn:TypeId→Option TN} {n g:Nat} {ci:NB} {l:List (Nat × NB)} {gl:Gl} (h:eA P (g % 1048576) ci gl) (k:RD ⟨P,tn,fun f=>UD f l,n,gl⟩):RD ⟨P,tn,fun f=>UD f ((g,ci) :: l),n,gl⟩:=⟨fun f c hf=>by
 simp only [UD] at hf
 cases hb:Nat.beq g f
 ·simp only [hb,cond_false] at hf;exact k.ok f c hf
 ·simp only [hb,cond_true,Option.some.injEq] at hf
  have:=Nat.eq_of_beq_eq_true hb
  subst this hf;exact h⟩
theorem zqN {P:Program} {l:List (TypeId × TN)} {D:Nat} (h:(l.all fun p=>decide (MF P (fun t=>SB t l) D p.1=some (lk p.2))&&Nat.beq (P.cellsOf p.1) (sz p.2))=true):WH P (fun t=>SB t l) D:=⟨fun e t he=>by
 have h1:=List.all_eq_true.1 h _ (zbl he)
 simp only [Bool.and_eq_true,decide_eq_true_eq] at h1
 exact ⟨h1.1,Nat.eq_of_beq_eq_true h1.2⟩⟩
def gA (ks:List ZA) (ats rts:List Ty) (F:lA ats→Option (lA rts)) (sh:List (Bool × Nat)) (own:List Nat) (pb:Bool):NB:=
 ⟨ks,lA ats,lA rts,jC ats,F,KC rts,sh,own,pb⟩
theorem yK {P:Program} {tl:List (TypeId × TN)} [OM tl] {f:Nat} {fn:Func} {ks:List ZA} {ats rts:List Ty} {F:lA ats→Option (lA rts)} {sh:List (Bool × Nat)} {own:List Nat} (n:Nat) {l:List (Nat × NB)} {g:Gl}
  (hm:P.follows .mixedOrders=true) (ht:YU P tl=true) (hΦ:RD ⟨P,fun t=>SB t tl,fun f=>UD f l,n,g⟩) (hf:P.funcs[f]?=some fn) (an:An) (Raw:lA ats→Option (lA rts))
  (h0 : (fn.body.isSome && !(fn.name == "runtime.NumGoroutine") && Nat.beq n fn.ntmps && HB ks ats && Nat.ble ks.length fn.ntmps) = true)
  (he:∀ x,iN ⟨P,fun t=>SB t tl,fun f=>UD f l,n,g⟩ fn (fn.body.getD .skip) an ks own sh rts (WA ats x)=Raw x) (uY:∀ x r,rA ats x→F x=some r→Raw x=some r):
  eA P f (gA ks ats rts F sh own false) g:=by
 simp only [Bool.and_eq_true,Bool.not_eq_true'] at h0
 obtain ⟨⟨⟨⟨h1,h2⟩,h3⟩,h4⟩,h5⟩:=h0
 obtain ⟨b,hb⟩:=Option.isSome_iff_exists.1 h1
 have hbd:fn.body.getD .skip=b:=by rw [hb];rfl
 exact zpM (C:=⟨P,fun t=>SB t tl,fun f=>UD f l,n,g⟩) (zg3 hm ht _ _ _) hΦ hf hb h2 (Nat.eq_of_beq_eq_true h3) an ks own sh ats rts F h4 h5 fun x r hx hr=>by
  have:=he x
  rw [hbd] at this
  exact this.trans (uY x r hx hr)
theorem evP {P:Program} {tl:List (TypeId × TN)} [OM tl] {f:Nat} {fn:Func} {m:Nat} {ats rts:List Ty} {F:lA ats→Option (lA rts)} {sh:List (Bool × Nat)} (n:Nat) {l:List (Nat × NB)} {g:Gl}
  (hm:P.follows .mixedOrders=true) (ht:YU P tl=true) (hΦ:RD ⟨P,fun t=>SB t tl,fun f=>UD f l,n,g⟩) (hf:P.funcs[f]?=some fn) (an:An) (Raw:lA ats→Option (lA rts))
  (h0 : (fn.body.isSome && !(fn.name == "runtime.NumGoroutine") && Nat.beq n fn.ntmps && HB (kA m) ats && Nat.ble m fn.ntmps) = true)
  (he:∀ x,YQ ⟨P,fun t=>SB t tl,fun f=>UD f l,n,g⟩ fn (fn.body.getD .skip) an (kA m) rts (WA ats x)=Raw x) (uY:∀ x r,rA ats x→F x=some r→Raw x=some r):
  eA P f (gA (kA m) ats rts F sh [] true) g:=by
 simp only [Bool.and_eq_true,Bool.not_eq_true'] at h0
 obtain ⟨⟨⟨⟨h1,h2⟩,h3⟩,h4⟩,h5⟩:=h0
 obtain ⟨b,hb⟩:=Option.isSome_iff_exists.1 h1
 have hbd:fn.body.getD .skip=b:=by rw [hb];rfl
 exact zpN (C:=⟨P,fun t=>SB t tl,fun f=>UD f l,n,g⟩) (zg3 hm ht _ _ _) hΦ hf hb h2 (Nat.eq_of_beq_eq_true h3) an m sh ats rts F h4 h5 fun x r hx hr=>by
  have:=he x
  rw [hbd] at this
  exact this.trans (uY x r hx hr)
end Go.D
namespace Go.D
theorem zfo {σ R:Type} {f:σ→(σ→Option R)→Option R} {g:σ→Option R} {inv:σ→Prop} {μ:σ→Nat}
  (h:∀ x,inv x→∀ k:σ→Option R,(∀ y,inv y→μ y<μ x→k y=g y)→f x k=g x):∀ (n:Nat) (x:σ),inv x→μ x<n→tA n f x=g x
 | 0,x,_,hn=>by omega
 | n+1,x,hx,hn=>h x hx (tA n f) fun y hy RV=>zfo h n y hy (by omega)
theorem TE {σ R:Type} {f:σ→(σ→Option R)→Option R} {g:σ→Option R} (inv:σ→Prop) (μ:σ→Nat)
  (h:∀ x,inv x→∀ k:σ→Option R,(∀ y,inv y→μ y<μ x→k y=g y)→f x k=g x) {x:σ} (hx:inv x) (hμ:μ x<2^64):tA FU f x=g x:=by
 rw [oV];exact zfo h _ x hx hμ
theorem fC {n:Int} (h1: -9223372036854775808≤n) (h2:n≤9223372036854775807):IntKind.wrap .i64 n=n:=by
 simp only [IntKind.wrap]
 first
  | (simp [IntKind.bits,IntKind.signed];omega)
  | (unfold IntKind.bits;simp;omega)
theorem XC (i:Nat) (h:i<maxLen):IntKind.wrap .i64 ((i:Int)+1)=((i+1:Nat):Int):=by
 unfold maxLen at h
 rw [fC (by omega) (by omega)];omega
theorem gS {R:Type} (n:Nat) (hn:n≤maxLen) {f:Int→(Int→Option R)→Option R} {g:Nat→Option R}
  (h:∀ (i:Nat) (k:Int→Option R),i<n→k (IntKind.wrap .i64 ((i:Int)+1))=g (i+1)→f (i:Int) k=g i) (hz:∀ k,f (n:Int) k=g n) (i:Nat) (hi:i≤n):tA FU f (i:Int)=g i:=by
 have:=TE (g:=fun x:Int=>g x.toNat) (f:=f) (fun x=>0≤x∧x≤n) (fun x=>n - x.toNat) (fun x hx k hk=>by
  obtain ⟨j,rfl⟩:=Int.eq_ofNat_of_zero_le hx.1
  have hj:j≤n:=by omega
  simp only [Int.toNat_natCast]
  rcases Nat.lt_or_eq_of_le hj with RV | rfl
  ·refine h j k RV ?_
   rw [XC j (by omega)]
   have:=hk ((j+1:Nat):Int) (by omega) (by omega)
   rw [this];simp
  ·exact hz k) (x:=(i:Int)) ⟨by omega,by omega⟩ (by unfold maxLen at hn;simp only [Int.toNat_natCast];omega)
 rw [this];simp
theorem zfq {σ R:Type} (n:Nat) (hn:n≤maxLen) {f:Int × σ→(Int × σ→Option R)→Option R} {g:Nat→σ→Option R} (inv:Nat→σ→Prop)
  (h:∀ (i:Nat) (s:σ) (k:Int × σ→Option R),i<n→inv i s→(∀ t,inv (i+1) t→k (IntKind.wrap .i64 ((i:Int)+1),t)=g (i+1) t)→f ((i:Int),s) k=g i s)
  (hz:∀ s k,inv n s→f ((n:Int),s) k=g n s) (i:Nat) (s:σ) (hi:i≤n) (hs:inv i s):tA FU f ((i:Int),s)=g i s:=by
 have:=TE (g:=fun x:Int × σ=>g x.1.toNat x.2) (f:=f) (fun x=>0≤x.1∧x.1≤n∧inv x.1.toNat x.2) (fun x=>n - x.1.toNat) (fun x hx k hk=>by
  obtain ⟨x,s⟩:=x
  obtain ⟨h0,h1,h2⟩:=hx
  simp only at h0 h1 h2
  obtain ⟨j,rfl⟩:=Int.eq_ofNat_of_zero_le h0
  have hj:j≤n:=by omega
  simp only [Int.toNat_natCast] at h2 ⊢
  rcases Nat.lt_or_eq_of_le hj with RV | rfl
  ·refine h j s k RV h2 fun t ht=>?_
   rw [XC j (by omega)]
   have:=hk (((j+1:Nat):Int),t) ⟨by show (0:Int)≤((j+1:Nat):Int);omega,by show ((j+1:Nat):Int)≤n;omega,by simpa using ht⟩ (by simp only [Int.toNat_natCast];omega)
   rw [this];simp
  ·exact hz s k h2) (x:=((i:Int),s)) ⟨by show (0:Int)≤(i:Int);omega,by show (i:Int)≤n;omega,by simpa using hs⟩ (by unfold maxLen at hn;simp only [Int.toNat_natCast];omega)
 rw [this];simp
theorem ze1 {α:Type} (l:List α) (i:Nat):pA l (i:Int)=l[i]?:=by simp [pA]
theorem nB {α:Type} {l:List α} {i:Nat} (h:i<l.length):pA l (i:Int)=some l[i]:=by rw [ze1,List.getElem?_eq_getElem h]
theorem dB {α β:Type} (a:α) (f:α→Option β):Option.bind (some a) f=f a:=rfl
theorem PP {t:TN} {x:El t} {k:IntKind} {n:Int} (h:BF t x) (j:Nat) (hj:j<sz t) (he:(enc t x).getD j .undef= .int k n):VC k n:=(he ▸ h j hj).fits
theorem fR {n:Int} (h:VC .i64 n): -9223372036854775808≤n∧n≤9223372036854775807:=by
 obtain ⟨h1,h2⟩:=h
 simp [IntKind.min,IntKind.max,IntKind.signed,IntKind.bits] at h1 h2
 omega
end Go.D
namespace Go.D
noncomputable section
def ED {α:Type} (a b:α):Bool:=@decide (a=b) (Classical.propDecidable _)
theorem gN {α:Type} {a b:α}:ED a b=true↔a=b:=by simp [ED]
theorem zpL {α:Type} (a:α):ED a a=true:=gN.2 rfl
theorem zeI {α:Type} {a b:α}:ED a b=false↔a≠b:=by simp [ED]
def pt {α:Type} (p:Prop) (x:α):Option α:=@ite _ p (Classical.propDecidable p) (some x) none
theorem XA {α:Type} {p:Prop} {x:α} (h:p):pt p x=some x:=if_pos h
theorem zsd {α:Type} {p:Prop} {x r:α} (h:pt p x=some r):p∧x=r:=by
 unfold pt at h
 split at h
 ·cases h;exact ⟨‹p›,rfl⟩
 ·cases h
theorem HA {α:Type} {p:Prop} {x r:α} {o:Option α} (h:p→o=some x) (hp:pt p x=some r):o=some r:=by
 obtain ⟨h1,rfl⟩:=zsd hp
 exact h h1
theorem QA {α β:Type} {p:Prop} {x:α} {f:α→Option β} (h:p):Option.bind (pt p x) f=f x:=by rw [XA h];rfl
class Wt (α:Type) where
 of:α→Nat
def wt {α:Type} [Wt α] (x:α):Nat:=Wt.of x
instance:Wt UInt8:=⟨fun _=>0⟩
instance:Wt Int:=⟨fun _=>0⟩
instance:Wt Bool:=⟨fun _=>0⟩
def wtl {α:Type} [Wt α]:List α→Nat
 | []=>0
 | x :: l=>wt x+wtl l+1
instance {α:Type} [Wt α]:Wt (List α):=⟨wtl⟩
theorem BG {α:Type} [Wt α]:wt ([]:List α)=0:=rfl
theorem fD {α:Type} [Wt α] (x:α) (l:List α):wt (x :: l)=wt x+wt l+1:=rfl
theorem iV {α:Type} [Wt α]:∀ (l m:List α),wt (l++m)=wt l+wt m
 | [],m=>by simp [BG]
 | x :: l,m=>by rw [List.cons_append,fD,fD,iV l m];omega
theorem CB {α:Type} [Wt α]:∀ l:List α,l.length≤wt l
 | []=>Nat.le_refl _
 | x :: l=>by rw [fD,List.length_cons];have:=CB l;omega
theorem kV {α:Type} [Wt α] {x:α}:∀ {l:List α},x ∈ l→wt x+1≤wt l
 | [],h=>by cases h
 | y :: l,h=>by
  rw [fD]
  rcases List.mem_cons.1 h with rfl | h
  ·omega
  ·have:=kV h;omega
theorem mD {α:Type} [Wt α] {l:List α} {i:Nat} (h:i<l.length):wt l[i]+1≤wt l:=kV (List.getElem_mem h)
theorem FE {α:Type} [Wt α] (l:List α) (n:Nat):wt (l.take n)≤wt l:=by
 have:=iV (l.take n) (l.drop n)
 rw [List.take_append_drop] at this;omega
theorem oH {α:Type} [Wt α] (l:List α) (n:Nat):wt (l.drop n)≤wt l:=by
 have:=iV (l.take n) (l.drop n)
 rw [List.take_append_drop] at this;omega
theorem lV {α:Type} [Wt α] (h:∀ x:α,wt x=0):∀ l:List α,wt l=l.length
 | []=>rfl
 | x :: l=>by rw [fD,List.length_cons,lV h l,h];omega
theorem LA (l:List UInt8):wt l=l.length:=lV (fun _=>rfl) l
theorem UI (l:List Int):wt l=l.length:=lV (fun _=>rfl) l
theorem zhy {n:Int} (h:BF .int n):n≤9223372036854775807:=(fR (PP h 0 (by decide) rfl)).2
def KA {α:Type} [Wt α] (a:α):Option α:=pt (wt a≤bA) a
theorem zsT {α:Type} (l r:List α) (x y:α) {i:Nat} (h:l.length=i):List.set (l++x :: r) i y=l++y :: r:=by
 subst h;simp
theorem EM {α:Type} (l:List α) {i:Nat} (h:i<l.length):l.take (i+1)=l.take i++[l[i]]:=by
 rw [List.take_succ_eq_append_getElem h]
theorem kI {α:Type} (l:List α) {i:Nat} (h:i<l.length):l.drop i=l[i] :: l.drop (i+1):=List.drop_eq_getElem_cons h
theorem zpK {α:Type} (a b:α) (l m:List α):ED (a :: l) (b :: m)=(ED a b&&ED l m):=by
 rw [Bool.eq_iff_iff,Bool.and_eq_true,gN,gN,gN]
 exact List.cons_eq_cons
theorem zoU {α:Type} (l m:List α) (hl:l.length≤maxLen) (he:l.length=m.length) {f:Int→(Int→Option Bool)→Option Bool}
  (hf:∀ (i:Nat) (k:Int→Option Bool) (h:i<l.length) (h':i<m.length),f (i:Int) k=bif ED l[i] m[i] then k (IntKind.wrap .i64 ((i:Int)+1)) else some false)
  (hz:∀ k,f (l.length:Int) k=some true):tA FU f (0:Int)=some (ED l m):=by
 have:=gS l.length hl (f:=f) (g:=fun i=>some (ED (l.drop i) (m.drop i))) (fun i k hi hk=>by
   have CW:i<m.length:=by omega
   rw [hf i k hi CW,hk,kI l hi,kI m CW,zpK]
   cases ED l[i] m[i] <;> rfl) (fun k=>by
   rw [hz,List.drop_eq_nil_of_le (Nat.le_refl _),List.drop_eq_nil_of_le (by omega)];simp [ED]) 0 (Nat.zero_le _)
 simpa using this
theorem zoT {α:Type} (l m:List α) (hl:l.length≤maxLen) (ne:α→α→Bool) (RY:∀ a b,ne a b= !ED a b):
  (cond ((l.length:Int) !=(m.length:Int)) (some false) (aA (fun (_:Unit)=>some true) fun k2=>
   tA FU (fun (x3:Int) k4=>cond (decide (x3<(l.length:Int))) (Option.bind (pA l x3) fun e5=>Option.bind (pA m x3) fun e6=>
    cond (ne e5 e6) (some false) (k4 (cA .i64 x3 1))) (k2 ())) 0))=some (ED l m):=by
 by_cases he:l.length=m.length
 ·have h1:((l.length:Int) !=(m.length:Int))=false:=by simp [he]
  simp only [h1,cond_false,aA]
  refine zoU l m hl he (fun i k hi CW=>?_) (fun k=>by simp)
  have h2:decide ((i:Int)<(l.length:Int))=true:=by simp;exact hi
  simp only [h2,cond_true,nB hi,nB CW,dB,RY]
  cases ED l[i] m[i] <;> rfl
 ·have h1:((l.length:Int) !=(m.length:Int))=true:=by simp;omega
  have h2:l≠m:=by rintro rfl;exact he rfl
  simp [h1,zeI.2 h2]
theorem zrg (a b:Int):(a !=b)= !ED a b:=by
 by_cases h:a=b
 ·subst h;simp [zpL]
 ·simp [zeI.2 h,h]
def YA (n:Nat) (p:Nat→Bool):Bool:=(List.range n).any p
theorem EG {n:Nat} {p:Nat→Bool}:YA n p=true↔∃ i,i<n∧p i=true:=by simp [YA]
theorem ZH {n:Nat} {p:Nat→Bool}:YA n p=false↔∀ i,i<n→p i=false:=by simp [YA]
theorem zcx {n:Nat} {p q:Nat→Bool} (h:∀ i,i<n→p i=q i):YA n p=YA n q:=by
 rw [Bool.eq_iff_iff,EG,EG]
 constructor
 ·rintro ⟨i,hi,hp⟩;exact ⟨i,hi,by rw [← h i hi];exact hp⟩
 ·rintro ⟨i,hi,hp⟩;exact ⟨i,hi,by rw [h i hi];exact hp⟩
theorem UE {R:Type} (n:Nat) (hn:n≤maxLen) (p:Nat→Bool) (vX z:Option R) {f:Int→(Int→Option R)→Option R}
  (hf:∀ (i:Nat) (k:Int→Option R),i<n→f (i:Int) k=bif p i then vX else k (IntKind.wrap .i64 ((i:Int)+1))) (hz:∀ k,f (n:Int) k=z):
  tA FU f (0:Int)=bif YA n p then vX else z:=by
 have key:=gS n hn (f:=f) (g:=fun i=>bif (List.range' i (n - i)).any p then vX else z) (fun i k hi hk=>by
   rw [hf i k hi,hk,show n - i=(n - (i+1))+1 by omega,List.range'_succ,List.any_cons]
   cases p i <;> rfl) (fun k=>by rw [hz];simp) 0 (Nat.zero_le _)
 rw [List.range'_eq_map_range] at key
 simpa [YA] using key
theorem zq2 {R:Type} (n:Nat) (hn:n≤maxLen) (p:Nat→Bool) (vX:Nat→Option R) (z:Option R) {f:Int→(Int→Option R)→Option R}
  (hf:∀ (i:Nat) (k:Int→Option R),i<n→f (i:Int) k=bif p i then vX i else k (IntKind.wrap .i64 ((i:Int)+1))) (hz:∀ k,f (n:Int) k=z):
  tA FU f (0:Int)=match (List.range n).find? p with
   | some i=>vX i
   | none=>z:=by
 have key:=gS n hn (f:=f) (g:=fun i=>match (List.range' i (n - i)).find? p with
   | some i=>vX i
   | none=>z) (fun i k hi hk=>by
   rw [hf i k hi,hk,show n - i=(n - (i+1))+1 by omega,List.range'_succ,List.find?_cons]
   cases p i <;> rfl) (fun k=>by rw [hz];simp) 0 (Nat.zero_le _)
 rw [← List.range_eq_range'] at key
 exact key
theorem zp3 {n:Nat} {p:Nat→Bool} (h:YA n p=false):(List.range n).find? p=none:=by
 rw [List.find?_eq_none]
 intro x hx
 rw [ZH.1 h x (List.mem_range.1 hx)];simp
theorem zp4 {n:Nat} {p:Nat→Bool} {m:Nat} (hm:m<n) (hp:p m=true) (h:∀ i,i<m→p i=false):(List.range n).find? p=some m:=by
 rw [List.find?_eq_some_iff_append]
 refine ⟨hp,List.range m,(List.range' (m+1) (n - (m+1))),?_,fun a ha=>by rw [h a (List.mem_range.1 ha)];rfl⟩
 rw [List.range_eq_range',List.range_eq_range', ← List.range'_succ]
 have:=List.range'_append_1 (s:=0) (m:=m) (n:=n - (m+1)+1)
 rw [Nat.zero_add] at this
 rw [this];congr 1;omega
theorem zhr {n:Nat} {p:Nat→Bool} (h:YA n p=true):∃ m,m<n∧p m=true∧∀ i,i<m→p i=false:=by
 obtain ⟨i,hi,hp⟩:=EG.1 h
 induction i using Nat.strongRecOn with
 | ind i ih=>
  by_cases hc:∃ j,j<i∧p j=true
  ·obtain ⟨j,hj,hpj⟩:=hc
   exact ih j hj (by omega) hpj
  ·refine ⟨i,hi,hp,fun j hj=>?_⟩
   cases hb:p j
   ·rfl
   ·exact absurd ⟨j,hj,hb⟩ hc
theorem pC {α:Type} {l:List α} {i:Nat} (h:i<l.length) (q:α→Bool):(l[i]?).any q=q l[i]:=by
 rw [List.getElem?_eq_getElem h];rfl
end
end Go.D
namespace Go.D
theorem jB {α:Type} (b:Bool) (x y:α):cond b (some x) (some y)=some (cond b x y):=by cases b <;> rfl
theorem zpJ {α:Type} [BEq α] [LawfulBEq α] (a b:α):ED a b=(a==b):=by
 rw [Bool.eq_iff_iff,gN,beq_iff_eq]
theorem zhs {α:Type} (l:List α) (p:α→Bool):(YA l.length fun i=>(l[i]?).any p)=l.any p:=by
 rw [Bool.eq_iff_iff,EG,List.any_eq_true]
 constructor
 ·rintro ⟨i,hi,h⟩
  rw [pC hi] at h
  exact ⟨l[i],List.getElem_mem hi,h⟩
 ·rintro ⟨x,hx,h⟩
  obtain ⟨i,hi,rfl⟩:=List.getElem_of_mem hx
  exact ⟨i,hi,by rw [pC hi];exact h⟩
theorem gL {α R:Type} (l:List α) (hl:l.length≤maxLen) (p:α→Bool) (vX z:Option R) {f:Int→(Int→Option R)→Option R}
  (hf:∀ (i:Nat) (k:Int→Option R) (h:i<l.length),f (i:Int) k=bif p l[i] then vX else k (IntKind.wrap .i64 ((i:Int)+1))) (hz:∀ k,f (l.length:Int) k=z):
  tA FU f (0:Int)=bif l.any p then vX else z:=by
 rw [UE l.length hl (fun i=>(l[i]?).any p) vX z (fun i k hi=>by rw [hf i k hi,pC hi]) hz,zhs]
theorem zqZ {R:Type} (a n:Nat) (hn:n≤maxLen) (p:Nat→Bool) (vX z:Option R) {f:Int→(Int→Option R)→Option R}
  (hf:∀ (i:Nat) (k:Int→Option R),i<n→f (i:Int) k=bif p i then vX else k (IntKind.wrap .i64 ((i:Int)+1))) (hz:∀ (i:Nat) k,n≤i→f (i:Int) k=z):
  tA FU f (a:Int)=bif YA n (fun i=>decide (a≤i)&&p i) then vX else z:=by
 have key:=TE (f:=f) (g:=fun x:Int=>bif YA n (fun i=>decide (x.toNat≤i)&&p i) then vX else z) (fun x=>0≤x) (fun x=>n - x.toNat) (fun x hx k hk=>by
  obtain ⟨j,rfl⟩:=Int.eq_ofNat_of_zero_le hx
  simp only [Int.toNat_natCast]
  by_cases hj:j<n
  ·rw [hf j k hj,XC j (by omega)]
   cases hp:p j
   ·simp only [cond_false]
    rw [hk ((j+1:Nat):Int) (by omega) (by simp only [Int.toNat_natCast];omega)]
    simp only [Int.toNat_natCast]
    congr 1
    refine zcx fun i hi=>?_
    by_cases he:i=j
    ·subst he;rw [hp];simp
    ·have:decide (j+1≤i)=decide (j≤i):=by
      rw [decide_eq_decide];omega
     rw [this]
   ·simp only [cond_true]
    rw [show YA n (fun i=>decide (j≤i)&&p i)=true from EG.2 ⟨j,hj,by rw [hp];simp⟩];rfl
  ·rw [hz j k (by omega)]
   rw [show YA n (fun i=>decide (j≤i)&&p i)=false from ZH.2 fun i hi=>by
    rw [show decide (j≤i)=false by simp;omega];rfl];rfl) (x:=(a:Int)) (by omega) (by unfold maxLen at hn;simp only [Int.toNat_natCast];omega)
 rw [key]
 simp only [Int.toNat_natCast]
theorem ZR (n m:Nat):GA .i64 (n:Int) (m:Int)=((n % m:Nat):Int):=by
 rw [GA,Int.tmod_eq_emod_of_nonneg (by omega)];omega
theorem zqI (n m:Nat) (h:n≤maxLen) (hm:0<m):SC .i64 (n:Int) (m:Int)=((n / m:Nat):Int):=by
 have:=Nat.div_le_self n m
 rw [SC,Int.tdiv_eq_ediv_of_nonneg (by omega), ← Int.natCast_ediv]
 generalize n / m=q at this
 rw [fC (by omega) (by unfold maxLen at h;omega)]
theorem qA:bA=68719476736:=rfl
theorem QC:maxLen=9223372036854775807:=rfl
def IF (n:Nat) (p:Nat→Bool):Int:=match (List.range n).find? p with
 | some i=>(i:Int)
 | none=> -1
theorem zfn (n:Nat) (hn:n≤maxLen) (p:Nat→Bool) {f:Int→(Int→Option Int)→Option Int}
  (hf:∀ (i:Nat) (k:Int→Option Int),i<n→f (i:Int) k=bif p i then some (i:Int) else k (IntKind.wrap .i64 ((i:Int)+1))) (hz:∀ k,f (n:Int) k=some (-1)):
  tA FU f (0:Int)=some (IF n p):=by
 rw [zq2 n hn p (fun i=>some (i:Int)) (some (-1)) hf hz,IF]
 cases (List.range n).find? p <;> rfl
theorem zp0 {n:Nat} {p:Nat→Bool} (h:YA n p=false):IF n p= -1:=by rw [IF,zp3 h]
theorem zp1 {n:Nat} {p:Nat→Bool} {m:Nat} (hm:m<n) (hp:p m=true) (h:∀ i,i<m→p i=false):IF n p=m:=by rw [IF,zp4 hm hp h]
theorem bR (n:Nat) (p:Nat→Bool):(YA n p=false∧IF n p= -1)∨∃ m,m<n∧p m=true∧(∀ i,i<m→p i=false)∧IF n p=(m:Int):=by
 cases h:YA n p
 ·exact .inl ⟨rfl,zp0 h⟩
 ·obtain ⟨m,h1,h2,h3⟩:=zhr h
  exact .inr ⟨m,h1,h2,h3,zp1 h1 h2 h3⟩
theorem za0 {n:Nat} {p:Nat→Bool} {i:Nat} (hi:i<n) (hp:p i=true):decide (IF n p<(i:Int))=YA i p∧(IF n p !=(i:Int))=YA i p:=by
 rcases bR n p with ⟨h1,_⟩ | ⟨m,h1,h2,h3,h4⟩
 ·rw [ZH.1 h1 i hi] at hp;cases hp
 ·rw [h4]
  by_cases hm:m<i
  ·rw [show YA i p=true from EG.2 ⟨m,hm,h2⟩]
   exact ⟨decide_eq_true (by omega),bne_iff_ne.2 (by omega)⟩
  ·have:m=i:=by
    rcases Nat.lt_or_ge i m with h | h
    ·rw [h3 i h] at hp;cases hp
    ·omega
   subst this
   rw [show YA m p=false from ZH.2 h3]
   exact ⟨decide_eq_false (by omega),by simp⟩
theorem zq0 {α R:Type} (l:List α) (hl:l.length≤maxLen) (p:α→Bool) (vX:α→Option R) (z:Option R) {f:Int→(Int→Option R)→Option R}
  (hf:∀ (i:Nat) (k:Int→Option R) (h:i<l.length),f (i:Int) k=bif p l[i] then vX l[i] else k (IntKind.wrap .i64 ((i:Int)+1))) (hz:∀ k,f (l.length:Int) k=z):
  tA FU f (0:Int)=match l.find? p with
   | some e=>vX e
   | none=>z:=by
 have key:=gS l.length hl (f:=f) (g:=fun i=>match (l.drop i).find? p with
   | some e=>vX e
   | none=>z) (fun i k hi hk=>by
   rw [hf i k hi,hk,kI l hi,List.find?_cons]
   cases p l[i] <;> rfl) (fun k=>by rw [hz];simp) 0 (Nat.zero_le _)
 simpa using key
theorem zq3 {α σ R:Type} (l:List α) (hl:l.length≤maxLen) (g:σ→α→σ) (gB:σ→Option R) {f:σ × Int→(σ × Int→Option R)→Option R}
  (hf:∀ (i:Nat) (s:σ) (k:σ × Int→Option R) (h:i<l.length),f (s,(i:Int)) k=k (g s l[i],IntKind.wrap .i64 ((i:Int)+1))) (hz:∀ s k,f (s,(l.length:Int)) k=gB s) (s0:σ):
  tA FU f (s0,(0:Int))=gB (l.foldl g s0):=by
 have key:=TE (f:=f) (g:=fun x:σ × Int=>gB ((l.drop x.2.toNat).foldl g x.1)) (fun x=>0≤x.2∧x.2≤l.length) (fun x=>l.length - x.2.toNat) (fun x hx k hk=>by
  obtain ⟨s,i⟩:=x
  obtain ⟨h0,h1⟩:=hx
  simp only at h0 h1
  obtain ⟨j,rfl⟩:=Int.eq_ofNat_of_zero_le h0
  simp only [Int.toNat_natCast]
  by_cases hj:j<l.length
  ·rw [hf j s k hj,XC j (by omega)]
   rw [hk (g s l[j],((j+1:Nat):Int)) ⟨by show (0:Int)≤((j+1:Nat):Int);omega,by show ((j+1:Nat):Int)≤l.length;omega⟩ (by simp only [Int.toNat_natCast];omega)]
   simp only [Int.toNat_natCast]
   rw [kI l hj,List.foldl_cons]
  ·have:j=l.length:=by omega
   subst this
   rw [hz];simp) (x:=(s0,(0:Int))) ⟨Int.le_refl _,by show (0:Int)≤l.length;omega⟩ (by show l.length - Int.toNat 0<2^64;unfold maxLen at hl;simp;omega)
 rw [key];simp
theorem HD {α:Type} [Wt α] {l:List α} (h:wt l≤bA):l.length≤maxLen:=by
 have:=CB l
 have:=qA
 have:=QC
 omega
end Go.D
namespace Go.D
end Go.D

/-
 Short names for what the plain semantics computes with numbers.
-/
import Derived.Test.YtfealdecpglcnaaGreatL7
set_option linter.all false
namespace Go.D
def kG(k:Nat):List (Nat×dB)→Option dB
 | []=>none
 | (j,x) :: r=>bif Nat.beq j k then some x else kG k r
@[reducible] def fA(k:IntKind)(a b:Int):Int:=k.wrap (a+b)
@[reducible] def oA(k:IntKind)(a b:Int):Int:=k.wrap (a - b)
@[reducible] def GB(k:IntKind)(a b:Int):Int:=k.wrap (a *b)
def HB(k:IntKind)(a b:Int):Int:=k.wrap (BitVec.ofInt k.bits a&&&BitVec.ofInt k.bits b).toNat
def OK(k:IntKind)(a b:Int):Int:=k.wrap (BitVec.ofInt k.bits a|||BitVec.ofInt k.bits b).toNat
def AB(k:IntKind)(a b:Int):Int:=k.wrap (BitVec.ofInt k.bits a^^^BitVec.ofInt k.bits b).toNat
def zcX(k:IntKind)(a b:Int):Int:=k.wrap (BitVec.ofInt k.bits a&&& ~~~ BitVec.ofInt k.bits b).toNat
def HJ(k:IntKind)(a b:Int):Int:=k.wrap (a *2^(min b.toNat k.bits))
def iE(k:IntKind)(a b:Int):Int:=a.fdiv (2^(min b.toNat k.bits))
def NC(k:IntKind)(a b:Int):Int:=k.wrap (a.tdiv b)
def xA(_:IntKind)(a b:Int):Int:=a.tmod b
def HD(a b:Int):Int:=if b<a then b else a
def AE(a b:Int):Int:=if b>a then b else a
def zl7(P:Program)(p:TypeId×TN):Bool:=match P.info? p.1 with
 | some i=>Nat.beq i.size (sz p.2)&&Nat.ble i.bytes 1024&&(match i.zero with
  | some z=>Nat.beq z.cells.size (sz p.2)
  | none=>false)
 | none=>false
def zdK(P:Program)(l:List (TypeId×TN)):Bool:=l.all (zl7 P)
def zfZ{α:Type}{k:Nat}{x:α}:∀{l:List (Nat×α)},MC k l=some x→(k,x)∈l
 | [],h=>by simp[MC]at h
 | (j,y) :: r,h=>by
  simp only[MC]at h;cases hb:Nat.beq j k
  ·simp only[hb,cond_false]at h;exact List.mem_cons_of_mem _ (zfZ h)
  ·simp only[hb,cond_true,Option.some.injEq]at h;have:=Nat.eq_of_beq_eq_true hb;subst this h;simp
class zaq(l:List (TypeId×TN)) extends iA where
 is:∀e t,MC e l=some t→tn e=some t
def zlh{P:Program}{l:List (TypeId×TN)}[zaq l](hm:P.follows .mixedOrders=true)(h:zdK P l=true)(Φ:Nat→Option dB)(n:Nat)(g:Gl):TF ⟨P,λt=>MC t l,Φ,n,g⟩:=by
 refine⟨hm,λe t he=>?_,λe t he=>zaq.is (l:=l) e t he⟩;have h1:=List.all_eq_true.1 h _ (zfZ he);simp only[zl7]at h1;split at h1
 case h_2=>cases h1
 rename_i i hi;simp only[Bool.and_eq_true]at h1;obtain⟨⟨h2,h3⟩,h4⟩:=h1;split at h4
 case h_2=>cases h4
 rename_i z hz;exact⟨i,z,hi,Nat.eq_of_beq_eq_true h2,Nat.le_of_ble_eq_true h3,hz,Nat.eq_of_beq_eq_true h4⟩
def zv1[iA]{P:Program}{tn:TypeId→Option TN}{n:Nat}{g:Gl}:jG ⟨P,tn,λf=>kG f [],n,g⟩:=⟨λ_ _ h=>by cases h⟩
def zuc[iA]{P:Program}{tn:TypeId→Option TN}{n g:Nat}{ci:dB}{l:List (Nat×dB)}{gl:Gl}(h:vB P (g % 1048576) ci gl)(k:jG ⟨P,tn,λf=>kG f l,n,gl⟩):jG ⟨P,tn,λf=>kG f ((g,ci) :: l),n,gl⟩:=⟨λf c hf=>by
 simp only[kG]at hf;cases hb:Nat.beq g f
 ·simp only[hb,cond_false]at hf;exact k.ok f c hf
 ·simp only[hb,cond_true,Option.some.injEq]at hf;have:=Nat.eq_of_beq_eq_true hb;subst this hf;exact h⟩
def zrP{P:Program}{l:List (TypeId×TN)}{D:Nat}(h:(l.all λp=>decide (CI P (λt=>MC t l) D p.1=some (lk p.2))&&Nat.beq (P.cellsOf p.1) (sz p.2))=true):QM P (λt=>MC t l) D:=⟨λe t he=>by
 have h1:=List.all_eq_true.1 h _ (zfZ he);simp only[Bool.and_eq_true,decide_eq_true_eq]at h1;exact⟨h1.1,Nat.eq_of_beq_eq_true h1.2⟩⟩
def jD(ks:List kB)(ats rts:List Ty)(F:gB ats→Option (gB rts))(sh:List (Bool×Nat))(own:List Nat)(pb:Bool):dB:=⟨ks,gB ats,gB rts,nD ats,F,rE rts,sh,own,pb⟩
def evC{P:Program}{tl:List (TypeId×TN)}[zaq tl]{f:Nat}{fn:Func}{ks:List kB}{ats rts:List Ty}{F:gB ats→Option (gB rts)}{sh:List (Bool×Nat)}{own:List Nat}(n:Nat){l:List (Nat×dB)}{g:Gl}
  (hm:P.follows .mixedOrders=true) (ht:zdK P tl=true) (hΦ:jG ⟨P,λt=>MC t tl,λf=>kG f l,n,g⟩) (hf:P.funcs[f]?=some fn) (an:An) (Raw:gB ats→Option (gB rts))
  (h0 : (fn.body.isSome && !(fn.name == "runtime.NumGoroutine") && Nat.beq n fn.ntmps && ZB ks ats && Nat.ble ks.length fn.ntmps) = true)
  (he:∀x,zar ⟨P,λt=>MC t tl,λf=>kG f l,n,g⟩ fn (fn.body.getD .skip) an ks own sh rts (cB ats x)=Raw x) (uW:∀x r,vA ats x→F x=some r→Raw x=some r):
  vB P f (jD ks ats rts F sh own false) g:=by
 simp only[Bool.and_eq_true,Bool.not_eq_true']at h0;obtain⟨⟨⟨⟨h1,h2⟩,h3⟩,h4⟩,h5⟩:=h0;obtain⟨b,hb⟩:=Option.isSome_iff_exists.1 h1;have hbd:fn.body.getD .skip=b:=by rw[hb];rfl
 exact zuo (C:=⟨P,λt=>MC t tl,λf=>kG f l,n,g⟩) (zlh hm ht _ _ _) hΦ hf hb h2 (Nat.eq_of_beq_eq_true h3) an ks own sh ats rts F h4 h5 λx r hx hr=>by
  have:=he x;rw[hbd]at this;exact this.trans (uW x r hx hr)
def evP{P:Program}{tl:List (TypeId×TN)}[zaq tl]{f:Nat}{fn:Func}{m:Nat}{ats rts:List Ty}{F:gB ats→Option (gB rts)}{sh:List (Bool×Nat)}(n:Nat){l:List (Nat×dB)}{g:Gl}
  (hm:P.follows .mixedOrders=true) (ht:zdK P tl=true) (hΦ:jG ⟨P,λt=>MC t tl,λf=>kG f l,n,g⟩) (hf:P.funcs[f]?=some fn) (an:An) (Raw:gB ats→Option (gB rts))
  (h0 : (fn.body.isSome && !(fn.name == "runtime.NumGoroutine") && Nat.beq n fn.ntmps && ZB (YD m) ats && Nat.ble m fn.ntmps) = true)
  (he:∀x,zdI ⟨P,λt=>MC t tl,λf=>kG f l,n,g⟩ fn (fn.body.getD .skip) an (YD m) rts (cB ats x)=Raw x) (uW:∀x r,vA ats x→F x=some r→Raw x=some r):
  vB P f (jD (YD m) ats rts F sh [] true) g:=by
 simp only[Bool.and_eq_true,Bool.not_eq_true']at h0;obtain⟨⟨⟨⟨h1,h2⟩,h3⟩,h4⟩,h5⟩:=h0;obtain⟨b,hb⟩:=Option.isSome_iff_exists.1 h1;have hbd:fn.body.getD .skip=b:=by rw[hb];rfl
 exact zu0 (C:=⟨P,λt=>MC t tl,λf=>kG f l,n,g⟩) (zlh hm ht _ _ _) hΦ hf hb h2 (Nat.eq_of_beq_eq_true h3) an m sh ats rts F h4 h5 λx r hx hr=>by
  have:=he x;rw[hbd]at this;exact this.trans (uW x r hx hr)
end Go.D
namespace Go.D
def zkS{σ R:Type}{f:σ→(σ→Option R)→Option R}{g:σ→Option R}{inv:σ→Prop}{μ:σ→Nat}
  (h:∀x,inv x→∀k:σ→Option R,(∀y,inv y→μ y<μ x→k y=g y)→f x k=g x):∀(n:Nat) (x:σ),inv x→μ x<n→uA n f x=g x
 | 0,x,_,hn=>by omega
 | n+1,x,hx,hn=>h x hx (uA n f) λy hy FV=>zkS h n y hy (by omega)
def OH{σ R:Type}{f:σ→(σ→Option R)→Option R}{g:σ→Option R}(inv:σ→Prop)(μ:σ→Nat)
  (h:∀x,inv x→∀k:σ→Option R,(∀y,inv y→μ y<μ x→k y=g y)→f x k=g x) {x:σ} (hx:inv x) (hμ:μ x<2^64):uA FU f x=g x:=by
 rw[zg0];exact zkS h _ x hx hμ
def FB{n:Int}(h1: -9223372036854775808≤n)(h2:n≤9223372036854775807):IntKind.wrap .i64 n=n:=by
 simp only[IntKind.wrap]
 first
  | (simp[IntKind.bits,IntKind.signed];omega)
  | (unfold IntKind.bits;simp;omega)
def OG(i:Nat)(h:i<maxLen):IntKind.wrap .i64 ((i:Int)+1)=((i+1:Nat):Int):=by
 unfold maxLen at h;rw[FB (by omega) (by omega)];omega
def zcW{R:Type}(n:Nat)(hn:n≤maxLen){f:Int→(Int→Option R)→Option R}{g:Nat→Option R}
  (h:∀(i:Nat) (k:Int→Option R),i<n→k (IntKind.wrap .i64 ((i:Int)+1))=g (i+1)→f (i:Int) k=g i) (hz:∀k,f (n:Int) k=g n) (i:Nat) (hi:i≤n):uA FU f (i:Int)=g i:=by
 have:=OH (g:=λx:Int=>g x.toNat) (f:=f) (λx=>0≤x∧x≤n) (λx=>n - x.toNat) (λx hx k hk=>by
  obtain⟨j,rfl⟩:=Int.eq_ofNat_of_zero_le hx.1;have hj:j≤n:=by omega
  simp only[Int.toNat_natCast]
  rcases Nat.lt_or_eq_of_le hj with FV|rfl
  ·refine h j k FV ?_;rw[OG j (by omega)];have:=hk ((j+1:Nat):Int) (by omega) (by omega);rw[this];simp
  ·exact hz k) (x:=(i:Int)) ⟨by omega,by omega⟩ (by unfold maxLen at hn;simp only[Int.toNat_natCast];omega)
 rw[this];simp
def zla{σ R:Type}(n:Nat)(hn:n≤maxLen){f:Int×σ→(Int×σ→Option R)→Option R}{g:Nat→σ→Option R}(inv:Nat→σ→Prop)
  (h:∀(i:Nat) (s:σ) (k:Int×σ→Option R),i<n→inv i s→(∀t,inv (i+1) t→k (IntKind.wrap .i64 ((i:Int)+1),t)=g (i+1) t)→f ((i:Int),s) k=g i s)
  (hz:∀s k,inv n s→f ((n:Int),s) k=g n s) (i:Nat) (s:σ) (hi:i≤n) (hs:inv i s):uA FU f ((i:Int),s)=g i s:=by
 have:=OH (g:=λx:Int×σ=>g x.1.toNat x.2) (f:=f) (λx=>0≤x.1∧x.1≤n∧inv x.1.toNat x.2) (λx=>n - x.1.toNat) (λx hx k hk=>by
  obtain⟨x,s⟩:=x;obtain⟨h0,h1,h2⟩:=hx;simp only at h0 h1 h2;obtain⟨j,rfl⟩:=Int.eq_ofNat_of_zero_le h0;have hj:j≤n:=by omega
  simp only[Int.toNat_natCast]at h2⊢
  rcases Nat.lt_or_eq_of_le hj with FV|rfl
  ·refine h j s k FV h2 λt ht=>?_;rw[OG j (by omega)];have:=hk (((j+1:Nat):Int),t) ⟨by show(0:Int)≤((j+1:Nat):Int);omega,by show((j+1:Nat):Int)≤n;omega,by simpa using ht⟩ (by simp only[Int.toNat_natCast];omega);rw[this];simp
  ·exact hz s k h2) (x:=((i:Int),s)) ⟨by show(0:Int)≤(i:Int);omega,by show(i:Int)≤n;omega,by simpa using hs⟩ (by unfold maxLen at hn;simp only[Int.toNat_natCast];omega)
 rw[this];simp
def zku{α:Type}(l:List α)(i:Nat):jA l (i:Int)=l[i]?:=by simp[jA]
def DB{α:Type}{l:List α}{i:Nat}(h:i<l.length):jA l (i:Int)=some l[i]:=by rw[zku,List.getElem?_eq_getElem h]
def XA{α β:Type}(a:α)(f:α→Option β):Option.bind (some a) f=f a:=rfl
def xO{t:TN}{x:El t}{k:IntKind}{n:Int}(h:TI t x)(j:Nat)(hj:j<sz t)(he:(enc t x).getD j .undef= .int k n):uE k n:=(he▸h j hj).fits
def KS{n:Int}(h:uE .i64 n): -9223372036854775808≤n∧n≤9223372036854775807:=by
 obtain⟨h1,h2⟩:=h;simp[IntKind.min,IntKind.max,IntKind.signed,IntKind.bits]at h1 h2;omega
end Go.D
namespace Go.D
noncomputable section
def aG{α:Type}(a b:α):Bool:=@decide (a=b) (Classical.propDecidable _)
def gV{α:Type}{a b:α}:aG a b=true↔a=b:=by simp[aG]
def ztG{α:Type}(a:α):aG a a=true:=gV.2 rfl
def zj1{α:Type}{a b:α}:aG a b=false↔a≠b:=by simp[aG]
def pt{α:Type}(p:Prop)(x:α):Option α:=@ite _ p (Classical.propDecidable p) (some x) none
def nA{α:Type}{p:Prop}{x:α}(h:p):pt p x=some x:=if_pos h
def zwH{α:Type}{p:Prop}{x r:α}(h:pt p x=some r):p∧x=r:=by
 unfold pt at h;split at h
 ·cases h;exact⟨‹p›,rfl⟩
 ·cases h
def QA{α:Type}{p:Prop}{x r:α}{o:Option α}(h:p→o=some x)(hp:pt p x=some r):o=some r:=by
 obtain⟨h1,rfl⟩:=zwH hp;exact h h1
def PA{α β:Type}{p:Prop}{x:α}{f:α→Option β}(h:p):Option.bind (pt p x) f=f x:=by rw[nA h];rfl
class Wt(α:Type) where
 of:α→Nat
def wt{α:Type}[Wt α](x:α):Nat:=Wt.of x
instance:Wt UInt8:=⟨λ_=>0⟩
instance:Wt Int:=⟨λ_=>0⟩
instance:Wt Bool:=⟨λ_=>0⟩
def wtl{α:Type}[Wt α]:List α→Nat
 | []=>0
 | x :: l=>wt x+wtl l+1
instance{α:Type}[Wt α]:Wt (List α):=⟨wtl⟩
theorem SG{α:Type}[Wt α]:wt ([]:List α)=0:=rfl
theorem TD{α:Type}[Wt α](x:α)(l:List α):wt (x :: l)=wt x+wt l+1:=rfl
theorem nS{α:Type}[Wt α]:∀(l m:List α),wt (l++m)=wt l+wt m
 | [],m=>by simp[SG]
 | x :: l,m=>by rw[List.cons_append,TD,TD,nS l m];omega
def QB{α:Type}[Wt α]:∀l:List α,l.length≤wt l
 | []=>Nat.le_refl _
 | x :: l=>by rw[TD,List.length_cons];have:=QB l;omega
def zad{α:Type}[Wt α]{x:α}:∀{l:List α},x∈l→wt x+1≤wt l
 | [],h=>by cases h
 | y :: l,h=>by
  rw[TD]
  rcases List.mem_cons.1 h with rfl|h
  ·omega
  ·have:=zad h;omega
def fG{α:Type}[Wt α]{l:List α}{i:Nat}(h:i<l.length):wt l[i]+1≤wt l:=zad (List.getElem_mem h)
def dE{α:Type}[Wt α](l:List α)(n:Nat):wt (l.take n)≤wt l:=by
 have:=nS (l.take n) (l.drop n);rw[List.take_append_drop]at this;omega
def qF{α:Type}[Wt α](l:List α)(n:Nat):wt (l.drop n)≤wt l:=by
 have:=nS (l.take n) (l.drop n);rw[List.take_append_drop]at this;omega
def zcx{α:Type}[Wt α](h:∀x:α,wt x=0):∀l:List α,wt l=l.length
 | []=>rfl
 | x :: l=>by rw[TD,List.length_cons,zcx h l,h];omega
theorem FA(l:List UInt8):wt l=l.length:=zcx (λ_=>rfl) l
def ML(l:List Int):wt l=l.length:=zcx (λ_=>rfl) l
def zvP{n:Int}(h:TI .int n):n≤9223372036854775807:=(KS (xO h 0 (by decide) rfl)).2
def kA{α:Type}[Wt α](a:α):Option α:=pt (wt a≤bA) a
def zml{α:Type}(l r:List α)(x y:α){i:Nat}(h:l.length=i):List.set (l++x :: r) i y=l++y :: r:=by
 subst h;simp
def CM{α:Type}(l:List α){i:Nat}(h:i<l.length):l.take (i+1)=l.take i++[l[i]]:=by
 rw[List.take_succ_eq_append_getElem h]
def vS{α:Type}(l:List α){i:Nat}(h:i<l.length):l.drop i=l[i] :: l.drop (i+1):=List.drop_eq_getElem_cons h
def yT{n:Nat}(h:n≤bA):(decide ((0:Int)≤(n:Int))&&decide ((n:Int)≤(bA:Int))&&((n:Int)==(n:Int)))=true:=by
 simp;exact h
def ztS{α:Type}(a b:α)(l m:List α):aG (a :: l) (b :: m)=(aG a b&&aG l m):=by
 rw[Bool.eq_iff_iff,Bool.and_eq_true,gV,gV,gV];exact List.cons_eq_cons
def ztN{α:Type}(l m:List α)(hl:l.length≤maxLen)(he:l.length=m.length){f:Int→(Int→Option Bool)→Option Bool}
  (hf:∀(i:Nat) (k:Int→Option Bool) (h:i<l.length) (h':i<m.length),f (i:Int) k=bif aG l[i] m[i]then k (IntKind.wrap .i64 ((i:Int)+1))else some false)
  (hz:∀k,f (l.length:Int) k=some true):uA FU f (0:Int)=some (aG l m):=by
 have:=zcW l.length hl (f:=f) (g:=λi=>some (aG (l.drop i) (m.drop i))) (λi k hi hk=>by
   have ZV:i<m.length:=by omega
   rw[hf i k hi ZV,hk,vS l hi,vS m ZV,ztS];cases aG l[i] m[i]<;>rfl) (λk=>by
   rw[hz,List.drop_eq_nil_of_le (Nat.le_refl _),List.drop_eq_nil_of_le (by omega)];simp[aG]) 0 (Nat.zero_le _)
 simpa using this
def zut{α:Type}(l m:List α)(hl:l.length≤maxLen)(ne:α→α→Bool)(sY:∀a b,ne a b= !aG a b):
  (cond ((l.length:Int) !=(m.length:Int)) (some false) (aA (fun (_:Unit)=>some true) fun k2=>
   uA FU (λ(x3:Int) k4=>cond (x3<(l.length:Int)) (Option.bind (jA l x3) λe5=>Option.bind (jA m x3) λe6=>
    cond (ne e5 e6) (some false) (k4 (fA .i64 x3 1))) (k2 ())) 0))=some (aG l m):=by
 by_cases he:l.length=m.length
 ·have h1:((l.length:Int) !=(m.length:Int))=false:=by simp[he]
  simp only[h1,cond_false,aA];refine ztN l m hl he (λi k hi ZV=>?_) (λk=>by simp);have h2:decide ((i:Int)<(l.length:Int))=true:=by simp;exact hi
  simp only[h2,cond_true,DB hi,DB ZV,XA,sY];cases aG l[i] m[i]<;>rfl
 ·have h1:((l.length:Int) !=(m.length:Int))=true:=by simp;omega
  have h2:l≠m:=by rintro rfl;exact he rfl
  simp[h1,zj1.2 h2]
def zww(a b:Int):(a !=b)= !aG a b:=by
 by_cases h:a=b
 ·subst h;simp[ztG]
 ·simp[zj1.2 h,h]
def qB(n:Nat)(p:Nat→Bool):Bool:=(List.range n).any p
def JM{n:Nat}{p:Nat→Bool}:qB n p=true↔∃i,i<n∧p i=true:=by simp[qB]
def uG{n:Nat}{p:Nat→Bool}:qB n p=false↔∀i,i<n→p i=false:=by simp[qB]
def zfm{n:Nat}{p q:Nat→Bool}(h:∀i,i<n→p i=q i):qB n p=qB n q:=by
 rw[Bool.eq_iff_iff,JM,JM];constructor
 ·rintro⟨i,hi,hp⟩;exact⟨i,hi,by rw[←h i hi];exact hp⟩
 ·rintro⟨i,hi,hp⟩;exact⟨i,hi,by rw[h i hi];exact hp⟩
def kJ{R:Type}(n:Nat)(hn:n≤maxLen)(p:Nat→Bool)(HX z:Option R){f:Int→(Int→Option R)→Option R}
  (hf:∀(i:Nat) (k:Int→Option R),i<n→f (i:Int) k=bif p i then HX else k (IntKind.wrap .i64 ((i:Int)+1))) (hz:∀k,f (n:Int) k=z):
  uA FU f (0:Int)=bif qB n p then HX else z:=by
 have key:=zcW n hn (f:=f) (g:=λi=>bif (List.range' i (n - i)).any p then HX else z) (λi k hi hk=>by
   rw[hf i k hi,hk,show n - i=(n - (i+1))+1 by omega,List.range'_succ,List.any_cons];cases p i<;>rfl) (λk=>by rw[hz];simp) 0 (Nat.zero_le _)
 rw[List.range'_eq_map_range]at key;simpa[qB]using key
def ztx{R:Type}(n:Nat)(hn:n≤maxLen)(p:Nat→Bool)(HX:Nat→Option R)(z:Option R){f:Int→(Int→Option R)→Option R}
  (hf:∀(i:Nat) (k:Int→Option R),i<n→f (i:Int) k=bif p i then HX i else k (IntKind.wrap .i64 ((i:Int)+1))) (hz:∀k,f (n:Int) k=z):
  uA FU f (0:Int)=match(List.range n).find? p with
   | some i=>HX i
   | none=>z:=by
 have key:=zcW n hn (f:=f) (g:=λi=>match(List.range' i (n - i)).find? p with
   | some i=>HX i
   | none=>z) (λi k hi hk=>by
   rw[hf i k hi,hk,show n - i=(n - (i+1))+1 by omega,List.range'_succ,List.find?_cons];cases p i<;>rfl) (λk=>by rw[hz];simp) 0 (Nat.zero_le _)
 rw[←List.range_eq_range']at key;exact key
def zsH{n:Nat}{p:Nat→Bool}(h:qB n p=false):(List.range n).find? p=none:=by
 rw[List.find?_eq_none];intro x hx;rw[uG.1 h x (List.mem_range.1 hx)];simp
def zs1{n:Nat}{p:Nat→Bool}{m:Nat}(hm:m<n)(hp:p m=true)(h:∀i,i<m→p i=false):(List.range n).find? p=some m:=by
 rw[List.find?_eq_some_iff_append];refine⟨hp,List.range m,(List.range' (m+1) (n - (m+1))),?_,λa ha=>by rw[h a (List.mem_range.1 ha)];rfl⟩;rw[List.range_eq_range',List.range_eq_range', ←List.range'_succ];have:=List.range'_append_1 (s:=0) (m:=m) (n:=n - (m+1)+1);rw[Nat.zero_add]at this;rw[this];congr 1;omega
def zs9{n:Nat}{p:Nat→Bool}(h:qB n p=true):∃m,m<n∧p m=true∧∀i,i<m→p i=false:=by
 obtain⟨i,hi,hp⟩:=JM.1 h;induction i using Nat.strongRecOn with
 | ind i ih=>
  by_cases hc:∃j,j<i∧p j=true
  ·obtain⟨j,hj,hpj⟩:=hc;exact ih j hj (by omega) hpj
  ·refine⟨i,hi,hp,λj hj=>?_⟩;cases hb:p j
   ·rfl
   ·exact absurd ⟨j,hj,hb⟩ hc
def FD{α:Type}{l:List α}{i:Nat}(h:i<l.length)(q:α→Bool):(l[i]?).any q=q l[i]:=by
 rw[List.getElem?_eq_getElem h];rfl
end
end Go.D
namespace Go.D
def KC{α:Type}(b:Bool)(x y:α):cond b (some x) (some y)=some (cond b x y):=by cases b<;>rfl
def zwj{α:Type}[BEq α][LawfulBEq α](a b:α):aG a b=(a==b):=by
 rw[Bool.eq_iff_iff,gV,beq_iff_eq]
def zkn{α:Type}(l:List α)(p:α→Bool):(qB l.length λi=>(l[i]?).any p)=l.any p:=by
 rw[Bool.eq_iff_iff,JM,List.any_eq_true];constructor
 ·rintro⟨i,hi,h⟩;rw[FD hi]at h;exact⟨l[i],List.getElem_mem hi,h⟩
 ·rintro⟨x,hx,h⟩;obtain⟨i,hi,rfl⟩:=List.getElem_of_mem hx;exact⟨i,hi,by rw[FD hi];exact h⟩
def CS{α R:Type}(l:List α)(hl:l.length≤maxLen)(p:α→Bool)(HX z:Option R){f:Int→(Int→Option R)→Option R}
  (hf:∀(i:Nat) (k:Int→Option R) (h:i<l.length),f (i:Int) k=bif p l[i]then HX else k (IntKind.wrap .i64 ((i:Int)+1))) (hz:∀k,f (l.length:Int) k=z):
  uA FU f (0:Int)=bif l.any p then HX else z:=by
 rw[kJ l.length hl (λi=>(l[i]?).any p) HX z (λi k hi=>by rw[hf i k hi,FD hi]) hz,zkn]
def zsP{R:Type}(a n:Nat)(hn:n≤maxLen)(p:Nat→Bool)(HX z:Option R){f:Int→(Int→Option R)→Option R}
  (hf:∀(i:Nat) (k:Int→Option R),i<n→f (i:Int) k=bif p i then HX else k (IntKind.wrap .i64 ((i:Int)+1))) (hz:∀(i:Nat) k,n≤i→f (i:Int) k=z):
  uA FU f (a:Int)=bif qB n (λi=>decide (a≤i)&&p i)then HX else z:=by
 have key:=OH (f:=f) (g:=λx:Int=>bif qB n (λi=>decide (x.toNat≤i)&&p i)then HX else z) (λx=>0≤x) (λx=>n - x.toNat) (λx hx k hk=>by
  obtain⟨j,rfl⟩:=Int.eq_ofNat_of_zero_le hx;simp only[Int.toNat_natCast]
  by_cases hj:j<n
  ·rw[hf j k hj,OG j (by omega)];cases hp:p j
   ·simp only[cond_false];rw[hk ((j+1:Nat):Int) (by omega) (by simp only[Int.toNat_natCast];omega)];simp only[Int.toNat_natCast];congr 1;refine zfm λi hi=>?_
    by_cases he:i=j
    ·subst he;rw[hp];simp
    ·have:decide (j+1≤i)=decide (j≤i):=by
      rw[decide_eq_decide];omega
     rw[this]
   ·simp only[cond_true];rw[show qB n (λi=>decide (j≤i)&&p i)=true from JM.2 ⟨j,hj,by rw[hp];simp⟩];rfl
  ·rw[hz j k (by omega)]
   rw[show qB n (λi=>decide (j≤i)&&p i)=false from uG.2 λi hi=>by
    rw[show decide (j≤i)=false by simp;omega];rfl];rfl) (x:=(a:Int)) (by omega) (by unfold maxLen at hn;simp only[Int.toNat_natCast];omega)
 rw[key];simp only[Int.toNat_natCast]
def SS(n m:Nat):xA .i64 (n:Int) (m:Int)=((n % m:Nat):Int):=by
 rw[xA,Int.tmod_eq_emod_of_nonneg (by omega)];omega
def zuH(n m:Nat)(h:n≤maxLen)(hm:0<m):NC .i64 (n:Int) (m:Int)=((n / m:Nat):Int):=by
 have:=Nat.div_le_self n m;rw[NC,Int.tdiv_eq_ediv_of_nonneg (by omega), ←Int.natCast_ediv];generalize n / m=q at this;rw[FB (by omega) (by unfold maxLen at h;omega)]
def yB:bA=68719476736:=rfl
def dD:maxLen=9223372036854775807:=rfl
def XG(n:Nat)(p:Nat→Bool):Int:=match(List.range n).find? p with
 | some i=>(i:Int)
 | none=> -1
def zfu(n:Nat)(hn:n≤maxLen)(p:Nat→Bool){f:Int→(Int→Option Int)→Option Int}
  (hf:∀(i:Nat) (k:Int→Option Int),i<n→f (i:Int) k=bif p i then some (i:Int)else k (IntKind.wrap .i64 ((i:Int)+1))) (hz:∀k,f (n:Int) k=some (-1)):
  uA FU f (0:Int)=some (XG n p):=by
 rw[ztx n hn p (λi=>some (i:Int)) (some (-1)) hf hz,XG];cases(List.range n).find? p<;>rfl
def zfe{n:Nat}{p:Nat→Bool}(h:qB n p=false):XG n p= -1:=by rw[XG,zsH h]
def zbM{n:Nat}{p:Nat→Bool}{m:Nat}(hm:m<n)(hp:p m=true)(h:∀i,i<m→p i=false):XG n p=m:=by rw[XG,zs1 hm hp h]
def KG(n:Nat)(p:Nat→Bool):(qB n p=false∧XG n p= -1)∨∃m,m<n∧p m=true∧(∀i,i<m→p i=false)∧XG n p=(m:Int):=by
 cases h:qB n p
 ·exact .inl ⟨rfl,zfe h⟩
 ·obtain⟨m,h1,h2,h3⟩:=zs9 h;exact .inr ⟨m,h1,h2,h3,zbM h1 h2 h3⟩
def zi7{n:Nat}{p q:Nat→Bool}(h:∀i,i<n→p i=q i):XG n p=XG n q:=by
 rcases KG n p with⟨h1,h2⟩|⟨m,h1,h2,h3,h4⟩
 ·rw[h2,zfe];rw[←zfm h];exact h1
 ·rw[h4,zbM h1 (by rw[←h m h1];exact h2) λi hi=>by rw[←h i (by omega)];exact h3 i hi]
def zfT{n:Nat}{p:Nat→Bool}{i:Nat}(hi:i<n)(hp:p i=true):decide (XG n p<(i:Int))=qB i p∧(XG n p !=(i:Int))=qB i p:=by
 rcases KG n p with⟨h1,_⟩|⟨m,h1,h2,h3,h4⟩
 ·rw[uG.1 h1 i hi]at hp;cases hp
 ·rw[h4]
  by_cases hm:m<i
  ·rw[show qB i p=true from JM.2 ⟨m,hm,h2⟩];exact⟨decide_eq_true (by omega),bne_iff_ne.2 (by omega)⟩
  ·have:m=i:=by
    rcases Nat.lt_or_ge i m with h|h
    ·rw[h3 i h]at hp;cases hp
    ·omega
   subst this;rw[show qB m p=false from uG.2 h3];exact⟨decide_eq_false (by omega),by simp⟩
def zjO{α R:Type}(l:List α)(hl:l.length≤maxLen)(p:α→Bool)(HX:α→Option R)(z:Option R){f:Int→(Int→Option R)→Option R}
  (hf:∀(i:Nat) (k:Int→Option R) (h:i<l.length),f (i:Int) k=bif p l[i]then HX l[i]else k (IntKind.wrap .i64 ((i:Int)+1))) (hz:∀k,f (l.length:Int) k=z):
  uA FU f (0:Int)=match l.find? p with
   | some e=>HX e
   | none=>z:=by
 have key:=zcW l.length hl (f:=f) (g:=λi=>match(l.drop i).find? p with
   | some e=>HX e
   | none=>z) (λi k hi hk=>by
   rw[hf i k hi,hk,vS l hi,List.find?_cons];cases p l[i]<;>rfl) (λk=>by rw[hz];simp) 0 (Nat.zero_le _)
 simpa using key
def zth{α σ R:Type}(l:List α)(hl:l.length≤maxLen)(g:σ→α→σ)(fin:σ→Option R){f:σ×Int→(σ×Int→Option R)→Option R}
  (hf:∀(i:Nat) (s:σ) (k:σ×Int→Option R) (h:i<l.length),f (s,(i:Int)) k=k (g s l[i],IntKind.wrap .i64 ((i:Int)+1))) (hz:∀s k,f (s,(l.length:Int)) k=fin s) (s0:σ):
  uA FU f (s0,(0:Int))=fin (l.foldl g s0):=by
 have key:=OH (f:=f) (g:=λx:σ×Int=>fin ((l.drop x.2.toNat).foldl g x.1)) (λx=>0≤x.2∧x.2≤l.length) (λx=>l.length - x.2.toNat) (λx hx k hk=>by
  obtain⟨s,i⟩:=x;obtain⟨h0,h1⟩:=hx;simp only at h0 h1;obtain⟨j,rfl⟩:=Int.eq_ofNat_of_zero_le h0;simp only[Int.toNat_natCast]
  by_cases hj:j<l.length
  ·rw[hf j s k hj,OG j (by omega)];rw[hk (g s l[j],((j+1:Nat):Int)) ⟨by show(0:Int)≤((j+1:Nat):Int);omega,by show((j+1:Nat):Int)≤l.length;omega⟩ (by simp only[Int.toNat_natCast];omega)];simp only[Int.toNat_natCast];rw[vS l hj,List.foldl_cons]
  ·have:j=l.length:=by omega
   subst this;rw[hz];simp) (x:=(s0,(0:Int))) ⟨Int.le_refl _,by show(0:Int)≤l.length;omega⟩ (by show l.length - Int.toNat 0<2^64;unfold maxLen at hl;simp;omega)
 rw[key];simp
def dG{α:Type}[Wt α]{l:List α}(h:wt l≤bA):l.length≤maxLen:=by
 have:=QB l;have:=yB;have:=dD;omega
end Go.D
namespace Go.D
end Go.D

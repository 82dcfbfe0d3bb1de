/-
 Short names for what the plain semantics computes with numbers.
-/
import Derived.Test.YtfealdecpglcnaaGreatL7
set_option linter.all false
namespace Go.D
def ZF(k:Nat):List (Nat×eB)→Option eB
 | []=>none
 | (j,x) :: r=>bif Nat.beq j k then some x else ZF k r
@[reducible] def iA(k:IntKind)(a b:Int):Int:=k.wrap (a+b)
@[reducible] def wA(k:IntKind)(a b:Int):Int:=k.wrap (a - b)
@[reducible] def YB(k:IntKind)(a b:Int):Int:=k.wrap (a *b)
def LB(k:IntKind)(a b:Int):Int:=k.wrap (BitVec.ofInt k.bits a&&&BitVec.ofInt k.bits b).toNat
def mK(k:IntKind)(a b:Int):Int:=k.wrap (BitVec.ofInt k.bits a|||BitVec.ofInt k.bits b).toNat
def CB(k:IntKind)(a b:Int):Int:=k.wrap (BitVec.ofInt k.bits a^^^BitVec.ofInt k.bits b).toNat
def zcG(k:IntKind)(a b:Int):Int:=k.wrap (BitVec.ofInt k.bits a&&& ~~~ BitVec.ofInt k.bits b).toNat
def gJ(k:IntKind)(a b:Int):Int:=k.wrap (a *2^(min b.toNat k.bits))
def DE(k:IntKind)(a b:Int):Int:=a.fdiv (2^(min b.toNat k.bits))
def PC(k:IntKind)(a b:Int):Int:=k.wrap (a.tdiv b)
def EA(_:IntKind)(a b:Int):Int:=a.tmod b
def UD(a b:Int):Int:=if b<a then b else a
def qG(a b:Int):Int:=if b>a then b else a
def zlz(P:Program)(p:TypeId×TN):Bool:=match P.info? p.1 with
 | some i=>Nat.beq i.size (sz p.2)&&Nat.ble i.bytes 1024&&(match i.zero with
  | some z=>Nat.beq z.cells.size (sz p.2)
  | none=>false)
 | none=>false
def zdq(P:Program)(l:List (TypeId×TN)):Bool:=l.all (zlz P)
def zfo{α:Type}{k:Nat}{x:α}:∀{l:List (Nat×α)},OC k l=some x→(k,x)∈l
 | [],h=>by simp[OC]at h
 | (j,y) :: r,h=>by
  simp only[OC]at h;cases hb:Nat.beq j k
  ·simp only[hb,cond_false]at h;exact List.mem_cons_of_mem _ (zfo h)
  ·simp only[hb,cond_true,Option.some.injEq]at h;have:=Nat.eq_of_beq_eq_true hb;subst this h;simp
class AV(l:List (TypeId×TN)) extends jA where
 is:∀e t,OC e l=some t→tn e=some t
def zkT{P:Program}{l:List (TypeId×TN)}[AV l](hm:P.follows .mixedOrders=true)(h:zdq P l=true)(Φ:Nat→Option eB)(n:Nat)(g:Gl):LF ⟨P,λt=>OC t l,Φ,n,g⟩:=by
 refine⟨hm,λe t he=>?_,λe t he=>AV.is (l:=l) e t he⟩;have h1:=List.all_eq_true.1 h _ (zfo he);simp only[zlz]at h1;split at h1
 case h_2=>cases h1
 rename_i i hi;simp only[Bool.and_eq_true]at h1;obtain⟨⟨h2,h3⟩,h4⟩:=h1;split at h4
 case h_2=>cases h4
 rename_i z hz;exact⟨i,z,hi,Nat.eq_of_beq_eq_true h2,Nat.le_of_ble_eq_true h3,hz,Nat.eq_of_beq_eq_true h4⟩
def zvb[jA]{P:Program}{tn:TypeId→Option TN}{n:Nat}{g:Gl}:YF ⟨P,tn,λf=>ZF f [],n,g⟩:=⟨λ_ _ h=>by cases h⟩
def ztA[jA]{P:Program}{tn:TypeId→Option TN}{n g:Nat}{ci:eB}{l:List (Nat×eB)}{gl:Gl}(h:xB P (g % 1048576) ci gl)(k:YF ⟨P,tn,λf=>ZF f l,n,gl⟩):YF ⟨P,tn,λf=>ZF f ((g,ci) :: l),n,gl⟩:=⟨λf c hf=>by
 simp only[ZF]at hf;cases hb:Nat.beq g f
 ·simp only[hb,cond_false]at hf;exact k.ok f c hf
 ·simp only[hb,cond_true,Option.some.injEq]at hf;have:=Nat.eq_of_beq_eq_true hb;subst this hf;exact h⟩
def zrG{P:Program}{l:List (TypeId×TN)}{D:Nat}(h:(l.all λp=>decide (cI P (λt=>OC t l) D p.1=some (lk p.2))&&Nat.beq (P.cellsOf p.1) (sz p.2))=true):kM P (λt=>OC t l) D:=⟨λe t he=>by
 have h1:=List.all_eq_true.1 h _ (zfo he);simp only[Bool.and_eq_true,decide_eq_true_eq]at h1;exact⟨h1.1,Nat.eq_of_beq_eq_true h1.2⟩⟩
def kB(ks:List nB)(ats rts:List Ty)(F:iB ats→Option (iB rts))(sh:List (Bool×Nat))(own:List Nat)(pb:Bool):eB:=
 ⟨ks,iB ats,iB rts,rD ats,F,qE rts,sh,own,pb⟩
def evC{P:Program}{tl:List (TypeId×TN)}[AV tl]{f:Nat}{fn:Func}{ks:List nB}{ats rts:List Ty}{F:iB ats→Option (iB rts)}{sh:List (Bool×Nat)}{own:List Nat}(n:Nat){l:List (Nat×eB)}{g:Gl}
  (hm:P.follows .mixedOrders=true) (ht:zdq P tl=true) (hΦ:YF ⟨P,λt=>OC t tl,λf=>ZF f l,n,g⟩) (hf:P.funcs[f]?=some fn) (an:An) (Raw:iB ats→Option (iB rts))
  (h0 : (fn.body.isSome && !(fn.name == "runtime.NumGoroutine") && Nat.beq n fn.ntmps && bC ks ats && Nat.ble ks.length fn.ntmps) = true)
  (he:∀x,BV ⟨P,λt=>OC t tl,λf=>ZF f l,n,g⟩ fn (fn.body.getD .skip) an ks own sh rts (cB ats x)=Raw x) (uX:∀x r,xA ats x→F x=some r→Raw x=some r):
  xB P f (kB ks ats rts F sh own false) g:=by
 simp only[Bool.and_eq_true,Bool.not_eq_true']at h0;obtain⟨⟨⟨⟨h1,h2⟩,h3⟩,h4⟩,h5⟩:=h0;obtain⟨b,hb⟩:=Option.isSome_iff_exists.1 h1;have hbd:fn.body.getD .skip=b:=by rw[hb];rfl
 exact ztM (C:=⟨P,λt=>OC t tl,λf=>ZF f l,n,g⟩) (zkT hm ht _ _ _) hΦ hf hb h2 (Nat.eq_of_beq_eq_true h3) an ks own sh ats rts F h4 h5 λx r hx hr=>by
  have:=he x;rw[hbd]at this;exact this.trans (uX x r hx hr)
def evP{P:Program}{tl:List (TypeId×TN)}[AV tl]{f:Nat}{fn:Func}{m:Nat}{ats rts:List Ty}{F:iB ats→Option (iB rts)}{sh:List (Bool×Nat)}(n:Nat){l:List (Nat×eB)}{g:Gl}
  (hm:P.follows .mixedOrders=true) (ht:zdq P tl=true) (hΦ:YF ⟨P,λt=>OC t tl,λf=>ZF f l,n,g⟩) (hf:P.funcs[f]?=some fn) (an:An) (Raw:iB ats→Option (iB rts))
  (h0 : (fn.body.isSome && !(fn.name == "runtime.NumGoroutine") && Nat.beq n fn.ntmps && bC (XD m) ats && Nat.ble m fn.ntmps) = true)
  (he:∀x,zdp ⟨P,λt=>OC t tl,λf=>ZF f l,n,g⟩ fn (fn.body.getD .skip) an (XD m) rts (cB ats x)=Raw x) (uX:∀x r,xA ats x→F x=some r→Raw x=some r):
  xB P f (kB (XD m) ats rts F sh [] true) g:=by
 simp only[Bool.and_eq_true,Bool.not_eq_true']at h0;obtain⟨⟨⟨⟨h1,h2⟩,h3⟩,h4⟩,h5⟩:=h0;obtain⟨b,hb⟩:=Option.isSome_iff_exists.1 h1;have hbd:fn.body.getD .skip=b:=by rw[hb];rfl
 exact zum (C:=⟨P,λt=>OC t tl,λf=>ZF f l,n,g⟩) (zkT hm ht _ _ _) hΦ hf hb h2 (Nat.eq_of_beq_eq_true h3) an m sh ats rts F h4 h5 λx r hx hr=>by
  have:=he x;rw[hbd]at this;exact this.trans (uX x r hx hr)
end Go.D
namespace Go.D
def zkx{σ R:Type}{f:σ→(σ→Option R)→Option R}{g:σ→Option R}{inv:σ→Prop}{μ:σ→Nat}
  (h:∀x,inv x→∀k:σ→Option R,(∀y,inv y→μ y<μ x→k y=g y)→f x k=g x):∀(n:Nat) (x:σ),inv x→μ x<n→qA n f x=g x
 | 0,x,_,hn=>by omega
 | n+1,x,hx,hn=>h x hx (qA n f) λy hy NV=>zkx h n y hy (by omega)
def AG{σ R:Type}{f:σ→(σ→Option R)→Option R}{g:σ→Option R}(inv:σ→Prop)(μ:σ→Nat)
  (h:∀x,inv x→∀k:σ→Option R,(∀y,inv y→μ y<μ x→k y=g y)→f x k=g x) {x:σ} (hx:inv x) (hμ:μ x<2^64):qA FU f x=g x:=by
 rw[zds];exact zkx h _ x hx hμ
def XB{n:Int}(h1: -9223372036854775808≤n)(h2:n≤9223372036854775807):IntKind.wrap .i64 n=n:=by
 simp only[IntKind.wrap]
 first
  | (simp[IntKind.bits,IntKind.signed];omega)
  | (unfold IntKind.bits;simp;omega)
def wG(i:Nat)(h:i<maxLen):IntKind.wrap .i64 ((i:Int)+1)=((i+1:Nat):Int):=by
 unfold maxLen at h;rw[XB (by omega) (by omega)];omega
def bV{R:Type}(n:Nat)(hn:n≤maxLen){f:Int→(Int→Option R)→Option R}{g:Nat→Option R}
  (h:∀(i:Nat) (k:Int→Option R),i<n→k (IntKind.wrap .i64 ((i:Int)+1))=g (i+1)→f (i:Int) k=g i) (hz:∀k,f (n:Int) k=g n) (i:Nat) (hi:i≤n):qA FU f (i:Int)=g i:=by
 have:=AG (g:=λx:Int=>g x.toNat) (f:=f) (λx=>0≤x∧x≤n) (λx=>n - x.toNat) (λx hx k hk=>by
  obtain⟨j,rfl⟩:=Int.eq_ofNat_of_zero_le hx.1;have hj:j≤n:=by omega
  simp only[Int.toNat_natCast]
  rcases Nat.lt_or_eq_of_le hj with NV | rfl
  ·refine h j k NV ?_;rw[wG j (by omega)];have:=hk ((j+1:Nat):Int) (by omega) (by omega);rw[this];simp
  ·exact hz k) (x:=(i:Int)) ⟨by omega,by omega⟩ (by unfold maxLen at hn;simp only[Int.toNat_natCast];omega)
 rw[this];simp
def zkM{σ R:Type}(n:Nat)(hn:n≤maxLen){f:Int×σ→(Int×σ→Option R)→Option R}{g:Nat→σ→Option R}(inv:Nat→σ→Prop)
  (h:∀(i:Nat) (s:σ) (k:Int×σ→Option R),i<n→inv i s→(∀t,inv (i+1) t→k (IntKind.wrap .i64 ((i:Int)+1),t)=g (i+1) t)→f ((i:Int),s) k=g i s)
  (hz:∀s k,inv n s→f ((n:Int),s) k=g n s) (i:Nat) (s:σ) (hi:i≤n) (hs:inv i s):qA FU f ((i:Int),s)=g i s:=by
 have:=AG (g:=λx:Int×σ=>g x.1.toNat x.2) (f:=f) (λx=>0≤x.1∧x.1≤n∧inv x.1.toNat x.2) (λx=>n - x.1.toNat) (λx hx k hk=>by
  obtain⟨x,s⟩:=x;obtain⟨h0,h1,h2⟩:=hx;simp only at h0 h1 h2;obtain⟨j,rfl⟩:=Int.eq_ofNat_of_zero_le h0;have hj:j≤n:=by omega
  simp only[Int.toNat_natCast]at h2⊢
  rcases Nat.lt_or_eq_of_le hj with NV | rfl
  ·refine h j s k NV h2 λt ht=>?_;rw[wG j (by omega)];have:=hk (((j+1:Nat):Int),t) ⟨by show(0:Int)≤((j+1:Nat):Int);omega,by show((j+1:Nat):Int)≤n;omega,by simpa using ht⟩ (by simp only[Int.toNat_natCast];omega);rw[this];simp
  ·exact hz s k h2) (x:=((i:Int),s)) ⟨by show(0:Int)≤(i:Int);omega,by show(i:Int)≤n;omega,by simpa using hs⟩ (by unfold maxLen at hn;simp only[Int.toNat_natCast];omega)
 rw[this];simp
def zkd{α:Type}(l:List α)(i:Nat):kA l (i:Int)=l[i]?:=by simp[kA]
def HB{α:Type}{l:List α}{i:Nat}(h:i<l.length):kA l (i:Int)=some l[i]:=by rw[zkd,List.getElem?_eq_getElem h]
def YA{α β:Type}(a:α)(f:α→Option β):Option.bind (some a) f=f a:=rfl
def RN{t:TN}{x:El t}{k:IntKind}{n:Int}(h:qI t x)(j:Nat)(hj:j<sz t)(he:(enc t x).getD j .undef= .int k n):sE k n:=(he▸h j hj).fits
def gS{n:Int}(h:sE .i64 n): -9223372036854775808≤n∧n≤9223372036854775807:=by
 obtain⟨h1,h2⟩:=h;simp[IntKind.min,IntKind.max,IntKind.signed,IntKind.bits]at h1 h2;omega
end Go.D
namespace Go.D
noncomputable section
def PF{α:Type}(a b:α):Bool:=@decide (a=b) (Classical.propDecidable _)
def QU{α:Type}{a b:α}:PF a b=true↔a=b:=by simp[PF]
def zta{α:Type}(a:α):PF a a=true:=QU.2 rfl
def zjM{α:Type}{a b:α}:PF a b=false↔a≠b:=by simp[PF]
def pt{α:Type}(p:Prop)(x:α):Option α:=@ite _ p (Classical.propDecidable p) (some x) none
def uA{α:Type}{p:Prop}{x:α}(h:p):pt p x=some x:=if_pos h
def zvL{α:Type}{p:Prop}{x r:α}(h:pt p x=some r):p∧x=r:=by
 unfold pt at h;split at h
 ·cases h;exact⟨‹p›,rfl⟩
 ·cases h
def UA{α:Type}{p:Prop}{x r:α}{o:Option α}(h:p→o=some x)(hp:pt p x=some r):o=some r:=by
 obtain⟨h1,rfl⟩:=zvL hp;exact h h1
def HA{α β:Type}{p:Prop}{x:α}{f:α→Option β}(h:p):Option.bind (pt p x) f=f x:=by rw[uA h];rfl
class Wt(α:Type) where
 of:α→Nat
def wt{α:Type}[Wt α](x:α):Nat:=Wt.of x
instance:Wt UInt8:=⟨λ_=>0⟩
instance:Wt Int:=⟨λ_=>0⟩
instance:Wt Bool:=⟨λ_=>0⟩
def wtl{α:Type}[Wt α]:List α→Nat
 | []=>0
 | x :: l=>wt x+wtl l+1
instance{α:Type}[Wt α]:Wt (List α):=⟨wtl⟩
def DG{α:Type}[Wt α]:wt ([]:List α)=0:=rfl
def vD{α:Type}[Wt α](x:α)(l:List α):wt (x :: l)=wt x+wt l+1:=rfl
def EU{α:Type}[Wt α]:∀(l m:List α),wt (l++m)=wt l+wt m
 | [],m=>by simp[DG]
 | x :: l,m=>by rw[List.cons_append,vD,vD,EU l m];omega
def JB{α:Type}[Wt α]:∀l:List α,l.length≤wt l
 | []=>Nat.le_refl _
 | x :: l=>by rw[vD,List.length_cons];have:=JB l;omega
def qV{α:Type}[Wt α]{x:α}:∀{l:List α},x∈l→wt x+1≤wt l
 | [],h=>by cases h
 | y :: l,h=>by
  rw[vD]
  rcases List.mem_cons.1 h with rfl | h
  ·omega
  ·have:=qV h;omega
def rE{α:Type}[Wt α]{l:List α}{i:Nat}(h:i<l.length):wt l[i]+1≤wt l:=qV (List.getElem_mem h)
def yG{α:Type}[Wt α](l:List α)(n:Nat):wt (l.take n)≤wt l:=by
 have:=EU (l.take n) (l.drop n);rw[List.take_append_drop]at this;omega
def qM{α:Type}[Wt α](l:List α)(n:Nat):wt (l.drop n)≤wt l:=by
 have:=EU (l.take n) (l.drop n);rw[List.take_append_drop]at this;omega
def zci{α:Type}[Wt α](h:∀x:α,wt x=0):∀l:List α,wt l=l.length
 | []=>rfl
 | x :: l=>by rw[vD,List.length_cons,zci h l,h];omega
def FA(l:List UInt8):wt l=l.length:=zci (λ_=>rfl) l
def aL(l:List Int):wt l=l.length:=zci (λ_=>rfl) l
def zu2{n:Int}(h:qI .int n):n≤9223372036854775807:=(gS (RN h 0 (by decide) rfl)).2
def nA{α:Type}[Wt α](a:α):Option α:=pt (wt a≤bA) a
def zlN{α:Type}(l r:List α)(x y:α){i:Nat}(h:l.length=i):List.set (l++x :: r) i y=l++y :: r:=by
 subst h;simp
def WL{α:Type}(l:List α){i:Nat}(h:i<l.length):l.take (i+1)=l.take i++[l[i]]:=by
 rw[List.take_succ_eq_append_getElem h]
def OR{α:Type}(l:List α){i:Nat}(h:i<l.length):l.drop i=l[i] :: l.drop (i+1):=List.drop_eq_getElem_cons h
def ztl{α:Type}(a b:α)(l m:List α):PF (a :: l) (b :: m)=(PF a b&&PF l m):=by
 rw[Bool.eq_iff_iff,Bool.and_eq_true,QU,QU,QU];exact List.cons_eq_cons
def zth{α:Type}(l m:List α)(hl:l.length≤maxLen)(he:l.length=m.length){f:Int→(Int→Option Bool)→Option Bool}
  (hf:∀(i:Nat) (k:Int→Option Bool) (h:i<l.length) (h':i<m.length),f (i:Int) k=bif PF l[i] m[i]then k (IntKind.wrap .i64 ((i:Int)+1))else some false)
  (hz:∀k,f (l.length:Int) k=some true):qA FU f (0:Int)=some (PF l m):=by
 have:=bV l.length hl (f:=f) (g:=λi=>some (PF (l.drop i) (m.drop i))) (λi k hi hk=>by
   have kW:i<m.length:=by omega
   rw[hf i k hi kW,hk,OR l hi,OR m kW,ztl];cases PF l[i] m[i]<;>rfl) (λk=>by
   rw[hz,List.drop_eq_nil_of_le (Nat.le_refl _),List.drop_eq_nil_of_le (by omega)];simp[PF]) 0 (Nat.zero_le _)
 simpa using this
def ztR{α:Type}(l m:List α)(hl:l.length≤maxLen)(ne:α→α→Bool)(yY:∀a b,ne a b= !PF a b):
  (cond ((l.length:Int) !=(m.length:Int)) (some false) (aA (fun (_:Unit)=>some true) fun k2=>
   qA FU (λ(x3:Int) k4=>cond (decide (x3<(l.length:Int))) (Option.bind (kA l x3) λe5=>Option.bind (kA m x3) λe6=>
    cond (ne e5 e6) (some false) (k4 (iA .i64 x3 1))) (k2 ())) 0))=some (PF l m):=by
 by_cases he:l.length=m.length
 ·have h1:((l.length:Int) !=(m.length:Int))=false:=by simp[he]
  simp only[h1,cond_false,aA];refine zth l m hl he (λi k hi kW=>?_) (λk=>by simp);have h2:decide ((i:Int)<(l.length:Int))=true:=by simp;exact hi
  simp only[h2,cond_true,HB hi,HB kW,YA,yY];cases PF l[i] m[i]<;>rfl
 ·have h1:((l.length:Int) !=(m.length:Int))=true:=by simp;omega
  have h2:l≠m:=by rintro rfl;exact he rfl
  simp[h1,zjM.2 h2]
def zvB(a b:Int):(a !=b)= !PF a b:=by
 by_cases h:a=b
 ·subst h;simp[zta]
 ·simp[zjM.2 h,h]
def FB(n:Nat)(p:Nat→Bool):Bool:=(List.range n).any p
def PN{n:Nat}{p:Nat→Bool}:FB n p=true↔∃i,i<n∧p i=true:=by simp[FB]
def TG{n:Nat}{p:Nat→Bool}:FB n p=false↔∀i,i<n→p i=false:=by simp[FB]
def zjh{n:Nat}{p q:Nat→Bool}(h:∀i,i<n→p i=q i):FB n p=FB n q:=by
 rw[Bool.eq_iff_iff,PN,PN];constructor
 ·rintro⟨i,hi,hp⟩;exact⟨i,hi,by rw[←h i hi];exact hp⟩
 ·rintro⟨i,hi,hp⟩;exact⟨i,hi,by rw[h i hi];exact hp⟩
def GI{R:Type}(n:Nat)(hn:n≤maxLen)(p:Nat→Bool)(TX z:Option R){f:Int→(Int→Option R)→Option R}
  (hf:∀(i:Nat) (k:Int→Option R),i<n→f (i:Int) k=bif p i then TX else k (IntKind.wrap .i64 ((i:Int)+1))) (hz:∀k,f (n:Int) k=z):
  qA FU f (0:Int)=bif FB n p then TX else z:=by
 have key:=bV n hn (f:=f) (g:=λi=>bif (List.range' i (n - i)).any p then TX else z) (λi k hi hk=>by
   rw[hf i k hi,hk,show n - i=(n - (i+1))+1 by omega,List.range'_succ,List.any_cons];cases p i<;>rfl) (λk=>by rw[hz];simp) 0 (Nat.zero_le _)
 rw[List.range'_eq_map_range]at key;simpa[FB]using key
def zs2{R:Type}(n:Nat)(hn:n≤maxLen)(p:Nat→Bool)(TX:Nat→Option R)(z:Option R){f:Int→(Int→Option R)→Option R}
  (hf:∀(i:Nat) (k:Int→Option R),i<n→f (i:Int) k=bif p i then TX i else k (IntKind.wrap .i64 ((i:Int)+1))) (hz:∀k,f (n:Int) k=z):
  qA FU f (0:Int)=match(List.range n).find? p with
   | some i=>TX i
   | none=>z:=by
 have key:=bV n hn (f:=f) (g:=λi=>match(List.range' i (n - i)).find? p with
   | some i=>TX i
   | none=>z) (λi k hi hk=>by
   rw[hf i k hi,hk,show n - i=(n - (i+1))+1 by omega,List.range'_succ,List.find?_cons];cases p i<;>rfl) (λk=>by rw[hz];simp) 0 (Nat.zero_le _)
 rw[←List.range_eq_range']at key;exact key
def zsn{n:Nat}{p:Nat→Bool}(h:FB n p=false):(List.range n).find? p=none:=by
 rw[List.find?_eq_none];intro x hx;rw[TG.1 h x (List.mem_range.1 hx)];simp
def zsC{n:Nat}{p:Nat→Bool}{m:Nat}(hm:m<n)(hp:p m=true)(h:∀i,i<m→p i=false):(List.range n).find? p=some m:=by
 rw[List.find?_eq_some_iff_append];refine⟨hp,List.range m,(List.range' (m+1) (n - (m+1))),?_,λa ha=>by rw[h a (List.mem_range.1 ha)];rfl⟩;rw[List.range_eq_range',List.range_eq_range', ←List.range'_succ];have:=List.range'_append_1 (s:=0) (m:=m) (n:=n - (m+1)+1);rw[Nat.zero_add]at this;rw[this];congr 1;omega
def zsH{n:Nat}{p:Nat→Bool}(h:FB n p=true):∃m,m<n∧p m=true∧∀i,i<m→p i=false:=by
 obtain⟨i,hi,hp⟩:=PN.1 h;induction i using Nat.strongRecOn with
 | ind i ih=>
  by_cases hc:∃j,j<i∧p j=true
  ·obtain⟨j,hj,G9⟩:=hc;exact ih j hj (by omega) G9
  ·refine⟨i,hi,hp,λj hj=>?_⟩;cases hb:p j
   ·rfl
   ·exact absurd ⟨j,hj,hb⟩ hc
def EF{α:Type}{l:List α}{i:Nat}(h:i<l.length)(q:α→Bool):(l[i]?).any q=q l[i]:=by
 rw[List.getElem?_eq_getElem h];rfl
end
end Go.D
namespace Go.D
def WC{α:Type}(b:Bool)(x y:α):cond b (some x) (some y)=some (cond b x y):=by cases b<;>rfl
def zvp{α:Type}[BEq α][LawfulBEq α](a b:α):PF a b=(a==b):=by
 rw[Bool.eq_iff_iff,QU,beq_iff_eq]
def ztc{α:Type}(l:List α)(p:α→Bool):(FB l.length λi=>(l[i]?).any p)=l.any p:=by
 rw[Bool.eq_iff_iff,PN,List.any_eq_true];constructor
 ·rintro⟨i,hi,h⟩;rw[EF hi]at h;exact⟨l[i],List.getElem_mem hi,h⟩
 ·rintro⟨x,hx,h⟩;obtain⟨i,hi,rfl⟩:=List.getElem_of_mem hx;exact⟨i,hi,by rw[EF hi];exact h⟩
def aS{α R:Type}(l:List α)(hl:l.length≤maxLen)(p:α→Bool)(TX z:Option R){f:Int→(Int→Option R)→Option R}
  (hf:∀(i:Nat) (k:Int→Option R) (h:i<l.length),f (i:Int) k=bif p l[i]then TX else k (IntKind.wrap .i64 ((i:Int)+1))) (hz:∀k,f (l.length:Int) k=z):
  qA FU f (0:Int)=bif l.any p then TX else z:=by
 rw[GI l.length hl (λi=>(l[i]?).any p) TX z (λi k hi=>by rw[hf i k hi,EF hi]) hz,ztc]
def zss{R:Type}(a n:Nat)(hn:n≤maxLen)(p:Nat→Bool)(TX z:Option R){f:Int→(Int→Option R)→Option R}
  (hf:∀(i:Nat) (k:Int→Option R),i<n→f (i:Int) k=bif p i then TX else k (IntKind.wrap .i64 ((i:Int)+1))) (hz:∀(i:Nat) k,n≤i→f (i:Int) k=z):
  qA FU f (a:Int)=bif FB n (λi=>decide (a≤i)&&p i)then TX else z:=by
 have key:=AG (f:=f) (g:=λx:Int=>bif FB n (λi=>decide (x.toNat≤i)&&p i)then TX else z) (λx=>0≤x) (λx=>n - x.toNat) (λx hx k hk=>by
  obtain⟨j,rfl⟩:=Int.eq_ofNat_of_zero_le hx;simp only[Int.toNat_natCast]
  by_cases hj:j<n
  ·rw[hf j k hj,wG j (by omega)];cases hp:p j
   ·simp only[cond_false];rw[hk ((j+1:Nat):Int) (by omega) (by simp only[Int.toNat_natCast];omega)];simp only[Int.toNat_natCast];congr 1;refine zjh λi hi=>?_
    by_cases he:i=j
    ·subst he;rw[hp];simp
    ·have:decide (j+1≤i)=decide (j≤i):=by
      rw[decide_eq_decide];omega
     rw[this]
   ·simp only[cond_true];rw[show FB n (λi=>decide (j≤i)&&p i)=true from PN.2 ⟨j,hj,by rw[hp];simp⟩];rfl
  ·rw[hz j k (by omega)]
   rw[show FB n (λi=>decide (j≤i)&&p i)=false from TG.2 λi hi=>by
    rw[show decide (j≤i)=false by simp;omega];rfl];rfl) (x:=(a:Int)) (by omega) (by unfold maxLen at hn;simp only[Int.toNat_natCast];omega)
 rw[key];simp only[Int.toNat_natCast]
def qS(n m:Nat):EA .i64 (n:Int) (m:Int)=((n % m:Nat):Int):=by
 rw[EA,Int.tmod_eq_emod_of_nonneg (by omega)];omega
def zt5(n m:Nat)(h:n≤maxLen)(hm:0<m):PC .i64 (n:Int) (m:Int)=((n / m:Nat):Int):=by
 have:=Nat.div_le_self n m;rw[PC,Int.tdiv_eq_ediv_of_nonneg (by omega), ←Int.natCast_ediv];generalize n / m=q at this;rw[XB (by omega) (by unfold maxLen at h;omega)]
def IB:bA=68719476736:=rfl
def tD:maxLen=9223372036854775807:=rfl
def AH(n:Nat)(p:Nat→Bool):Int:=match(List.range n).find? p with
 | some i=>(i:Int)
 | none=> -1
def zeZ(n:Nat)(hn:n≤maxLen)(p:Nat→Bool){f:Int→(Int→Option Int)→Option Int}
  (hf:∀(i:Nat) (k:Int→Option Int),i<n→f (i:Int) k=bif p i then some (i:Int)else k (IntKind.wrap .i64 ((i:Int)+1))) (hz:∀k,f (n:Int) k=some (-1)):
  qA FU f (0:Int)=some (AH n p):=by
 rw[zs2 n hn p (λi=>some (i:Int)) (some (-1)) hf hz,AH];cases(List.range n).find? p<;>rfl
def zrC{n:Nat}{p:Nat→Bool}(h:FB n p=false):AH n p= -1:=by rw[AH,zsn h]
def zrM{n:Nat}{p:Nat→Bool}{m:Nat}(hm:m<n)(hp:p m=true)(h:∀i,i<m→p i=false):AH n p=m:=by rw[AH,zsC hm hp h]
def AJ(n:Nat)(p:Nat→Bool):(FB n p=false∧AH n p= -1)∨∃m,m<n∧p m=true∧(∀i,i<m→p i=false)∧AH n p=(m:Int):=by
 cases h:FB n p
 ·exact .inl ⟨rfl,zrC h⟩
 ·obtain⟨m,h1,h2,h3⟩:=zsH h;exact .inr ⟨m,h1,h2,h3,zrM h1 h2 h3⟩
def zfk{n:Nat}{p:Nat→Bool}{i:Nat}(hi:i<n)(hp:p i=true):decide (AH n p<(i:Int))=FB i p∧(AH n p !=(i:Int))=FB i p:=by
 rcases AJ n p with⟨h1,_⟩ | ⟨m,h1,h2,h3,h4⟩
 ·rw[TG.1 h1 i hi]at hp;cases hp
 ·rw[h4]
  by_cases hm:m<i
  ·rw[show FB i p=true from PN.2 ⟨m,hm,h2⟩];exact⟨decide_eq_true (by omega),bne_iff_ne.2 (by omega)⟩
  ·have:m=i:=by
    rcases Nat.lt_or_ge i m with h | h
    ·rw[h3 i h]at hp;cases hp
    ·omega
   subst this;rw[show FB m p=false from TG.2 h3];exact⟨decide_eq_false (by omega),by simp⟩
def zjA{α R:Type}(l:List α)(hl:l.length≤maxLen)(p:α→Bool)(TX:α→Option R)(z:Option R){f:Int→(Int→Option R)→Option R}
  (hf:∀(i:Nat) (k:Int→Option R) (h:i<l.length),f (i:Int) k=bif p l[i]then TX l[i]else k (IntKind.wrap .i64 ((i:Int)+1))) (hz:∀k,f (l.length:Int) k=z):
  qA FU f (0:Int)=match l.find? p with
   | some e=>TX e
   | none=>z:=by
 have key:=bV l.length hl (f:=f) (g:=λi=>match(l.drop i).find? p with
   | some e=>TX e
   | none=>z) (λi k hi hk=>by
   rw[hf i k hi,hk,OR l hi,List.find?_cons];cases p l[i]<;>rfl) (λk=>by rw[hz];simp) 0 (Nat.zero_le _)
 simpa using key
def zsN{α σ R:Type}(l:List α)(hl:l.length≤maxLen)(g:σ→α→σ)(WB:σ→Option R){f:σ×Int→(σ×Int→Option R)→Option R}
  (hf:∀(i:Nat) (s:σ) (k:σ×Int→Option R) (h:i<l.length),f (s,(i:Int)) k=k (g s l[i],IntKind.wrap .i64 ((i:Int)+1))) (hz:∀s k,f (s,(l.length:Int)) k=WB s) (s0:σ):
  qA FU f (s0,(0:Int))=WB (l.foldl g s0):=by
 have key:=AG (f:=f) (g:=λx:σ×Int=>WB ((l.drop x.2.toNat).foldl g x.1)) (λx=>0≤x.2∧x.2≤l.length) (λx=>l.length - x.2.toNat) (λx hx k hk=>by
  obtain⟨s,i⟩:=x;obtain⟨h0,h1⟩:=hx;simp only at h0 h1;obtain⟨j,rfl⟩:=Int.eq_ofNat_of_zero_le h0;simp only[Int.toNat_natCast]
  by_cases hj:j<l.length
  ·rw[hf j s k hj,wG j (by omega)];rw[hk (g s l[j],((j+1:Nat):Int)) ⟨by show(0:Int)≤((j+1:Nat):Int);omega,by show((j+1:Nat):Int)≤l.length;omega⟩ (by simp only[Int.toNat_natCast];omega)];simp only[Int.toNat_natCast];rw[OR l hj,List.foldl_cons]
  ·have:j=l.length:=by omega
   subst this;rw[hz];simp) (x:=(s0,(0:Int))) ⟨Int.le_refl _,by show(0:Int)≤l.length;omega⟩ (by show l.length - Int.toNat 0<2^64;unfold maxLen at hl;simp;omega)
 rw[key];simp
def eE{α:Type}[Wt α]{l:List α}(h:wt l≤bA):l.length≤maxLen:=by
 have:=JB l;have:=IB;have:=tD;omega
end Go.D
namespace Go.D
end Go.D

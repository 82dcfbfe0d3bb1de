/-
 Short names for what the plain semantics computes with numbers.
-/
import Derived.Test.YtkpkommmdacjlaaGreatL7
set_option linter.all false
namespace Go.D
def yC(k:Nat):List (Nat×KB)→Option KB
 | []=>none
 | (j,x) :: r=>bif Nat.beq j k then some x else yC k r
@[reducible] def PA(k:IntKind)(a b:Int):Int:=k.wrap (a+b)
@[reducible] def qC(k:IntKind)(a b:Int):Int:=k.wrap (a - b)
def wJ(k:IntKind)(a b:Int):Int:=k.wrap (BitVec.ofInt k.bits a&&&BitVec.ofInt k.bits b).toNat
def ior(k:IntKind)(a b:Int):Int:=k.wrap (BitVec.ofInt k.bits a|||BitVec.ofInt k.bits b).toNat
def KG(k:IntKind)(a b:Int):Int:=k.wrap (BitVec.ofInt k.bits a^^^BitVec.ofInt k.bits b).toNat
def zgI(k:IntKind)(a b:Int):Int:=k.wrap (a *2^(min b.toNat k.bits))
def zg5(k:IntKind)(a b:Int):Int:=a.fdiv (2^(min b.toNat k.bits))
def fT(P:Program)(p:TypeId×TN):Bool:=match P.info? p.1 with
 | some i=>Nat.beq i.size (sz p.2)&&Nat.ble i.bytes 1024&&(match i.zero with
  | some z=>Nat.beq z.cells.size (sz p.2)
  | none=>false)
 | none=>false
def pJ(P:Program)(l:List (TypeId×TN)):Bool:=l.all (fT P)
def EO{α:Type}{k:Nat}{x:α}:∀{l:List (Nat×α)},JA k l=some x→(k,x)∈l
 | [],h=>by simp[JA]at h
 | (j,y) :: r,h=>by
  simp only[JA]at h;cases hb:Nat.beq j k
  ·simp only[hb,cond_false]at h;exact List.mem_cons_of_mem _ (EO h)
  ·simp only[hb,cond_true,Option.some.injEq]at h;have:=Nat.eq_of_beq_eq_true hb;subst this h;simp
class kH(l:List (TypeId×TN)) extends aA where
 is:∀e t,JA e l=some t→tn e=some t
def CM{P:Program}{l:List (TypeId×TN)}[kH l](hm:P.follows .mixedOrders=true)(h:pJ P l=true)(Φ:Nat→Option KB)(n:Nat)(g:Gl):EC ⟨P,λt=>JA t l,Φ,n,g⟩:=by
 refine⟨hm,λe t he=>?_,λe t he=>kH.is (l:=l) e t he⟩;have h1:=List.all_eq_true.1 h _ (EO he);simp only[fT]at h1;split at h1
 case h_2=>cases h1
 rename_i i hi;simp only[Bool.and_eq_true]at h1;obtain⟨⟨h2,h3⟩,h4⟩:=h1;split at h4
 case h_2=>cases h4
 rename_i z hz;exact⟨i,z,hi,Nat.eq_of_beq_eq_true h2,Nat.le_of_ble_eq_true h3,hz,Nat.eq_of_beq_eq_true h4⟩
def WO[aA]{P:Program}{tn:TypeId→Option TN}{n:Nat}{g:Gl}:JC ⟨P,tn,λf=>yC f [],n,g⟩:=⟨λ_ _ h=>by cases h⟩
def zcs[aA]{P:Program}{tn:TypeId→Option TN}{n g:Nat}{ci:KB}{l:List (Nat×KB)}{gl:Gl}(h:oA P (g % 1048576) ci gl)(k:JC ⟨P,tn,λf=>yC f l,n,gl⟩):JC ⟨P,tn,λf=>yC f ((g,ci) :: l),n,gl⟩:=⟨λf c hf=>by
 simp only[yC]at hf;cases hb:Nat.beq g f
 ·simp only[hb,cond_false]at hf;exact k.ok f c hf
 ·simp only[hb,cond_true,Option.some.injEq]at hf;have:=Nat.eq_of_beq_eq_true hb;subst this hf;exact h⟩
def zaY{P:Program}{l:List (TypeId×TN)}{D:Nat}(h:(l.all λp=>decide (uE P (λt=>JA t l) D p.1=some (lk p.2))&&Nat.beq (P.cellsOf p.1) (sz p.2))=true):qG P (λt=>JA t l) D:=⟨λe t he=>by
 have h1:=List.all_eq_true.1 h _ (EO he);simp only[Bool.and_eq_true,decide_eq_true_eq]at h1;exact⟨h1.1,Nat.eq_of_beq_eq_true h1.2⟩⟩
def pA(ks:List GA)(ats rts:List Ty)(F:LA ats→Option (LA rts))(sh:List (Bool×Nat))(own:List Nat)(pb:Bool):KB:=
 ⟨ks,LA ats,LA rts,zB ats,F,fC rts,sh,own,pb⟩
def evC{P:Program}{tl:List (TypeId×TN)}[kH tl]{f:Nat}{fn:Func}{ks:List GA}{ats rts:List Ty}{F:LA ats→Option (LA rts)}{sh:List (Bool×Nat)}{own:List Nat}(n:Nat){l:List (Nat×KB)}{g:Gl}
  (hm:P.follows .mixedOrders=true) (ht:pJ P tl=true) (hΦ:JC ⟨P,λt=>JA t tl,λf=>yC f l,n,g⟩) (hf:P.funcs[f]?=some fn) (an:An) (Raw:LA ats→Option (LA rts))
  (h0 : (fn.body.isSome && !(fn.name == "runtime.NumGoroutine") && Nat.beq n fn.ntmps && RA ks ats && Nat.ble ks.length fn.ntmps) = true)
  (he:∀x,IK ⟨P,λt=>JA t tl,λf=>yC f l,n,g⟩ fn (fn.body.getD .skip) an ks own sh rts (zA ats x)=Raw x) (QV:∀x r,rA ats x→F x=some r→Raw x=some r):
  oA P f (pA ks ats rts F sh own false) g:=by
 simp only[Bool.and_eq_true,Bool.not_eq_true']at h0;obtain⟨⟨⟨⟨h1,h2⟩,h3⟩,h4⟩,h5⟩:=h0;obtain⟨b,hb⟩:=Option.isSome_iff_exists.1 h1;have rY:fn.body.getD .skip=b:=by rw[hb];rfl
 exact zcB (C:=⟨P,λt=>JA t tl,λf=>yC f l,n,g⟩) (CM hm ht _ _ _) hΦ hf hb h2 (Nat.eq_of_beq_eq_true h3) an ks own sh ats rts F h4 h5 λx r hx hr=>by
  have:=he x;rw[rY]at this;exact this.trans (QV x r hx hr)
end Go.D
namespace Go.D
def KR{σ R:Type}{f:σ→(σ→Option R)→Option R}{g:σ→Option R}{inv:σ→Prop}{μ:σ→Nat}
  (h:∀x,inv x→∀k:σ→Option R,(∀y,inv y→μ y<μ x→k y=g y)→f x k=g x):∀(n:Nat) (x:σ),inv x→μ x<n→KA n f x=g x
 | 0,x,_,hn=>by omega
 | n+1,x,hx,hn=>h x hx (KA n f) λy hy HV=>KR h n y hy (by omega)
def jJ{σ R:Type}{f:σ→(σ→Option R)→Option R}{g:σ→Option R}(inv:σ→Prop)(μ:σ→Nat)
  (h:∀x,inv x→∀k:σ→Option R,(∀y,inv y→μ y<μ x→k y=g y)→f x k=g x) {x:σ} (hx:inv x) (hμ:μ x<2^64):KA FU f x=g x:=by
 rw[vP];exact KR h _ x hx hμ
def sF{n:Int}(h1: -9223372036854775808≤n)(h2:n≤9223372036854775807):IntKind.wrap .i64 n=n:=by
 simp only[IntKind.wrap]
 first
  | (simp[IntKind.bits,IntKind.signed];omega)
  | (unfold IntKind.bits;simp;omega)
def nG(i:Nat)(h:i<maxLen):IntKind.wrap .i64 ((i:Int)+1)=((i+1:Nat):Int):=by
 unfold maxLen at h;rw[sF (by omega) (by omega)];omega
def jS{R:Type}(n:Nat)(hn:n≤maxLen){f:Int→(Int→Option R)→Option R}{g:Nat→Option R}
  (h:∀(i:Nat) (k:Int→Option R),i<n→k (IntKind.wrap .i64 ((i:Int)+1))=g (i+1)→f (i:Int) k=g i) (hz:∀k,f (n:Int) k=g n) (i:Nat) (hi:i≤n):KA FU f (i:Int)=g i:=by
 have:=jJ (g:=λx:Int=>g x.toNat) (f:=f) (λx=>0≤x∧x≤n) (λx=>n - x.toNat) (λx hx k hk=>by
  obtain⟨j,rfl⟩:=Int.eq_ofNat_of_zero_le hx.1;have hj:j≤n:=by omega
  simp only[Int.toNat_natCast]
  rcases Nat.lt_or_eq_of_le hj with HV | rfl
  ·refine h j k HV ?_;rw[nG j (by omega)];have:=hk ((j+1:Nat):Int) (by omega) (by omega);rw[this];simp
  ·exact hz k) (x:=(i:Int)) ⟨by omega,by omega⟩ (by unfold maxLen at hn;simp only[Int.toNat_natCast];omega)
 rw[this];simp
def YR{σ R:Type}(n:Nat)(hn:n≤maxLen){f:Int×σ→(Int×σ→Option R)→Option R}{g:Nat→σ→Option R}(inv:Nat→σ→Prop)
  (h:∀(i:Nat) (s:σ) (k:Int×σ→Option R),i<n→inv i s→(∀t,inv (i+1) t→k (IntKind.wrap .i64 ((i:Int)+1),t)=g (i+1) t)→f ((i:Int),s) k=g i s)
  (hz:∀s k,inv n s→f ((n:Int),s) k=g n s) (i:Nat) (s:σ) (hi:i≤n) (hs:inv i s):KA FU f ((i:Int),s)=g i s:=by
 have:=jJ (g:=λx:Int×σ=>g x.1.toNat x.2) (f:=f) (λx=>0≤x.1∧x.1≤n∧inv x.1.toNat x.2) (λx=>n - x.1.toNat) (λx hx k hk=>by
  obtain⟨x,s⟩:=x;obtain⟨h0,h1,h2⟩:=hx;simp only at h0 h1 h2;obtain⟨j,rfl⟩:=Int.eq_ofNat_of_zero_le h0;have hj:j≤n:=by omega
  simp only[Int.toNat_natCast]at h2⊢
  rcases Nat.lt_or_eq_of_le hj with HV | rfl
  ·refine h j s k HV h2 λt ht=>?_;rw[nG j (by omega)];have:=hk (((j+1:Nat):Int),t) ⟨by show(0:Int)≤((j+1:Nat):Int);omega,by show((j+1:Nat):Int)≤n;omega,by simpa using ht⟩ (by simp only[Int.toNat_natCast];omega);rw[this];simp
  ·exact hz s k h2) (x:=((i:Int),s)) ⟨by show(0:Int)≤(i:Int);omega,by show(i:Int)≤n;omega,by simpa using hs⟩ (by unfold maxLen at hn;simp only[Int.toNat_natCast];omega)
 rw[this];simp
def zcg{α:Type}(l:List α)(i:Nat):NA l (i:Int)=l[i]?:=by simp[NA]
def bD{α:Type}{l:List α}{i:Nat}(h:i<l.length):NA l (i:Int)=some l[i]:=by rw[zcg,List.getElem?_eq_getElem h]
def WB{α β:Type}(a:α)(f:α→Option β):Option.bind (some a) f=f a:=rfl
def zb3{t:TN}{x:El t}{k:IntKind}{n:Int}(h:jF t x)(j:Nat)(hj:j<sz t)(he:(enc t x).getD j .undef= .int k n):LB k n:=(he▸h j hj).fits
def zbY{n:Int}(h:LB .i64 n): -9223372036854775808≤n∧n≤9223372036854775807:=by
 obtain⟨h1,h2⟩:=h;simp[IntKind.min,IntKind.max,IntKind.signed,IntKind.bits]at h1 h2;omega
end Go.D
namespace Go.D
open Option renaming bind→ob
noncomputable section
def mA{α:Type}(a b:α):Bool:=@decide (a=b) (Classical.propDecidable _)
def pK{α:Type}{a b:α}:mA a b=true↔a=b:=by simp[mA]
def qM{α:Type}(a:α):mA a a=true:=pK.2 rfl
def SG{α:Type}{a b:α}:mA a b=false↔a≠b:=by simp[mA]
def pt{α:Type}(p:Prop)(x:α):Option α:=@ite _ p (Classical.propDecidable p) (some x) none
def sG{α:Type}{p:Prop}{x:α}(h:p):pt p x=some x:=if_pos h
def fN{α:Type}{p:Prop}{x r:α}(h:pt p x=some r):p∧x=r:=by
 unfold pt at h;split at h
 ·cases h;exact⟨‹p›,rfl⟩
 ·cases h
def CA{α:Type}{p:Prop}{x r:α}{o:Option α}(h:p→o=some x)(hp:pt p x=some r):o=some r:=by
 obtain⟨h1,rfl⟩:=fN hp;exact h h1
def IA{α β:Type}{p:Prop}{x:α}{f:α→Option β}(h:p):ob (pt p x) f=f x:=by rw[sG h];rfl
class Wt(α:Type) where
 of:α→Nat
def wt{α:Type}[Wt α](x:α):Nat:=Wt.of x
instance:Wt UInt8:=⟨λ_=>0⟩
instance:Wt Int:=⟨λ_=>0⟩
instance:Wt Bool:=⟨λ_=>0⟩
def qU{α:Type}[Wt α]:List α→Nat
 | []=>0
 | x :: l=>wt x+qU l+1
instance{α:Type}[Wt α]:Wt (List α):=⟨qU⟩
def CK{α:Type}[Wt α]:wt ([]:List α)=0:=rfl
def sE{α:Type}[Wt α](x:α)(l:List α):wt (x :: l)=wt x+wt l+1:=rfl
def dM{α:Type}[Wt α]:∀(l m:List α),wt (l++m)=wt l+wt m
 | [],m=>by simp[CK]
 | x :: l,m=>by rw[List.cons_append,sE,sE,dM l m];omega
def SD{α:Type}[Wt α]:∀l:List α,l.length≤wt l
 | []=>Nat.le_refl _
 | x :: l=>by rw[sE,List.length_cons];have:=SD l;omega
def dT{α:Type}[Wt α]{x:α}:∀{l:List α},x∈l→wt x+1≤wt l
 | [],h=>by cases h
 | y :: l,h=>by
  rw[sE]
  rcases List.mem_cons.1 h with rfl | h
  ·omega
  ·have:=dT h;omega
def vE{α:Type}[Wt α]{l:List α}{i:Nat}(h:i<l.length):wt l[i]+1≤wt l:=dT (List.getElem_mem h)
def uM{α:Type}[Wt α](h:∀x:α,wt x=0):∀l:List α,wt l=l.length
 | []=>rfl
 | x :: l=>by rw[sE,List.length_cons,uM h l,h];omega
def jB(l:List UInt8):wt l=l.length:=uM (λ_=>rfl) l
def zK(l:List Int):wt l=l.length:=uM (λ_=>rfl) l
def OB{α:Type}[Wt α](a:α)(left:Int):Int:=if(wt a:Int)≤left then left - wt a else -1
def vA{α:Type}[Wt α](a:α)(left:Int):Option Int:=pt (0≤left) (OB a left)
def ID{α:Type}[Wt α]{a:α}{left:Int}(h:(wt a:Int)≤left):OB a left=left - wt a:=if_pos h
def pB{α:Type}[Wt α]{a:α}{left:Int}(h:¬(wt a:Int)≤left):OB a left= -1:=if_neg h
def zdj{α:Type}[Wt α]{a:α}{left:Int}:decide (OB a left<0)= !decide ((wt a:Int)≤left):=by
 unfold OB;split
 ·rename_i h;have h1:¬(left - (wt a:Int)<0):=by omega
  simp[h,h1]
 ·rename_i h;simp[h]
def oB{β:Type}[Wt β]{b:β}{left:Int}(h0:0≤left){R:Int→Option Int}{v:Int}(GV:¬(wt b:Int)≤left→v= -1)(V3:(wt b:Int)≤left→R (left - wt b)=some v):
  (ob (vA b left) λr=>cond (decide (r<0)) (some (-1)) (R r))=some v:=by
 rw[vA,IA h0,zdj]
 by_cases h:(wt b:Int)≤left
 ·simp only[h,decide_true,Bool.not_true,cond_false];rw[OB,if_pos h];exact V3 h
 ·simp only[h,decide_false,Bool.not_false,cond_true];rw[GV h]
def bT{n:Nat}{left:Int}(h0:0≤left)(hf:left≤9223372036854775807)(hn:n≤maxLen):IntKind.wrap .i64 (left - (n:Int))=left - n:=by
 unfold maxLen at hn;exact sF (by omega) (by omega)
def yO{α:Type}[Wt α](h:∀x:α,wt x=0)(l:List α){left:Int}(h0:0≤left)(hf:left≤9223372036854775807)(hl:l.length≤maxLen):
  cond (decide ((qC .i64 left (l.length:Int))<0)) (some (-1)) (some (qC .i64 left (l.length:Int)))=some (OB l left):=by
 simp only[qC,bT h0 hf hl,OB,uM h];split
 ·have:¬(left - (l.length:Int)<0):=by omega
  simp[this]
 ·have:left - (l.length:Int)<0:=by omega
  simp[this]
def lJ{α:Type}[Wt α](l:List α){left:Int}(h0:0≤left)(hf:left≤9223372036854775807)(hl:l.length≤maxLen):
  cond (decide ((qC .i64 left (l.length:Int))<0)) (some (-1)) (DA (λ(y1:Int)=>some y1) λk2=>
   KA FU (λ(x3:Int×Int) k4=>cond (decide (x3.2<(l.length:Int))) (ob (NA l x3.2) λe5=>
    ob (vA e5 x3.1) λr6=>cond (decide (r6<0)) (some (-1)) (k4 (r6,(PA .i64 x3.2 1)))) (k2 x3.1)) ((qC .i64 left (l.length:Int)),0))=some (OB l left):=by
 simp only[qC,bT h0 hf hl,DA]
 by_cases WV:(l.length:Int)≤left
 ·have h1:¬(left - (l.length:Int)<0):=by omega
  simp only[h1,decide_false,cond_false]
  -- what is left at i:the lengths of the rest are taken already
  have hw:∀m:List α,m.length≤wt m:=SD
  have key:=jJ (g:=λx:Int×Int=>some (if((wt (l.drop x.2.toNat):Int) - (l.drop x.2.toNat).length≤x.1)then x.1 - ((wt (l.drop x.2.toNat):Int) - (l.drop x.2.toNat).length)else -1))
   (f:=fun (x3:Int × Int) k4=>cond (decide (x3.2<(l.length:Int))) (ob (NA l x3.2) fun e5=>
    ob (vA e5 x3.1) λr6=>cond (decide (r6<0)) (some (-1)) (k4 (r6,(PA .i64 x3.2 1)))) (some x3.1))
   (fun x=>0≤x.1∧0≤x.2∧x.2≤l.length) (fun x=>l.length - x.2.toNat) (fun x hx k hk=>by
    obtain⟨r,i⟩:=x;obtain⟨hr,B8,SW⟩:=hx;simp only at hr B8 SW;obtain⟨j,rfl⟩:=Int.eq_ofNat_of_zero_le B8;simp only[Int.toNat_natCast]
    by_cases hj:j<l.length
    ·have h2:decide ((j:Int)<(l.length:Int))=true:=by simp;exact hj
     simp only[h2,cond_true,bD hj,WB];rw[drop_cons' l hj,sE,List.length_cons];have hd:=hw (l.drop (j+1));refine oB hr (λhb=>?_) (λhg=>?_)
     ·rw[if_neg];omega
     ·have hm:j<maxLen:=Nat.lt_of_lt_of_le hj hl
      rw[hk (r - (wt l[j]:Int),PA .i64 (j:Int) 1) ⟨by show(0:Int)≤_;omega,by show(0:Int)≤PA .i64 (j:Int) 1;rw[PA,nG j hm];omega,by show PA .i64 (j:Int) 1≤_;rw[PA,nG j hm];omega⟩
       (by simp only[PA,nG j hm,Int.toNat_natCast];omega)]
      simp only[PA,nG j hm,Int.toNat_natCast];congr 1
      by_cases hc:(wt (l.drop (j+1)):Int) - (l.drop (j+1)).length≤r - wt l[j]
      ·rw[if_pos hc,if_pos (by push_cast;omega)];push_cast;omega
      ·rw[if_neg hc,if_neg (by push_cast;omega)]
    ·have kW:j=l.length:=by omega
     subst kW;have h2:decide ((l.length:Int)<(l.length:Int))=false:=by simp
     simp only[h2,cond_false,List.drop_length,CK,List.length_nil];simp[hr]) (x:=(left - (l.length:Int),0)) ⟨by show(0:Int)≤_;omega,Int.le_refl _,by show(0:Int)≤_;omega⟩ (by show l.length - Int.toNat 0<2^64;unfold maxLen at hl;simp;omega)
  rw[key];simp only[Int.toNat_zero,List.drop_zero,OB];have hd:=hw l;congr 1
  by_cases hc:(wt l:Int)≤left
  ·rw[if_pos (by omega),if_pos hc];omega
  ·rw[if_neg (by omega),if_neg hc]
 ·have h1:left - (l.length:Int)<0:=by omega
  have:=SD l;simp only[h1,decide_true,cond_true,OB];rw[if_neg (by omega)]
where
 drop_cons' {α:Type} (l:List α) {i:Nat} (h:i<l.length):l.drop i=l[i] :: l.drop (i+1):=List.drop_eq_getElem_cons h
def PF{n:Int}(h:jF .int n):n≤9223372036854775807:=(zbY (zb3 h 0 (by decide) rfl)).2
def eA{α:Type}[Wt α](a:α):Option α:=pt (wt a≤nA) a
def zeo{α:Type}(l r:List α)(x y:α){i:Nat}(h:l.length=i):List.set (l++x :: r) i y=l++y :: r:=by
 subst h;simp
def YQ{α:Type}(l:List α){i:Nat}(h:i<l.length):l.take (i+1)=l.take i++[l[i]]:=by
 rw[List.take_succ_eq_append_getElem h]
def jR{α:Type}(l:List α){i:Nat}(h:i<l.length):l.drop i=l[i] :: l.drop (i+1):=List.drop_eq_getElem_cons h
def pR{α R:Type}(l:List α)(z:α)(hl:l.length≤maxLen)(cB:List α→Option R){f:Int×List α→(Int×List α→Option R)→Option R}
  (hf:∀(i:Nat) (o:List α) (k:Int×List α→Option R) (h:i<l.length) (_:i<o.length),f ((i:Int),o) k=k (IntKind.wrap .i64 ((i:Int)+1),List.set o i l[i]))
  (hz:∀o k,f ((l.length:Int),o) k=cB o):KA FU f ((0:Int),List.replicate l.length z)=cB l:=by
 have:=YR (σ:=List α) l.length hl (f:=f) (g:=λ_ _=>cB l) (λi o=>o=l.take i++List.replicate (l.length - i) z) (λi o k hi ho hk=>by
   subst ho;have FV:(l.take i).length=i:=by rw[List.length_take];omega
   rw[hf i _ k hi (by simp;omega)];refine hk _ ?_;rw[show l.length - i=(l.length - (i+1))+1 by omega,List.replicate_succ,zeo _ _ _ _ FV,YQ l hi,List.append_assoc];rfl) (λo k ho=>by
   rw[hz];subst ho;simp) 0 (List.replicate l.length z) (Nat.zero_le _) (by simp)
 exact this
def CT{n:Nat}(h:n≤nA):(decide ((0:Int)≤(n:Int))&&decide ((n:Int)≤(nA:Int))&&((n:Int)==(n:Int)))=true:=by
 simp;exact h
def WG{α:Type}[Wt α](l:List α)(z:α)(hl:l.length≤maxLen)(hw:wt l≤nA):
  (cond (decide (0≤(l.length:Int))&&decide ((l.length:Int)≤(nA:Int))&&((l.length:Int)==(l.length:Int))) (let x1:List α:=List.replicate ((l.length:Int):Int).toNat z
   DA (λ(y2:(List α))=>some y2) λk3=>
   KA FU (λ(x4:Int×(List α)) k5=>cond (decide (x4.1<(l.length:Int))) (ob (NA l x4.1) λe6=>ob (eA e6) λr7=>
    cond (decide (0≤x4.1)&&decide (x4.1<(x4.2.length:Int))) (ob (x4.2[x4.1.toNat]?) λ_=>k5 ((PA .i64 x4.1 1),(List.set x4.2 x4.1.toNat r7))) none) (k3 x4.2)) (0,x1)) none)=some l:=by
 rw[CT (Nat.le_trans (SD l) hw)];simp only[cond_true,DA,Int.toNat_natCast];refine pR l _ hl (λo=>some o) (λi o k hi ho=>?_) (λo k=>by simp);have h2:decide ((i:Int)<(l.length:Int))=true:=by simp;exact hi
 have h3:(decide ((0:Int)≤(i:Int))&&decide ((i:Int)<(o.length:Int)))=true:=by simp;exact ho
 have h4:=vE hi;simp only[h2,cond_true,bD hi,WB,h3,Int.toNat_natCast,List.getElem?_eq_getElem ho];rw[eA,IA (by omega)]
def RQ{α:Type}(l:List α)(z:α)(hl:l.length≤maxLen)(hw:l.length≤nA)(u:α→α)(hu:∀x,u x=x):
  (cond (decide (0≤(l.length:Int))&&decide ((l.length:Int)≤(nA:Int))&&((l.length:Int)==(l.length:Int))) (
   DA (λ(y2:(List α))=>some y2) λk3=>
   KA FU (λ(x4:Int×(List α)) k5=>cond (decide (x4.1<(l.length:Int))) (ob (NA l x4.1) λe6=>
    cond (decide (0≤x4.1)&&decide (x4.1<(x4.2.length:Int))) (ob (x4.2[x4.1.toNat]?) λ_=>k5 ((PA .i64 x4.1 1),List.set x4.2 x4.1.toNat (u e6))) none) (k3 x4.2)) (0,List.replicate ((l.length:Int):Int).toNat z)) none)=some l:=by
 rw[CT hw];simp only[cond_true,DA,Int.toNat_natCast,hu];refine pR l _ hl (λo=>some o) (λi o k hi ho=>?_) (λo k=>by simp);have h2:decide ((i:Int)<(l.length:Int))=true:=by simp;exact hi
 have h3:(decide ((0:Int)≤(i:Int))&&decide ((i:Int)<(o.length:Int)))=true:=by simp;exact ho
 simp only[h2,cond_true,bD hi,WB,h3,Int.toNat_natCast,List.getElem?_eq_getElem ho]
def zbL(x:UInt8):UInt8.ofNat (((x.toNat:Nat):Int)).toNat=x:=by simp
def zcd{α:Type}(a b:α)(l m:List α):mA (a :: l) (b :: m)=(mA a b&&mA l m):=by
 rw[Bool.eq_iff_iff,Bool.and_eq_true,pK,pK,pK];exact List.cons_eq_cons
def zb8{α:Type}(l m:List α)(hl:l.length≤maxLen)(he:l.length=m.length){f:Int→(Int→Option Bool)→Option Bool}
  (hf:∀(i:Nat) (k:Int→Option Bool) (h:i<l.length) (h':i<m.length),f (i:Int) k=bif mA l[i] m[i]then k (IntKind.wrap .i64 ((i:Int)+1))else some false)
  (hz:∀k,f (l.length:Int) k=some true):KA FU f (0:Int)=some (mA l m):=by
 have:=jS l.length hl (f:=f) (g:=λi=>some (mA (l.drop i) (m.drop i))) (λi k hi hk=>by
   have TV:i<m.length:=by omega
   rw[hf i k hi TV,hk,jR l hi,jR m TV,zcd];cases mA l[i] m[i]<;>rfl) (λk=>by
   rw[hz,List.drop_eq_nil_of_le (Nat.le_refl _),List.drop_eq_nil_of_le (by omega)];simp[mA]) 0 (Nat.zero_le _)
 simpa using this
def JF{α:Type}(l m:List α)(hl:l.length≤maxLen)(ne:α→α→Bool)(uW:∀a b,ne a b= !mA a b):
  (cond ((l.length:Int) !=(m.length:Int)) (some false) (DA (fun (_:Unit)=>some true) fun k2=>
   KA FU (λ(x3:Int) k4=>cond (decide (x3<(l.length:Int))) (ob (NA l x3) λe5=>ob (NA m x3) λe6=>
    cond (ne e5 e6) (some false) (k4 (PA .i64 x3 1))) (k2 ())) 0))=some (mA l m):=by
 by_cases he:l.length=m.length
 ·have h1:((l.length:Int) !=(m.length:Int))=false:=by simp[he]
  simp only[h1,cond_false,DA];refine zb8 l m hl he (λi k hi TV=>?_) (λk=>by simp);have h2:decide ((i:Int)<(l.length:Int))=true:=by simp;exact hi
  simp only[h2,cond_true,bD hi,bD TV,WB,uW];cases mA l[i] m[i]<;>rfl
 ·have h1:((l.length:Int) !=(m.length:Int))=true:=by simp;omega
  have h2:l≠m:=by rintro rfl;exact he rfl
  simp[h1,SG.2 h2]
def zd1(a b:Int):(a !=b)= !mA a b:=by
 by_cases h:a=b
 ·subst h;simp[qM]
 ·simp[SG.2 h,h]
def zdE(a b:UInt8):((((a.toNat:Nat):Int)) !=((b.toNat:Nat):Int))= !mA a b:=by
 by_cases h:a=b
 ·subst h;simp[qM]
 ·have:a.toNat≠b.toNat:=λe=>h (UInt8.toNat_inj.1 e);have h2:((((a.toNat:Nat):Int)) !=((b.toNat:Nat):Int))=true:=by rw[bne_iff_ne];omega
  rw[h2,SG.2 h];rfl
def GB{α:Type}(p:α→Int){a b:α}{R:Option Bool}(h:p a=p b→R=some (mA a b)):cond (p a !=p b) (some false) R=some (mA a b):=by
 by_cases e:p a=p b
 ·rw[h e];simp[e]
 ·have:a≠b:=λx=>e (congrArg p x);rw[bne_iff_ne.2 e,SG.2 this];rfl
def fB{α β:Type}(p:α→β){a b:α}{R:Option Bool}(h:p a=p b→R=some (mA a b)):cond (!(mA (p a) (p b))) (some false) R=some (mA a b):=by
 by_cases e:p a=p b
 ·rw[h e,e];simp[qM]
 ·have:a≠b:=λx=>e (congrArg p x);simp[SG.2 e,SG.2 this]
def dP{α:Type}(p:α→Bool){a b:α}{R:Option Bool}(h:p a=p b→R=some (mA a b)):cond (!(p a==p b)) (some false) R=some (mA a b):=by
 by_cases e:p a=p b
 ·rw[h e,e];simp
 ·have:a≠b:=λx=>e (congrArg p x);rw[beq_eq_false_iff_ne.2 e,SG.2 this];rfl
def kD{α:Type}{a b:α}(h:a=b):some true=some (mA a b):=by rw[pK.2 h]
def RK(n:Nat)(p:Nat→Bool):Bool:=(List.range n).any p
def zb0{n:Nat}{p:Nat→Bool}:RK n p=true↔∃i,i<n∧p i=true:=by simp[RK]
def zcM{R:Type}(n:Nat)(hn:n≤maxLen)(p:Nat→Bool)(L1 z:Option R){f:Int→(Int→Option R)→Option R}
  (hf:∀(i:Nat) (k:Int→Option R),i<n→f (i:Int) k=bif p i then L1 else k (IntKind.wrap .i64 ((i:Int)+1))) (hz:∀k,f (n:Int) k=z):
  KA FU f (0:Int)=bif RK n p then L1 else z:=by
 have key:=jS n hn (f:=f) (g:=λi=>bif (List.range' i (n - i)).any p then L1 else z) (λi k hi hk=>by
   rw[hf i k hi,hk,show n - i=(n - (i+1))+1 by omega,List.range'_succ,List.any_cons];cases p i<;>rfl) (λk=>by rw[hz];simp) 0 (Nat.zero_le _)
 rw[List.range'_eq_map_range]at key;simpa[RK]using key
def lP{α:Type}{l:List α}{i:Nat}(h:i<l.length)(q:α→Bool):(l[i]?).any q=q l[i]:=by
 rw[List.getElem?_eq_getElem h];rfl
end
end Go.D
namespace Go.D
def zbd{α:Type}(b:Bool)(x y:α):cond b (some x) (some y)=some (cond b x y):=by cases b<;>rfl
def zb4{α:Type}(l:List α)(p:α→Bool):(RK l.length λi=>(l[i]?).any p)=l.any p:=by
 rw[Bool.eq_iff_iff,zb0,List.any_eq_true];constructor
 ·rintro⟨i,hi,h⟩;rw[lP hi]at h;exact⟨l[i],List.getElem_mem hi,h⟩
 ·rintro⟨x,hx,h⟩;obtain⟨i,hi,rfl⟩:=List.getElem_of_mem hx;exact⟨i,hi,by rw[lP hi];exact h⟩
def zbP{α R:Type}(l:List α)(hl:l.length≤maxLen)(p:α→Bool)(L1 z:Option R){f:Int→(Int→Option R)→Option R}
  (hf:∀(i:Nat) (k:Int→Option R) (h:i<l.length),f (i:Int) k=bif p l[i]then L1 else k (IntKind.wrap .i64 ((i:Int)+1))) (hz:∀k,f (l.length:Int) k=z):
  KA FU f (0:Int)=bif l.any p then L1 else z:=by
 rw[zcM l.length hl (λi=>(l[i]?).any p) L1 z (λi k hi=>by rw[hf i k hi,lP hi]) hz,zb4]
def iH:nA=68719476736:=rfl
def PQ:maxLen=9223372036854775807:=rfl
end Go.D

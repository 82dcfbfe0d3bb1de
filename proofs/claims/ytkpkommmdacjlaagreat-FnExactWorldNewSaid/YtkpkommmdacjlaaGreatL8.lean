/-
 Short names for what the plain semantics computes with numbers.
-/
import Derived.Test.YtkpkommmdacjlaaGreatL7
set_option linter.all false
namespace Go.D
def NC(k:Nat):List (Nat×RB)→Option RB
 | []=>none
 | (j,x) :: r=>bif Nat.beq j k then some x else NC k r
@[reducible] def mA(k:IntKind)(a b:Int):Int:=k.wrap (a+b)
@[reducible] def SA(k:IntKind)(a b:Int):Int:=k.wrap (a - b)
@[reducible] def mC(k:IntKind)(a b:Int):Int:=k.wrap (a *b)
def nB(k:IntKind)(a b:Int):Int:=k.wrap (BitVec.ofInt k.bits a&&&BitVec.ofInt k.bits b).toNat
def eU(k:IntKind)(a b:Int):Int:=k.wrap (BitVec.ofInt k.bits a|||BitVec.ofInt k.bits b).toNat
def oB(k:IntKind)(a b:Int):Int:=k.wrap (BitVec.ofInt k.bits a^^^BitVec.ofInt k.bits b).toNat
def VT(k:IntKind)(a b:Int):Int:=k.wrap (a *2^(min b.toNat k.bits))
def aE(k:IntKind)(a b:Int):Int:=a.fdiv (2^(min b.toNat k.bits))
def QL(k:IntKind)(a b:Int):Int:=k.wrap (a.tdiv b)
def OC(_:IntKind)(a b:Int):Int:=a.tmod b
def zcj(P:Program)(p:TypeId×TN):Bool:=match P.info? p.1 with
 | some i=>Nat.beq i.size (sz p.2)&&Nat.ble i.bytes 1024&&(match i.zero with
  | some z=>Nat.beq z.cells.size (sz p.2)
  | none=>false)
 | none=>false
def IL(P:Program)(l:List (TypeId×TN)):Bool:=l.all (zcj P)
def zS{α:Type}{k:Nat}{x:α}:∀{l:List (Nat×α)},KA k l=some x→(k,x)∈l
 | [],h=>by simp[KA]at h
 | (j,y) :: r,h=>by
  simp only[KA]at h;cases hb:Nat.beq j k
  ·simp only[hb,cond_false]at h;exact List.mem_cons_of_mem _ (zS h)
  ·simp only[hb,cond_true,Option.some.injEq]at h;have:=Nat.eq_of_beq_eq_true hb;subst this h;simp
class iJ(l:List (TypeId×TN)) extends aA where
 is:∀e t,KA e l=some t→tn e=some t
def XP{P:Program}{l:List (TypeId×TN)}[iJ l](hm:P.follows .mixedOrders=true)(h:IL P l=true)(Φ:Nat→Option RB)(n:Nat)(g:Gl):VC ⟨P,λt=>KA t l,Φ,n,g⟩:=by
 refine⟨hm,λe t he=>?_,λe t he=>iJ.is (l:=l) e t he⟩;have h1:=List.all_eq_true.1 h _ (zS he);simp only[zcj]at h1;split at h1
 case h_2=>cases h1
 rename_i i hi;simp only[Bool.and_eq_true]at h1;obtain⟨⟨h2,h3⟩,h4⟩:=h1;split at h4
 case h_2=>cases h4
 rename_i z hz;exact⟨i,z,hi,Nat.eq_of_beq_eq_true h2,Nat.le_of_ble_eq_true h3,hz,Nat.eq_of_beq_eq_true h4⟩
def WS[aA]{P:Program}{tn:TypeId→Option TN}{n:Nat}{g:Gl}:cD ⟨P,tn,λf=>NC f [],n,g⟩:=⟨λ_ _ h=>by cases h⟩
def zgL[aA]{P:Program}{tn:TypeId→Option TN}{n g:Nat}{ci:RB}{l:List (Nat×RB)}{gl:Gl}(h:nA P (g % 1048576) ci gl)(k:cD ⟨P,tn,λf=>NC f l,n,gl⟩):cD ⟨P,tn,λf=>NC f ((g,ci) :: l),n,gl⟩:=⟨λf c hf=>by
 simp only[NC]at hf;cases hb:Nat.beq g f
 ·simp only[hb,cond_false]at hf;exact k.ok f c hf
 ·simp only[hb,cond_true,Option.some.injEq]at hf;have:=Nat.eq_of_beq_eq_true hb;subst this hf;exact h⟩
def zeX{P:Program}{l:List (TypeId×TN)}{D:Nat}(h:(l.all λp=>decide (uF P (λt=>KA t l) D p.1=some (lk p.2))&&Nat.beq (P.cellsOf p.1) (sz p.2))=true):RH P (λt=>KA t l) D:=⟨λe t he=>by
 have h1:=List.all_eq_true.1 h _ (zS he);simp only[Bool.and_eq_true,decide_eq_true_eq]at h1;exact⟨h1.1,Nat.eq_of_beq_eq_true h1.2⟩⟩
def rA(ks:List IA)(ats rts:List Ty)(F:MA ats→Option (MA rts))(sh:List (Bool×Nat))(own:List Nat)(pb:Bool):RB:=
 ⟨ks,MA ats,MA rts,DB ats,F,tC rts,sh,own,pb⟩
def evC{P:Program}{tl:List (TypeId×TN)}[iJ tl]{f:Nat}{fn:Func}{ks:List IA}{ats rts:List Ty}{F:MA ats→Option (MA rts)}{sh:List (Bool×Nat)}{own:List Nat}(n:Nat){l:List (Nat×RB)}{g:Gl}
  (hm:P.follows .mixedOrders=true) (ht:IL P tl=true) (hΦ:cD ⟨P,λt=>KA t tl,λf=>NC f l,n,g⟩) (hf:P.funcs[f]?=some fn) (an:An) (Raw:MA ats→Option (MA rts))
  (h0 : (fn.body.isSome && !(fn.name == "runtime.NumGoroutine") && Nat.beq n fn.ntmps && QA ks ats && Nat.ble ks.length fn.ntmps) = true)
  (he:∀x,GN ⟨P,λt=>KA t tl,λf=>NC f l,n,g⟩ fn (fn.body.getD .skip) an ks own sh rts (CA ats x)=Raw x) (EV:∀x r,sA ats x→F x=some r→Raw x=some r):
  nA P f (rA ks ats rts F sh own false) g:=by
 simp only[Bool.and_eq_true,Bool.not_eq_true']at h0;obtain⟨⟨⟨⟨h1,h2⟩,h3⟩,h4⟩,h5⟩:=h0;obtain⟨b,hb⟩:=Option.isSome_iff_exists.1 h1;have fY:fn.body.getD .skip=b:=by rw[hb];rfl
 exact zgU (C:=⟨P,λt=>KA t tl,λf=>NC f l,n,g⟩) (XP hm ht _ _ _) hΦ hf hb h2 (Nat.eq_of_beq_eq_true h3) an ks own sh ats rts F h4 h5 λx r hx hr=>by
  have:=he x;rw[fY]at this;exact this.trans (EV x r hx hr)
end Go.D
namespace Go.D
def zba{σ R:Type}{f:σ→(σ→Option R)→Option R}{g:σ→Option R}{inv:σ→Prop}{μ:σ→Nat}
  (h:∀x,inv x→∀k:σ→Option R,(∀y,inv y→μ y<μ x→k y=g y)→f x k=g x):∀(n:Nat) (x:σ),inv x→μ x<n→yA n f x=g x
 | 0,x,_,hn=>by omega
 | n+1,x,hx,hn=>h x hx (yA n f) λy hy vV=>zba h n y hy (by omega)
def zE{σ R:Type}{f:σ→(σ→Option R)→Option R}{g:σ→Option R}(inv:σ→Prop)(μ:σ→Nat)
  (h:∀x,inv x→∀k:σ→Option R,(∀y,inv y→μ y<μ x→k y=g y)→f x k=g x) {x:σ} (hx:inv x) (hμ:μ x<2^64):yA FU f x=g x:=by
 rw[zcB];exact zba h _ x hx hμ
def sB{n:Int}(h1: -9223372036854775808≤n)(h2:n≤9223372036854775807):IntKind.wrap .i64 n=n:=by
 simp only[IntKind.wrap]
 first
  | (simp[IntKind.bits,IntKind.signed];omega)
  | (unfold IntKind.bits;simp;omega)
def fH(i:Nat)(h:i<maxLen):IntKind.wrap .i64 ((i:Int)+1)=((i+1:Nat):Int):=by
 unfold maxLen at h;rw[sB (by omega) (by omega)];omega
def NS{R:Type}(n:Nat)(hn:n≤maxLen){f:Int→(Int→Option R)→Option R}{g:Nat→Option R}
  (h:∀(i:Nat) (k:Int→Option R),i<n→k (IntKind.wrap .i64 ((i:Int)+1))=g (i+1)→f (i:Int) k=g i) (hz:∀k,f (n:Int) k=g n) (i:Nat) (hi:i≤n):yA FU f (i:Int)=g i:=by
 have:=zE (g:=λx:Int=>g x.toNat) (f:=f) (λx=>0≤x∧x≤n) (λx=>n - x.toNat) (λx hx k hk=>by
  obtain⟨j,rfl⟩:=Int.eq_ofNat_of_zero_le hx.1;have hj:j≤n:=by omega
  simp only[Int.toNat_natCast]
  rcases Nat.lt_or_eq_of_le hj with vV | rfl
  ·refine h j k vV ?_;rw[fH j (by omega)];have:=hk ((j+1:Nat):Int) (by omega) (by omega);rw[this];simp
  ·exact hz k) (x:=(i:Int)) ⟨by omega,by omega⟩ (by unfold maxLen at hn;simp only[Int.toNat_natCast];omega)
 rw[this];simp
def zbp{σ R:Type}(n:Nat)(hn:n≤maxLen){f:Int×σ→(Int×σ→Option R)→Option R}{g:Nat→σ→Option R}(inv:Nat→σ→Prop)
  (h:∀(i:Nat) (s:σ) (k:Int×σ→Option R),i<n→inv i s→(∀t,inv (i+1) t→k (IntKind.wrap .i64 ((i:Int)+1),t)=g (i+1) t)→f ((i:Int),s) k=g i s)
  (hz:∀s k,inv n s→f ((n:Int),s) k=g n s) (i:Nat) (s:σ) (hi:i≤n) (hs:inv i s):yA FU f ((i:Int),s)=g i s:=by
 have:=zE (g:=λx:Int×σ=>g x.1.toNat x.2) (f:=f) (λx=>0≤x.1∧x.1≤n∧inv x.1.toNat x.2) (λx=>n - x.1.toNat) (λx hx k hk=>by
  obtain⟨x,s⟩:=x;obtain⟨h0,h1,h2⟩:=hx;simp only at h0 h1 h2;obtain⟨j,rfl⟩:=Int.eq_ofNat_of_zero_le h0;have hj:j≤n:=by omega
  simp only[Int.toNat_natCast]at h2⊢
  rcases Nat.lt_or_eq_of_le hj with vV | rfl
  ·refine h j s k vV h2 λt ht=>?_;rw[fH j (by omega)];have:=hk (((j+1:Nat):Int),t) ⟨by show(0:Int)≤((j+1:Nat):Int);omega,by show((j+1:Nat):Int)≤n;omega,by simpa using ht⟩ (by simp only[Int.toNat_natCast];omega);rw[this];simp
  ·exact hz s k h2) (x:=((i:Int),s)) ⟨by show(0:Int)≤(i:Int);omega,by show(i:Int)≤n;omega,by simpa using hs⟩ (by unfold maxLen at hn;simp only[Int.toNat_natCast];omega)
 rw[this];simp
def zaS{α:Type}(l:List α)(i:Nat):vA l (i:Int)=l[i]?:=by simp[vA]
def rC{α:Type}{l:List α}{i:Nat}(h:i<l.length):vA l (i:Int)=some l[i]:=by rw[zaS,List.getElem?_eq_getElem h]
def lB{α β:Type}(a:α)(f:α→Option β):Option.bind (some a) f=f a:=rfl
def bN{t:TN}{x:El t}{k:IntKind}{n:Int}(h:TF t x)(j:Nat)(hj:j<sz t)(he:(enc t x).getD j .undef= .int k n):FB k n:=(he▸h j hj).fits
def AP{n:Int}(h:FB .i64 n): -9223372036854775808≤n∧n≤9223372036854775807:=by
 obtain⟨h1,h2⟩:=h;simp[IntKind.min,IntKind.max,IntKind.signed,IntKind.bits]at h1 h2;omega
end Go.D
namespace Go.D
noncomputable section
def qA{α:Type}(a b:α):Bool:=@decide (a=b) (Classical.propDecidable _)
def iL{α:Type}{a b:α}:qA a b=true↔a=b:=by simp[qA]
def DP{α:Type}(a:α):qA a a=true:=iL.2 rfl
def KI{α:Type}{a b:α}:qA a b=false↔a≠b:=by simp[qA]
def pt{α:Type}(p:Prop)(x:α):Option α:=@ite _ p (Classical.propDecidable p) (some x) none
def lH{α:Type}{p:Prop}{x:α}(h:p):pt p x=some x:=if_pos h
def DQ{α:Type}{p:Prop}{x r:α}(h:pt p x=some r):p∧x=r:=by
 unfold pt at h;split at h
 ·cases h;exact⟨‹p›,rfl⟩
 ·cases h
def YA{α:Type}{p:Prop}{x r:α}{o:Option α}(h:p→o=some x)(hp:pt p x=some r):o=some r:=by
 obtain⟨h1,rfl⟩:=DQ hp;exact h h1
def FA{α β:Type}{p:Prop}{x:α}{f:α→Option β}(h:p):Option.bind (pt p x) f=f x:=by rw[lH h];rfl
class Wt(α:Type) where
 of:α→Nat
def wt{α:Type}[Wt α](x:α):Nat:=Wt.of x
instance:Wt UInt8:=⟨λ_=>0⟩
instance:Wt Int:=⟨λ_=>0⟩
instance:Wt Bool:=⟨λ_=>0⟩
def wtl{α:Type}[Wt α]:List α→Nat
 | []=>0
 | x :: l=>wt x+wtl l+1
instance{α:Type}[Wt α]:Wt (List α):=⟨wtl⟩
def eG{α:Type}[Wt α]:wt ([]:List α)=0:=rfl
def HD{α:Type}[Wt α](x:α)(l:List α):wt (x :: l)=wt x+wt l+1:=rfl
def iP{α:Type}[Wt α]:∀(l m:List α),wt (l++m)=wt l+wt m
 | [],m=>by simp[eG]
 | x :: l,m=>by rw[List.cons_append,HD,HD,iP l m];omega
def fJ{α:Type}[Wt α]:∀l:List α,l.length≤wt l
 | []=>Nat.le_refl _
 | x :: l=>by rw[HD,List.length_cons];have:=fJ l;omega
def zcg{α:Type}[Wt α]{x:α}:∀{l:List α},x∈l→wt x+1≤wt l
 | [],h=>by cases h
 | y :: l,h=>by
  rw[HD]
  rcases List.mem_cons.1 h with rfl | h
  ·omega
  ·have:=zcg h;omega
def EQ{α:Type}[Wt α]{l:List α}{i:Nat}(h:i<l.length):wt l[i]+1≤wt l:=zcg (List.getElem_mem h)
def OS{α:Type}[Wt α](l:List α)(n:Nat):wt (l.take n)≤wt l:=by
 have:=iP (l.take n) (l.drop n);rw[List.take_append_drop]at this;omega
def US{α:Type}[Wt α](l:List α)(n:Nat):wt (l.drop n)≤wt l:=by
 have:=iP (l.take n) (l.drop n);rw[List.take_append_drop]at this;omega
def uS{α:Type}[Wt α](h:∀x:α,wt x=0):∀l:List α,wt l=l.length
 | []=>rfl
 | x :: l=>by rw[HD,List.length_cons,uS h l,h];omega
def LA(l:List UInt8):wt l=l.length:=uS (λ_=>rfl) l
def sN(l:List Int):wt l=l.length:=uS (λ_=>rfl) l
def zh4{n:Int}(h:TF .int n):n≤9223372036854775807:=(AP (bN h 0 (by decide) rfl)).2
def qE{α:Type}[Wt α](a:α):Option α:=pt (wt a≤eA) a
def AT{α:Type}(l r:List α)(x y:α){i:Nat}(h:l.length=i):List.set (l++x :: r) i y=l++y :: r:=by
 subst h;simp
def cH{α:Type}(l:List α){i:Nat}(h:i<l.length):l.take (i+1)=l.take i++[l[i]]:=by
 rw[List.take_succ_eq_append_getElem h]
def qP{α:Type}(l:List α){i:Nat}(h:i<l.length):l.drop i=l[i] :: l.drop (i+1):=List.drop_eq_getElem_cons h
def zge{α R:Type}(l:List α)(z:α)(hl:l.length≤maxLen)(aB:List α→Option R){f:Int×List α→(Int×List α→Option R)→Option R}
  (hf:∀(i:Nat) (o:List α) (k:Int×List α→Option R) (h:i<l.length) (_:i<o.length),f ((i:Int),o) k=k (IntKind.wrap .i64 ((i:Int)+1),List.set o i l[i]))
  (hz:∀o k,f ((l.length:Int),o) k=aB o):yA FU f ((0:Int),List.replicate l.length z)=aB l:=by
 have:=zbp (σ:=List α) l.length hl (f:=f) (g:=λ_ _=>aB l) (λi o=>o=l.take i++List.replicate (l.length - i) z) (λi o k hi ho hk=>by
   subst ho;have tV:(l.take i).length=i:=by rw[List.length_take];omega
   rw[hf i _ k hi (by simp;omega)];refine hk _ ?_;rw[show l.length - i=(l.length - (i+1))+1 by omega,List.replicate_succ,AT _ _ _ _ tV,cH l hi,List.append_assoc];rfl) (λo k ho=>by
   rw[hz];subst ho;simp) 0 (List.replicate l.length z) (Nat.zero_le _) (by simp)
 exact this
def zle{n:Nat}(h:n≤eA):(decide ((0:Int)≤(n:Int))&&decide ((n:Int)≤(eA:Int))&&((n:Int)==(n:Int)))=true:=by
 simp;exact h
def zfo{α:Type}(l:List α)(z:α)(hl:l.length≤maxLen)(hw:l.length≤eA)(u:α→α)(hu:∀x,u x=x):
  (cond (decide (0≤(l.length:Int))&&decide ((l.length:Int)≤(eA:Int))&&((l.length:Int)==(l.length:Int))) (
   fA (λ(y2:(List α))=>some y2) λk3=>
   yA FU (λ(x4:Int×(List α)) k5=>cond (decide (x4.1<(l.length:Int))) (Option.bind (vA l x4.1) λe6=>
    cond (decide (0≤x4.1)&&decide (x4.1<(x4.2.length:Int))) (Option.bind (x4.2[x4.1.toNat]?) λ_=>k5 ((mA .i64 x4.1 1),List.set x4.2 x4.1.toNat (u e6))) none) (k3 x4.2)) (0,List.replicate ((l.length:Int):Int).toNat z)) none)=some l:=by
 rw[zle hw];simp only[cond_true,fA,Int.toNat_natCast,hu];refine zge l _ hl (λo=>some o) (λi o k hi ho=>?_) (λo k=>by simp);have h2:decide ((i:Int)<(l.length:Int))=true:=by simp;exact hi
 have h3:(decide ((0:Int)≤(i:Int))&&decide ((i:Int)<(o.length:Int)))=true:=by simp;exact ho
 simp only[h2,cond_true,rC hi,lB,h3,Int.toNat_natCast,List.getElem?_eq_getElem ho]
def zf4(x:UInt8):UInt8.ofNat (((x.toNat:Nat):Int)).toNat=x:=by simp
def zgx{α:Type}(a b:α)(l m:List α):qA (a :: l) (b :: m)=(qA a b&&qA l m):=by
 rw[Bool.eq_iff_iff,Bool.and_eq_true,iL,iL,iL];exact List.cons_eq_cons
def zgs{α:Type}(l m:List α)(hl:l.length≤maxLen)(he:l.length=m.length){f:Int→(Int→Option Bool)→Option Bool}
  (hf:∀(i:Nat) (k:Int→Option Bool) (h:i<l.length) (h':i<m.length),f (i:Int) k=bif qA l[i] m[i]then k (IntKind.wrap .i64 ((i:Int)+1))else some false)
  (hz:∀k,f (l.length:Int) k=some true):yA FU f (0:Int)=some (qA l m):=by
 have:=NS l.length hl (f:=f) (g:=λi=>some (qA (l.drop i) (m.drop i))) (λi k hi hk=>by
   have BW:i<m.length:=by omega
   rw[hf i k hi BW,hk,qP l hi,qP m BW,zgx];cases qA l[i] m[i]<;>rfl) (λk=>by
   rw[hz,List.drop_eq_nil_of_le (Nat.le_refl _),List.drop_eq_nil_of_le (by omega)];simp[qA]) 0 (Nat.zero_le _)
 simpa using this
def DG{α:Type}(l m:List α)(hl:l.length≤maxLen)(ne:α→α→Bool)(iW:∀a b,ne a b= !qA a b):
  (cond ((l.length:Int) !=(m.length:Int)) (some false) (fA (fun (_:Unit)=>some true) fun k2=>
   yA FU (λ(x3:Int) k4=>cond (decide (x3<(l.length:Int))) (Option.bind (vA l x3) λe5=>Option.bind (vA m x3) λe6=>
    cond (ne e5 e6) (some false) (k4 (mA .i64 x3 1))) (k2 ())) 0))=some (qA l m):=by
 by_cases he:l.length=m.length
 ·have h1:((l.length:Int) !=(m.length:Int))=false:=by simp[he]
  simp only[h1,cond_false,fA];refine zgs l m hl he (λi k hi BW=>?_) (λk=>by simp);have h2:decide ((i:Int)<(l.length:Int))=true:=by simp;exact hi
  simp only[h2,cond_true,rC hi,rC BW,lB,iW];cases qA l[i] m[i]<;>rfl
 ·have h1:((l.length:Int) !=(m.length:Int))=true:=by simp;omega
  have h2:l≠m:=by rintro rfl;exact he rfl
  simp[h1,KI.2 h2]
def zcb(a b:Int):(a !=b)= !qA a b:=by
 by_cases h:a=b
 ·subst h;simp[DP]
 ·simp[KI.2 h,h]
def zib(a b:UInt8):((((a.toNat:Nat):Int)) !=((b.toNat:Nat):Int))= !qA a b:=by
 by_cases h:a=b
 ·subst h;simp[DP]
 ·have:a.toNat≠b.toNat:=λe=>h (UInt8.toNat_inj.1 e);have h2:((((a.toNat:Nat):Int)) !=((b.toNat:Nat):Int))=true:=by rw[bne_iff_ne];omega
  rw[h2,KI.2 h];rfl
def NB{α:Type}(p:α→Int){a b:α}{R:Option Bool}(h:p a=p b→R=some (qA a b)):cond (p a !=p b) (some false) R=some (qA a b):=by
 by_cases e:p a=p b
 ·rw[h e];simp[e]
 ·have:a≠b:=λx=>e (congrArg p x);rw[bne_iff_ne.2 e,KI.2 this];rfl
def gB{α β:Type}(p:α→β){a b:α}{R:Option Bool}(h:p a=p b→R=some (qA a b)):cond (!(qA (p a) (p b))) (some false) R=some (qA a b):=by
 by_cases e:p a=p b
 ·rw[h e,e];simp[DP]
 ·have:a≠b:=λx=>e (congrArg p x);simp[KI.2 e,KI.2 this]
def gT{α:Type}(p:α→Bool){a b:α}{R:Option Bool}(h:p a=p b→R=some (qA a b)):cond (!(p a==p b)) (some false) R=some (qA a b):=by
 by_cases e:p a=p b
 ·rw[h e,e];simp
 ·have:a≠b:=λx=>e (congrArg p x);rw[beq_eq_false_iff_ne.2 e,KI.2 this];rfl
def QD{α:Type}{a b:α}(h:a=b):some true=some (qA a b):=by rw[iL.2 h]
def jB(n:Nat)(p:Nat→Bool):Bool:=(List.range n).any p
def dL{n:Nat}{p:Nat→Bool}:jB n p=true↔∃i,i<n∧p i=true:=by simp[jB]
def VO{n:Nat}{p:Nat→Bool}:jB n p=false↔∀i,i<n→p i=false:=by simp[jB]
def jV{n:Nat}{p q:Nat→Bool}(h:∀i,i<n→p i=q i):jB n p=jB n q:=by
 rw[Bool.eq_iff_iff,dL,dL];constructor
 ·rintro⟨i,hi,hp⟩;exact⟨i,hi,by rw[←h i hi];exact hp⟩
 ·rintro⟨i,hi,hp⟩;exact⟨i,hi,by rw[h i hi];exact hp⟩
def EG{R:Type}(n:Nat)(hn:n≤maxLen)(p:Nat→Bool)(bY z:Option R){f:Int→(Int→Option R)→Option R}
  (hf:∀(i:Nat) (k:Int→Option R),i<n→f (i:Int) k=bif p i then bY else k (IntKind.wrap .i64 ((i:Int)+1))) (hz:∀k,f (n:Int) k=z):
  yA FU f (0:Int)=bif jB n p then bY else z:=by
 have key:=NS n hn (f:=f) (g:=λi=>bif (List.range' i (n - i)).any p then bY else z) (λi k hi hk=>by
   rw[hf i k hi,hk,show n - i=(n - (i+1))+1 by omega,List.range'_succ,List.any_cons];cases p i<;>rfl) (λk=>by rw[hz];simp) 0 (Nat.zero_le _)
 rw[List.range'_eq_map_range]at key;simpa[jB]using key
def zgd{R:Type}(n:Nat)(hn:n≤maxLen)(p:Nat→Bool)(bY:Nat→Option R)(z:Option R){f:Int→(Int→Option R)→Option R}
  (hf:∀(i:Nat) (k:Int→Option R),i<n→f (i:Int) k=bif p i then bY i else k (IntKind.wrap .i64 ((i:Int)+1))) (hz:∀k,f (n:Int) k=z):
  yA FU f (0:Int)=match(List.range n).find? p with
   | some i=>bY i
   | none=>z:=by
 have key:=NS n hn (f:=f) (g:=λi=>match(List.range' i (n - i)).find? p with
   | some i=>bY i
   | none=>z) (λi k hi hk=>by
   rw[hf i k hi,hk,show n - i=(n - (i+1))+1 by omega,List.range'_succ,List.find?_cons];cases p i<;>rfl) (λk=>by rw[hz];simp) 0 (Nat.zero_le _)
 rw[←List.range_eq_range']at key;exact key
def zfx{n:Nat}{p:Nat→Bool}(h:jB n p=false):(List.range n).find? p=none:=by
 rw[List.find?_eq_none];intro x hx;rw[VO.1 h x (List.mem_range.1 hx)];simp
def zfL{n:Nat}{p:Nat→Bool}{m:Nat}(hm:m<n)(hp:p m=true)(h:∀i,i<m→p i=false):(List.range n).find? p=some m:=by
 rw[List.find?_eq_some_iff_append];refine⟨hp,List.range m,(List.range' (m+1) (n - (m+1))),?_,λa ha=>by rw[h a (List.mem_range.1 ha)];rfl⟩;rw[List.range_eq_range',List.range_eq_range', ←List.range'_succ];have:=List.range'_append_1 (s:=0) (m:=m) (n:=n - (m+1)+1);rw[Nat.zero_add]at this;rw[this];congr 1;omega
def zfT{n:Nat}{p:Nat→Bool}(h:jB n p=true):∃m,m<n∧p m=true∧∀i,i<m→p i=false:=by
 obtain⟨i,hi,hp⟩:=dL.1 h;induction i using Nat.strongRecOn with
 | ind i ih=>
  by_cases hc:∃j,j<i∧p j=true
  ·obtain⟨j,hj,v6⟩:=hc;exact ih j hj (by omega) v6
  ·refine⟨i,hi,hp,λj hj=>?_⟩;cases hb:p j
   ·rfl
   ·exact absurd ⟨j,hj,hb⟩ hc
def BE{α:Type}{l:List α}{i:Nat}(h:i<l.length)(q:α→Bool):(l[i]?).any q=q l[i]:=by
 rw[List.getElem?_eq_getElem h];rfl
end
end Go.D
namespace Go.D
def HC{α:Type}(b:Bool)(x y:α):cond b (some x) (some y)=some (cond b x y):=by cases b<;>rfl
def zio{α:Type}[BEq α][LawfulBEq α](a b:α):qA a b=(a==b):=by
 rw[Bool.eq_iff_iff,iL,beq_iff_eq]
def zgo{α:Type}(l:List α)(p:α→Bool):(jB l.length λi=>(l[i]?).any p)=l.any p:=by
 rw[Bool.eq_iff_iff,dL,List.any_eq_true];constructor
 ·rintro⟨i,hi,h⟩;rw[BE hi]at h;exact⟨l[i],List.getElem_mem hi,h⟩
 ·rintro⟨x,hx,h⟩;obtain⟨i,hi,rfl⟩:=List.getElem_of_mem hx;exact⟨i,hi,by rw[BE hi];exact h⟩
def jS{α R:Type}(l:List α)(hl:l.length≤maxLen)(p:α→Bool)(bY z:Option R){f:Int→(Int→Option R)→Option R}
  (hf:∀(i:Nat) (k:Int→Option R) (h:i<l.length),f (i:Int) k=bif p l[i]then bY else k (IntKind.wrap .i64 ((i:Int)+1))) (hz:∀k,f (l.length:Int) k=z):
  yA FU f (0:Int)=bif l.any p then bY else z:=by
 rw[EG l.length hl (λi=>(l[i]?).any p) bY z (λi k hi=>by rw[hf i k hi,BE hi]) hz,zgo]
def zfB{R:Type}(a n:Nat)(hn:n≤maxLen)(p:Nat→Bool)(bY z:Option R){f:Int→(Int→Option R)→Option R}
  (hf:∀(i:Nat) (k:Int→Option R),i<n→f (i:Int) k=bif p i then bY else k (IntKind.wrap .i64 ((i:Int)+1))) (hz:∀(i:Nat) k,n≤i→f (i:Int) k=z):
  yA FU f (a:Int)=bif jB n (λi=>decide (a≤i)&&p i)then bY else z:=by
 have key:=zE (f:=f) (g:=λx:Int=>bif jB n (λi=>decide (x.toNat≤i)&&p i)then bY else z) (λx=>0≤x) (λx=>n - x.toNat) (λx hx k hk=>by
  obtain⟨j,rfl⟩:=Int.eq_ofNat_of_zero_le hx;simp only[Int.toNat_natCast]
  by_cases hj:j<n
  ·rw[hf j k hj,fH j (by omega)];cases hp:p j
   ·simp only[cond_false];rw[hk ((j+1:Nat):Int) (by omega) (by simp only[Int.toNat_natCast];omega)];simp only[Int.toNat_natCast];congr 1;refine jV λi hi=>?_
    by_cases he:i=j
    ·subst he;rw[hp];simp
    ·have:decide (j+1≤i)=decide (j≤i):=by
      rw[decide_eq_decide];omega
     rw[this]
   ·simp only[cond_true];rw[show jB n (λi=>decide (j≤i)&&p i)=true from dL.2 ⟨j,hj,by rw[hp];simp⟩];rfl
  ·rw[hz j k (by omega)]
   rw[show jB n (λi=>decide (j≤i)&&p i)=false from VO.2 λi hi=>by
    rw[show decide (j≤i)=false by simp;omega];rfl];rfl) (x:=(a:Int)) (by omega) (by unfold maxLen at hn;simp only[Int.toNat_natCast];omega)
 rw[key];simp only[Int.toNat_natCast]
def qL(n m:Nat):OC .i64 (n:Int) (m:Int)=((n % m:Nat):Int):=by
 rw[OC,Int.tmod_eq_emod_of_nonneg (by omega)];omega
def zha(n m:Nat)(h:n≤maxLen)(hm:0<m):QL .i64 (n:Int) (m:Int)=((n / m:Nat):Int):=by
 have:=Nat.div_le_self n m;rw[QL,Int.tdiv_eq_ediv_of_nonneg (by omega), ←Int.natCast_ediv];generalize n / m=q at this;rw[sB (by omega) (by unfold maxLen at h;omega)]
def HB:eA=68719476736:=rfl
def IC:maxLen=9223372036854775807:=rfl
def AF(n:Nat)(p:Nat→Bool):Int:=match(List.range n).find? p with
 | some i=>(i:Int)
 | none=> -1
def zaf(n:Nat)(hn:n≤maxLen)(p:Nat→Bool){f:Int→(Int→Option Int)→Option Int}
  (hf:∀(i:Nat) (k:Int→Option Int),i<n→f (i:Int) k=bif p i then some (i:Int)else k (IntKind.wrap .i64 ((i:Int)+1))) (hz:∀k,f (n:Int) k=some (-1)):
  yA FU f (0:Int)=some (AF n p):=by
 rw[zgd n hn p (λi=>some (i:Int)) (some (-1)) hf hz,AF];cases(List.range n).find? p<;>rfl
def zeT{n:Nat}{p:Nat→Bool}(h:jB n p=false):AF n p= -1:=by rw[AF,zfx h]
def ze1{n:Nat}{p:Nat→Bool}{m:Nat}(hm:m<n)(hp:p m=true)(h:∀i,i<m→p i=false):AF n p=m:=by rw[AF,zfL hm hp h]
def zev(n:Nat)(p:Nat→Bool):(jB n p=false∧AF n p= -1)∨∃m,m<n∧p m=true∧(∀i,i<m→p i=false)∧AF n p=(m:Int):=by
 cases h:jB n p
 ·exact .inl ⟨rfl,zeT h⟩
 ·obtain⟨m,h1,h2,h3⟩:=zfT h;exact .inr ⟨m,h1,h2,h3,ze1 h1 h2 h3⟩
def rS{n:Nat}{p:Nat→Bool}{i:Nat}(hi:i<n)(hp:p i=true):decide (AF n p<(i:Int))=jB i p∧(AF n p !=(i:Int))=jB i p:=by
 rcases zev n p with⟨h1,_⟩ | ⟨m,h1,h2,h3,h4⟩
 ·rw[VO.1 h1 i hi]at hp;cases hp
 ·rw[h4]
  by_cases hm:m<i
  ·rw[show jB i p=true from dL.2 ⟨m,hm,h2⟩];exact⟨decide_eq_true (by omega),bne_iff_ne.2 (by omega)⟩
  ·have:m=i:=by
    rcases Nat.lt_or_ge i m with h | h
    ·rw[h3 i h]at hp;cases hp
    ·omega
   subst this;rw[show jB m p=false from VO.2 h3];exact⟨decide_eq_false (by omega),by simp⟩
def zf0{α σ R:Type}(l:List α)(hl:l.length≤maxLen)(g:σ→α→σ)(aB:σ→Option R){f:σ×Int→(σ×Int→Option R)→Option R}
  (hf:∀(i:Nat) (s:σ) (k:σ×Int→Option R) (h:i<l.length),f (s,(i:Int)) k=k (g s l[i],IntKind.wrap .i64 ((i:Int)+1))) (hz:∀s k,f (s,(l.length:Int)) k=aB s) (s0:σ):
  yA FU f (s0,(0:Int))=aB (l.foldl g s0):=by
 have key:=zE (f:=f) (g:=λx:σ×Int=>aB ((l.drop x.2.toNat).foldl g x.1)) (λx=>0≤x.2∧x.2≤l.length) (λx=>l.length - x.2.toNat) (λx hx k hk=>by
  obtain⟨s,i⟩:=x;obtain⟨h0,h1⟩:=hx;simp only at h0 h1;obtain⟨j,rfl⟩:=Int.eq_ofNat_of_zero_le h0;simp only[Int.toNat_natCast]
  by_cases hj:j<l.length
  ·rw[hf j s k hj,fH j (by omega)];rw[hk (g s l[j],((j+1:Nat):Int)) ⟨by show(0:Int)≤((j+1:Nat):Int);omega,by show((j+1:Nat):Int)≤l.length;omega⟩ (by simp only[Int.toNat_natCast];omega)];simp only[Int.toNat_natCast];rw[qP l hj,List.foldl_cons]
  ·have:j=l.length:=by omega
   subst this;rw[hz];simp) (x:=(s0,(0:Int))) ⟨Int.le_refl _,by show(0:Int)≤l.length;omega⟩ (by show l.length - Int.toNat 0<2^64;unfold maxLen at hl;simp;omega)
 rw[key];simp
def SH{α:Type}[Wt α]{l:List α}(h:wt l≤eA):l.length≤maxLen:=by
 have:=fJ l;have:=HB;have:=IC;omega
end Go.D

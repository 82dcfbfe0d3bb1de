/-
 Sizes of the program's data.
-/
import Derived.Test.YthmhafeaiaigoaaGreatN12
import Derived.Test.YthmhafeaiaigoaaGreatN11
import Derived.Test.YthmhafeaiaigoaaGreatA1
set_option linter.all false
namespace Go.D
end Go.D
namespace Go.D
end Go.D
namespace Go.D
open Option renaming bind→ob
noncomputable section
def Kd(a0:Af)(a1:Ab):=
 ob (Ar a0 3) λr1=>
 cond (decide ((a1.Clients.length:Int)<2))
 (some ((⟨4,0,0,0,[],[]⟩:Am),r1.2))
 (ob (Kk r1.2 a1 r1.1 true) λr2=>
 ob (Bb r2.2.1 5) λr3=>
 aA (λ(y4:Af×Am)=>
 ob (Ar y4.1 24) λr7=>
 aA (λ(y8:Af×Am)=>
 some (y8.2,y8.1)) λk9=>
 cond (r7.1==0)
 (ob (As r7.2 [(-1),0,18]) λr10=>
 k9 (r10.2,(⟨r10.1,y4.2.I,y4.2.J,y4.2.N,y4.2.B,y4.2.Ops⟩:Am)))
 (aA (λ(y11:Af×Am)=>
 k9 (y11.1,y11.2)) λk12=>
 cond (r7.1==1)
 (ob (As r7.2 [(-1),10000,10001]) λr13=>
 k12 (r13.2,(⟨y4.2.Kind,r13.1,y4.2.J,y4.2.N,y4.2.B,y4.2.Ops⟩:Am)))
 (aA (λ(y14:Af×Am)=>
 k12 (y14.1,y14.2)) λk15=>
 cond (r7.1==2)
 (ob (As r7.2 [(-1),10000,10001]) λr16=>
 k15 (r16.2,(⟨y4.2.Kind,y4.2.I,r16.1,y4.2.N,y4.2.B,y4.2.Ops⟩:Am)))
 (aA (λ(y17:Af×Am)=>
 k15 (y17.1,y17.2)) λk18=>
 cond (r7.1==3)
 (ob (As r7.2 [(-1),10000,10001]) λr19=>
 k18 (r19.2,(⟨y4.2.Kind,y4.2.I,y4.2.J,r19.1,y4.2.B,y4.2.Ops⟩:Am)))
 (aA (λ(y20:Af×Am)=>
 k18 (y20.1,y20.2)) λk21=>
 cond (r7.1==4)
 (ob (As r7.2 [40,41,200,201]) λr22=>
 ob (Ay r22.2 r22.1) λr23=>
 k21 (r23.2,(⟨y4.2.Kind,y4.2.I,y4.2.J,y4.2.N,r23.1,y4.2.Ops⟩:Am)))
 (k21 (r7.2,y4.2))))))) λk5=>
 cond (r3.1)
 (ob (Ar r3.2 17) λr6=>
 k5 (r6.2,(⟨iA .i64 1 r6.1,r2.1.I,r2.1.J,r2.1.N,r2.1.B,r2.1.Ops⟩:Am)))
 (k5 (r3.2,r2.1)))
def Ke(a0:List UInt8):=
 ob (Ki a0) λr1=>
 ob (Jh a0 24) λr2=>
 ob (Kc r1 r2) λr3=>
 ob (Kd r3.2 r3.1) λr4=>
 some (r3.1,r4.1)
def Kf(a0:Ab)(a1:Am):=
 ob (oA a0) λr1=>
 aA (λy2=>
 cond (y2)
 (some (r1,false))
 (ob (Fv r1 a1) λr5=>
 cond (!r5.1)
 (ob (oA a0) λr6=>
 some (r6,false))
 (some (r5.2,true)))) λk3=>
 ob (dG a0) λr4=>
 cond (!r4)
 (k3 true)
 (cond (!(eF a1))
 (k3 true)
 (k3 (decide ((a0.Notes.length:Int)>500))))
def Pl(a0:List UInt8):=
 cond ((BT a0))
 (some true)
 (ob (Ke a0) λr1=>
 ob (Gn r1.1 r1.2) λr2=>
 ob (Kf r1.1 r1.2) λr3=>
 cond (!(r2.2==r3.2))
 (some false)
 (cond (!r2.2)
 (ob (jB r2.1 r1.1) λr4=>
 some r4)
 (aA (λ(y5:Bool)=>
 some y5) λk6=>
 ob (dG r1.1) λr7=>
 cond (r7)
 (ob (dG r2.1) λr8=>
 cond (r8)
 (let x9:Bool:=decide ((r2.1.Notes.length:Int)≥(r1.1.Notes.length:Int))
 cond (x9)
 (cond (decide (0≤(0:Int))&&decide ((0:Int)≤(r1.1.Notes.length:Int))&&decide ((r1.1.Notes.length:Int)≤(r2.1.Notes.length:Int))) (ob (jB (List.take (((r1.1.Notes.length:Int) - 0).toNat) (List.drop 0 r2.1.Notes)) r1.1.Notes) λr10=>
 cond (r10)
 (cond (decide ((r2.1.Seen.length:Int)≥(r1.1.Seen.length:Int)))
 (cond (decide (0≤(0:Int))&&decide ((0:Int)≤(r1.1.Seen.length:Int))&&decide ((r1.1.Seen.length:Int)≤(r2.1.Seen.length:Int))) (ob (jB (List.take (((r1.1.Seen.length:Int) - 0).toNat) (List.drop 0 r2.1.Seen)) r1.1.Seen) λr11=>
 k6 r11) none)
 (k6 false))
 (k6 false)) none)
 (k6 false))
 (k6 false))
 (k6 false))))
end
end Go.D
namespace Go.D
end Go.D
namespace Go.D
def zpD{a0 a1}(ha:mA a0)(hb:wt a1≤900000000):Ok (Kd a0 a1) λr=>wt r.1≤4000:=by
 unfold Kd
 refine .b (RA ?_) λr1 OV=> .c (λh1=> .s ?_)
  λh1=> .b (zix ?_ ?_ ?_) λr2 fW=> .b (KE ?_) λr3 tW=> .j (λy4:Af×Am=>mA y4.1∧wt y4.2≤3000) (λy4 BY=> .b (RA ?_) λr7 IW=> .j (λy8:Af×Am=>wt y8.2≤4000) (λy8 O5=> .s ?_)
  λk9 bX=> .c (λh2=> .b (YA (-1) (18) ?_ (by simp) (by decide)) λr10 pW=>bX _ ?_)
  λh2=> .j (λy11:Af×Am=>mA y11.1∧wt y11.2≤4000) (λy11 GY=>bX _ ?_)
  λk12 ZV=> .c (λh3=> .b (YA (-1) (10001) ?_ (by simp) (by decide)) λr13 eX=>ZV _ ?_)
  λh3=> .j (λy14:Af×Am=>mA y14.1∧wt y14.2≤4000) (λy14 Z0=>ZV _ ?_)
  λk15 QW=> .c (λh4=> .b (YA (-1) (10001) ?_ (by simp) (by decide)) λr16 jX=>QW _ ?_)
  λh4=> .j (λy17:Af×Am=>mA y17.1∧wt y17.2≤4000) (λy17 eZ=>QW _ ?_)
  λk18 FW=> .c (λh5=> .b (YA (-1) (10001) ?_ (by simp) (by decide)) λr19 FX=>FW _ ?_)
  λh5=> .j (λy20:Af×Am=>mA y20.1∧wt y20.2≤4000) (λy20 rY=>FW _ ?_)
  λk21 aW=> .c (λh6=> .b (YA (40) (201) ?_ (by simp) (by decide)) λr22 fX=> .b (KB ?_ ?_) λr23 IY=>aW _ ?_)
  λh6=>aW _ ?_)
  λk5 gW=> .c (λh7=> .b (RA ?_) λr6 vW=>gW _ ?_)
  λh7=>gW _ ?_
 all_goals (try simp only[NB]at *)<;>(try simp(disch:=omega) only[DA,JA]at *)<;>omega
def zow{a0}(ha:a0.length≤1048576):Ok (Ke a0) λr=>wt r.1≤800000000∧wt r.2≤4000:=by
 unfold Ke;refine .b (zry ?_) λr1 OV=> .b (zqO ?_ ?_) λr2 fW=> .b (zqF ?_ ?_) λr3 tW=> .b (zpD ?_ ?_) λr4 VV=> .s ?_
 all_goals (try simp only[NB]at *)<;>omega
end Go.D
namespace Go.D
def zsJ{a0:Ab}{a1:Am}{r:Ab×Bool}(hn:wt a0≤4000000000)(hw:wt a1≤300000)(hr:Gn a0 a1=some r):Ok (Kf a0 a1) λq=>q=r:=by
 have hL:=GB;obtain⟨v,hv,D⟩:=ziH hn hw;cases hr.symm.trans hv
 have rn:(tB a0=true→a0.Notes.length≤500→eF a1=true→False)→(a0,false)=r:=λh=>by
  cases e:r.2
  ·rw[←D.no e, ←e]
  ·obtain⟨h1,h2,h3,_⟩:=D.yes e;exact(h h1 h2 h3).elim
 unfold Kf;refine .cp (by omega) (.j (λy=>(y=true→(a0,false)=r)∧(y=false→tB a0=true∧eF a1=true∧decide ((a0.Notes.length:Int)>500)=false)) (λy hy=> .c (λh=> .s (hy.1 h)) λh=>?_) λk hk=> .m (pA (by omega)) (.c (λh=>hk _ ⟨λ_=>rn λh1=>(by rw[h1]at h;cases h),nofun⟩) λh=> .c (λh2=>hk _ ⟨λ_=>rn λ_ _ h3=>(by rw[h3]at h2;cases h2),nofun⟩) λh2=>hk _ ⟨λh3=>rn λ_ h4 _=>(by have:=of_decide_eq_true h3;omega),λh3=>⟨nf h,nf h2,h3⟩⟩));obtain⟨h1,h2,h3⟩:=hy.2 h;have F:=jO h1;have h4:=of_decide_eq_false h3;have h5:wt a0≤300000000:=by have:=zaz h1;have:=BE (HC.1 h1).notes;omega
 have hf:=nO h2;refine .b (zjk (by omega) (by have:=F.1;have:=F.2.1;omega) F.2.2.2.2.2.1 (by omega) hw).we λq ⟨_,hq⟩=>?_;have e:=zxu h1 (by omega) hw h2 h3 r (cond q.1 q.2 a0,q.1) hr (by rw[hq];rfl);cases hq1:q.1
 ·exact .kt (.cp (by omega) (.s (by rw[e,hq1];rfl)))
 ·exact .kf (.s (by rw[e,hq1];rfl))
def zk1{α:Type}{l m:List α}:List.take ((l.length:Int) - 0).toNat (List.drop 0 (l++m))=l:=by
 rw[List.drop_zero,Int.sub_zero,Int.toNat_natCast,List.take_left]
def zlS{α:Type}[Wt α]{a:α}(h:wt a≤bA):jB a a=some true:=pA ⟨rfl,h⟩
def aQ.ok{x}(_:xA [.sl .byte] x):Pl x=some (zmD (α:=List UInt8) x):=by
 have hL:=GB
 have:Ok (Pl x) λr=>r=true:=by
  unfold Pl;refine .c (λ_=> .s rfl) λhb=> .b (zow (by have:=of_decide_eq_false hb;omega)) λd ⟨w1,w2⟩=> .b (ziH (by omega) (by omega)).we λr ⟨D,hr⟩=> .b (zsJ (by omega) (by omega) hr) λq hq=>?_;subst hq;have hs:=D.sz;rw[beq_self_eq_true];cases h:q.2
  ·exact .kf (.kt (.m (pA ⟨D.no h,by omega⟩) (.s rfl)))
  ·obtain⟨h1,_,_,h2,⟨m,h3⟩,n,h4⟩:=D.yes h;have hN:wt d.1.Notes≤wt d.1:=by simp only[JF];omega
   have hS:wt d.1.Seen≤wt d.1:=by simp only[JF];omega
   refine .kf (.kf (.j0 (.m (pA (by omega)) ?_)));rw[h1];refine .kt (.m (pA (by omega)) ?_);rw[h2,h3,h4,zk1,zk1,List.length_append,List.length_append,decide_eq_true (by omega)];refine .kt (.kt (.h (by simp) (.m (zlS (by omega)) (.kt ?_))));rw[decide_eq_true (by omega)];exact .kt (.h (by simp) (.m (zlS (by omega)) (.s rfl)))
 obtain⟨r,h,rfl⟩:=this;exact h
end Go.D

/-
 Sizes of the program's data.
-/
import Derived.Test.YtmhnaidnoljllaaGreatN12
import Derived.Test.YtmhnaidnoljllaaGreatN11
import Derived.Test.YtmhnaidnoljllaaGreatA1
set_option linter.all false
namespace Go.D
end Go.D
namespace Go.D
end Go.D
namespace Go.D
end Go.D
namespace Go.D
end Go.D
namespace Go.D
end Go.D
namespace Go.D
end Go.D
namespace Go.D
def CH(l:List Ae):Prop:=∀c∈l,vB c.At LD=false
def zfK{l:List Ae}{i:Nat}{c d:Ae}(h:CH l)(hc:l[i]?=some c)(e:d.At=c.At):CH (l.set i d):=λx hx=>by
 rcases List.mem_or_eq_of_mem_set hx with h1 | h1
 ·exact h x h1
 ·rw[h1,e];exact h c (List.mem_of_getElem? hc)
def KP(a b:Aa):Prop:=b.Now≤a.Now+1∧(CH a.Clients→CH b.Clients)
def EH{a b:Aa}(h1:b.Now=a.Now)(h2:b.Clients=a.Clients):KP a b:=⟨by omega,λh=>by rw[h2];exact h⟩
def zi0{w:Aa}{l:List Ak}:Pc (Bb w l) λr=>r.Now=w.Now∧r.Clients=w.Clients:=by
 unfold Bb;simp only[lA];refine .p λ_=> .j ?_;refine .l (λx:Int×Aa=>x.2.Now=w.Now∧x.2.Clients=w.Clients) ⟨rfl,rfl⟩ (λx k hx hk=>?_) _;exact .c (λ_=> .b λ_ _=> .b λ_ _=>hk _ hx) λ_=> .s hx
def DU{a0:Aa}{a1:Int}{a2:Af}{a3:List UInt8}(ha:ZA a0=true)(hb:wt a3≤900000000):Pc (Bf a0 a1 a2 a3) λr=>KP a0 r.1∧(¬(eA a1 0 2=true∧GA a2=true)→r=(a0,[])):=by
 unfold Bf;simp only[lA,eE,aA];refine .p λ_=> .p λ_=>?_;rw[ha];cases h1:eA a1 0 2
 ·exact .s ⟨EH rfl rfl,λ_=>rfl⟩
 cases h2:GA a2
 ·exact .s ⟨EH rfl rfl,λ_=>rfl⟩
 simp only[Bool.not_true,cond_false];have hx:∀{p:Prop},¬(True∧True)→p:=λh=>(h ⟨trivial,trivial⟩).elim;refine .c (λ_=> .b λ_ _=> .g λ_=> .b λ_ _=> .s ⟨EH rfl rfl,hx⟩) λ_=> .b λf hf=> .c (λ_=> .s ⟨EH rfl rfl,hx⟩) λh5=> .b λc hc=> .b λv hv=> .g λ_=> .b λ_ _=> .g λ_=> .b λ_ _=> .s ⟨⟨Int.le_add_one (Int.le_refl _),λh=>?_⟩,hx⟩;obtain⟨q,hq,_,hfo⟩:=@zdI a3 hb;cases hq.symm.trans hf;have hm:=HI hc;obtain⟨q,hq,_,he,_⟩:=@zgM c a0.Now f.1 (AH ha hm) (hfo (nf h5)) (SB.1 ha).now;cases hq.symm.trans hv;have HY:a0.Clients[(qA .i64 a1 1).toNat]?=some c:=by unfold nA at hc;split at hc;exact hc;cases hc
 exact zfK h HY he.2.2
def zty{a0:Aa}(ha:ZA a0=true):Pc (Bm a0) λr=>KP a0 r.1:=by
 unfold Bm;simp only[lA,eE,aA];refine .p λ_=> .p λ_=>?_;rw[ha];cases h1:a0.Now==1000000
 ·have hN:=uB.1 (SB.1 ha).now;refine .l (λx:(List Ak)×Int×Aa=>x.2.2.Now=a0.Now+1∧(CH a0.Clients→CH x.2.2.Clients)∧∀c∈x.2.2.Clients,dB c=true) ⟨DA (by omega) (by omega),id,λc hc=>AH ha hc⟩ (λx k hx hk=> .c (λ_=> .g λ_=> .b λc hc=> .b λv hv=> .g λ_=> .b λ_ _=> .g λ_=> .b λ_ _=> .g λ_=>hk _ ?_) λ_=> .b λ_ _=> .g λ_=> .s ⟨by show x.2.2.Now≤_;omega,hx.2.1⟩) _;obtain⟨q,hq,g1,g2,_⟩:=@zgL c x.2.2.Now (hx.2.2 c (List.mem_of_getElem? hc));cases hq.symm.trans hv;refine⟨hx.1,λh=>zfK (hx.2.1 h) hc g2.2.2,λd hd=>?_⟩
  rcases List.mem_or_eq_of_mem_set hd with h | h
  ·exact hx.2.2 d h
  ·rw[h];exact g1
 ·exact .s (EH rfl rfl)
def zut{c:Ae}{a:Af}:Pc (Bp c a) λr=>r.At=c.At∨r.At=a:=by
 unfold Bp;simp only[lA,KC,aA];refine .p λ_=> .p λ_=>?_;cases dB c
 ·exact .s (.inl rfl)
 cases GA a
 ·exact .s (.inl rfl)
 ·exact .s (.inr rfl)
def ze0{n:Int}(h:1≤n∧n≤30):vB (aC n) LD=false:=by
 unfold vB LD aC;rw[if_pos (by omega),if_pos (by omega)];simp only[Bool.and_eq_false_iff,beq_eq_false_iff_ne];left;omega
def DF{a w:Aa}{l:List Ak}{b:Bool}(h:KP a w):Pc (Option.bind (Bb w l) λr=>some (r,b)) λr=>KP a r.1:=
 .b λv hv=> .s (by obtain⟨h1,h2⟩:=zi0 v hv;exact⟨by show v.Now≤_;rw[h1];exact h.1,λk=>by show CH v.Clients;rw[h2];exact h.2 k⟩)
def zle{a0:Aa}{a1:Aj}(ha:ZA a0=true)(hn:wt a0≤400000000)(hw:wt a1≤300000)(he:PF a1=true)(hl:decide ((a0.Notes.length:Int)>500)=false):Pc (Ev a0 a1) λr=>KP a0 r.1:=by
 have hp:∀{α:Type} (v:α),pt (wt a0≤bA) v=some v:=λ_=>oA (by have:=mB;omega);have hf:=fM he;have F:=UJ ha;simp only[TO]at F;have k0:KP a0 a0:=EH rfl rfl
 have hS:∀x∈a0.Seen,wt x.B≤900000000:=λx hx=>by
  obtain⟨i,hi,rfl⟩:=List.getElem_of_mem hx;have:=zf2 (List.getElem?_eq_getElem hi);simp only[N]at this⊢;omega
 have hx:∀{c:Ae} {i:Nat} {d:Ae} {w:Aa},a0.Clients[i]?=some c→d.At=c.At→w.Now=a0.Now→w.Clients=a0.Clients.set i d→KP a0 w:=λh1 h2 h3 h4=>⟨by omega,λh=>by rw[h4];exact zfK h h1 h2⟩;have hk:a1.Kind=1∨a1.Kind=2∨a1.Kind=3∨a1.Kind=4∨a1.Kind=5∨a1.Kind=6∨a1.Kind=7∨a1.Kind=8∨a1.Kind=9∨a1.Kind=10∨a1.Kind=11∨a1.Kind=12∨a1.Kind=13∨a1.Kind=14∨a1.Kind=15∨a1.Kind=16∨a1.Kind=17:=by omega
 unfold Ev Ib Ip Ir Io;simp only[lA,eE,yA,FD,CD,dI]
 rcases hk with h | h | h | h | h | h | h | h | h | h | h | h | h | h | h | h | h
 all_goals simp only[h,hp,ha,he,hl,aA,Bool.not_true,Bool.not_false,cond_true,cond_false,Int.reduceBEq,beq_self_eq_true,ba,bs,bc,bn]
 ·refine .g λ_=> .b λc hc=> .p λ_=> .p λ_=> .g λ_=> .b λv hv=> .g λ_=> .b λ_ _=> .g λ_=> .b λ_ _=> .c (λ_=> .s k0) λ_=>DF (hx hc ?_ rfl rfl);obtain⟨q,hq,_,p2,_⟩:=@zed c a0.Now (QC a0.D).2 (AH ha (List.mem_of_getElem? hc)) (by have:=(PI a0.D).2.1;omega);cases hq.symm.trans hv;exact p2.2.2
 ·refine .g λ_=> .b λc hc=> .b λv hv=> .g λ_=> .b λ_ _=> .g λ_=> .b λ_ _=> .c (λ_=> .s k0) λ_=>DF (hx hc ?_ rfl rfl);obtain⟨q,hq,_,p2,_⟩:=@zdw c a0.Now a1.B (AH ha (List.mem_of_getElem? hc)) (by omega);cases hq.symm.trans hv;exact p2.2.2
 ·exact .b λ_ _=> .g λ_=> .b λ_ _=> .c (λ_=> .s k0) λ_=>DF (EH rfl rfl)
 ·exact .b λv hv=> .c (λ_=> .s k0) λ_=>DF (zty ha v hv)
 ·refine .g λ_=> .b λc hc=> .b λv hv=> .g λ_=> .b λ_ _=> .g λ_=> .b λ_ _=>DF ?_
  rcases zut v hv with h1 | h1
  ·exact hx hc h1 rfl rfl
  ·refine⟨Int.le_add_one (Int.le_refl _),λh2 x hx=>?_⟩
   rcases List.mem_or_eq_of_mem_set hx with h3 | h3
   ·exact h2 x h3
   ·have hi:=yH (a:=a1.N) (n:=30) (by omega) (by omega);rw[h3,h1,DA (by omega) (by omega)];exact ze0 (by omega)
 ·refine .g λ_=> .b λc hc=> .b λv hv=> .g λ_=> .b λ_ _=> .g λ_=> .b λ_ _=> .c (λ_=> .s k0) λ_=>DF (hx hc ?_ rfl rfl);obtain⟨q,hq,_,p2,_⟩:=@zdv c a0.Now (AH ha (List.mem_of_getElem? hc));cases hq.symm.trans hv;exact p2.2.2
 ·exact .c (λ_=> .s k0) λ_=> .c (λ_=> .n) λ_=> .b λx hx=> .p λ_=> .c (λ_=> .s k0) λ_=> .b λv hv=>DF (DU ha (hS x (HI hx)) v hv).1
 ·exact .c (λ_=> .s k0) λ_=> .c (λ_=> .n) λ_=> .b λx hx=> .p λ_=> .c (λ_=> .s k0) λ_=> .b λv hv=>DF (DU ha (hS x (HI hx)) v hv).1
 ·exact .c (λ_=> .s k0) λ_=> .c (λ_=> .n) λ_=> .b λx hx=> .p λ_=> .c (λ_=> .s k0) λ_=> .b λv hv=>DF (DU ha (hS x (HI hx)) v hv).1
 ·exact .c (λ_=> .s k0) λ_=> .c (λ_=> .n) λ_=> .b λx hx=> .p λ_=> .c (λ_=> .s k0) λ_=> .c (λ_=> .n) λ_=> .g λ_=> .b λ_ _=> .g λ_=> .b λ_ _=> .c (λ_=> .s k0) λ_=> .b λv hv=>DF (DU ha (by have:=hS x (HI hx);simp only[N,List.length_set]at this⊢;exact this) v hv).1
 ·refine .b λu hu=> .b λv hv=> .c (λ_=> .s k0) λ_=>DF (DU ha ?_ v hv).1;obtain⟨q,hq,p⟩:=@zd6 a1.Ops a0.Seen a0.Known (by simp only[N]at hw⊢;omega) (by omega) (by omega);cases hq.symm.trans hu;simp only[N];omega
 ·exact .b λ_ _=> .g λ_=> .b λ_ _=> .c (λ_=> .s k0) λ_=>DF (EH rfl rfl)
 ·refine .g λ_=> .b λc hc=> .c (λ_=> .b λv hv=> .g λ_=> .b λ_ _=> .g λ_=> .b λ_ _=> .s k0) λ_=> .b λv hv=> .g λ_=> .b λ_ _=> .g λ_=> .b λ_ _=>DF (hx hc ?_ rfl rfl);obtain⟨q,hq,_,p2,_⟩:=@zea c (AH ha (List.mem_of_getElem? hc));cases hq.symm.trans hv;exact p2.2.2
 ·exact .b λ_ _=> .g λ_=> .b λ_ _=> .c (λ_=> .s k0) λ_=>DF (EH rfl rfl)
 ·exact .g λ_=> .b λ_ _=> .c (λ_=> .s k0) λ_=> .b λ_ _=> .g λ_=> .p λ_=> .g λ_=> .c (λ_=> .s k0) λ_=>DF (EH rfl rfl)
 ·exact .c (λ_=> .s k0) λ_=> .g λ_=> .b λ_ _=> .c (λ_=> .s k0) λ_=> .g λ_=> .b λ_ _=> .b λ_ _=> .g λ_=> .p λ_=> .g λ_=> .c (λ_=> .s k0) λ_=>DF (EH rfl rfl)
 ·exact .c (λ_=> .b λ_ _=>DF (EH rfl rfl)) λ_=> .b λ_ _=>DF (EH rfl rfl)
end Go.D
namespace Go.D
structure WR(w:Aa):Prop where
 ok:ZA w=true
 ch:CH w.Clients
 sz:wt w≤300000
def zuP{s a b:List UInt8}{m:Int}(hs:s.length=8)(ha:a.length=6)(hb:b.length=9)(hm:1≤m∧m≤3):WR (XJ s a b m)∧(XJ s a b m).Now=0:=by
 have hd:YB ⟨s,0⟩=true:=by
  simp only[YB,Bool.and_eq_true,uB];omega
 have hr:=PI ⟨s,0⟩;have ht:=zkg (n:=m) (by omega)
 have hS:BB (yC [a,b] s m)=true:=IE.2 ⟨by show 1≤2∧2≤9;omega,zj4 (hr.2.2.2 hd (by show(0:Int)≠10000;omega)),hr.2.2.1 hd,ht,rfl,λx hx=>by
  rcases List.mem_cons.1 hx with h | h
  ·rw[h,vC,uB];omega
  ·rw[List.mem_singleton.1 h,vC,uB];omega,λe he=>by
   have he:e∈(dF m).L:=he;rw[zhT (by omega)]at he;cases he⟩
 obtain⟨h1,h2,h3,_⟩:=zqn hS;have e:XJ s a b m=KU s a b m:=by rw[XJ,hS];rfl
 have hw:=zp9 s a b m;simp only[FA]at hw;refine⟨⟨by rw[e];exact h1,?_,by omega⟩,by rw[e];rfl⟩;rw[e];intro c hc;have hc:c∈[yB 1 a (aC 1),yB 2 b (aC 2)]:=hc;rw[h2,h3]at hc
 rcases List.mem_cons.1 hc with h | h
 ·rw[h];exact ze0 (n:=1) (by omega)
 ·rw[List.mem_singleton.1 h];exact ze0 (n:=2) (by omega)
def zhy{a0:Ar}(ha:nB a0):Ok (Gk a0) λr=>nB r.2∧WR r.1∧r.1.Now=0:=by
 have hL:=mB;unfold Gk;refine .b (vK ha (by omega)) λr1 QV=> .b (vK QV.2 (by omega)) λr2 DW=> .b (vK DW.2 (by omega)) λr3 pW=> .b (HD pW.2) λr4 SV=> .m (oA (by simp only[FA];omega)) (.s ⟨SV.2.2.2,?_⟩);have:=SV.2.1 (by omega);exact zuP QV.1 DW.1 pW.1 (by rw[DA (by omega) (by omega)];omega)
def zne{a0:Ar}{a1:Int}{a2:Bool}(ha:nB a0)(hb:a1≤40):Ok (Hx a0 a1 a2) λr=>nB r.2.2.2∧WR r.2.2.1∧r.2.2.1.Now≤60:=by
 have hL:=mB;unfold Hx;refine .b (zhy ha) λr1 ⟨g1,g2,g3⟩=> .cp (by have:=g2.sz;omega) (.b (HD g1) λr3 pW=>?_)
 have hr:0≤r3.1∧r3.1≤40:=by
  refine⟨pW.1,?_⟩
  by_cases h:0<a1
  ·have:=pW.2.1 h;omega
  ·have:=pW.2.2.1 (by omega);omega
 have e4:gA .i64 4 r3.1=4+r3.1:=DA (by omega) (by omega);refine .j (λy4=>nB y4.2.1∧WR y4.2.2.2∧y4.2.2.2.Now≤60) (λy4 mZ=> .s mZ) λk5 sW=> .l (λx6:(List Aj)×Int×Ar×Int×Aa=>(0≤x6.2.1∧x6.2.1≤60)∧nB x6.2.2.1∧wt x6.1+3001 *x6.2.1≤200000∧WR x6.2.2.2.2∧x6.2.2.2.2.Now+x6.2.1≤60) (λx6=>x6.2.1.toNat) (λx6 ⟨Z0,nY,WX,JX,V4⟩ k7 wW=> .c (λh1=>?_) λh1=>sW _ ⟨nY,JX,by show x6.2.2.2.2.Now≤60;omega⟩) ⟨by simp only[e4];omega,pW.2.2.2,by simp only[e4,zF];omega,g2,by simp only[e4,g3];omega⟩ (by simp only[e4];omega);have h1:=of_decide_eq_true h1;have hz:=JX.sz;have F:=UJ JX.ok;have es:qA .i64 x6.2.1 1=x6.2.1 - 1:=SA (by omega) (by omega);refine .b (zhi nY (by omega) (by rw[(SB.1 JX.ok).cl];omega)) λr8 QW=> .g (by simp only[VC,zF];omega) (.cp (by omega) (.j (λy10=>y10.1=true→WR y10.2∧y10.2.Now≤x6.2.2.2.2.Now+1) (λy10 SX=> .j (λy13=>WR y13.1∧y13.1.Now≤x6.2.2.2.2.Now+1) (λy13 eY=>wW _ ?_ ?_) λk14 eW=> .c (λh2=>eW _ (SX h2)) λh2=>eW _ ⟨JX,Int.le_add_one (Int.le_refl _)⟩) λk11 fW=> .c (λh3=> .c (λh4=>?_) λh4=>fW _ nofun) λh3=>fW _ nofun))
 ·refine⟨by simp only[es];omega,QW.2,?_,eY.1,?_⟩
  ·show wt (x6.1++[r8.1])+3001 *qA .i64 x6.2.1 1≤200000
   rw[es,MN,VC,zF];omega
  ·show y13.1.Now+qA .i64 x6.2.1 1≤60
   rw[es];have:=eY.2;omega
 ·simp only[es];omega
 ·have h3:=of_decide_eq_true h3;have hf:=fM h4;refine .b (zpo (by omega) (by have:=F.1;have:=F.2.1;omega) F.2.2.2.2.2.1 (by omega) (by omega)).we λq ⟨_,hq⟩=>fW _ λh5=>?_;have hl:decide ((x6.2.2.2.2.Notes.length:Int)>500)=false:=decide_eq_false (by omega);obtain⟨v,hv,D⟩:=zg9 (a0:=x6.2.2.2.2) (a1:=r8.1) (by omega) (by omega);have e:=zlh JX.ok (by omega) (by omega) h4 hl v (cond q.1 q.2 x6.2.2.2.2,q.1) hv (by rw[hq];rfl);have h5:q.1=true:=h5;rw[h5]at e;have e1:v.1=q.2:=by rw[e];rfl
  have e2:v.2=true:=by rw[e]
  have hk:KP x6.2.2.2.2 v.1:=zle JX.ok (by omega) (by omega) h4 hl v hv;have hN:=kE (SB.1 JX.ok).notes;have hW:=yO JX.ok;have NV:=D.sz;rw[e1]at NV hk;exact⟨⟨by rw[←e1];exact(D.yes e2).2.2.2.1,hk.2 JX.ch,by show wt q.2≤_;omega⟩,hk.1⟩
def znn{a0:List UInt8}(ha:a0.length≤1048576):Ok (Hy a0) λr=>WR r∧r.Now≤60:=by
 unfold Hy Jb;simp only[ba,bs];refine .b (zhE ha) λr1 QV=> .b (zol ha (by omega)) λr2 DW=> .b (dN QV) λr3 pW=> .b (zne pW (by rw[DA (by omega) (by omega)];omega)) λr4 SV=> .s SV.2
end Go.D
namespace Go.D
end Go.D

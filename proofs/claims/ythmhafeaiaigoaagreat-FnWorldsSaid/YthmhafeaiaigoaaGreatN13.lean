/-
 Sizes of the program's data.
-/
import Derived.Test.YthmhafeaiaigoaaGreatN12
import Derived.Test.YthmhafeaiaigoaaGreatN11
import Derived.Test.YthmhafeaiaigoaaGreatA1
set_option linter.all false
namespace Go.D
end Go.D
namespace Go.D
end Go.D
namespace Go.D
open Option renaming bind→ob
noncomputable section
def Jz(a0:Af)(a1:List UInt8):=
 cond (decide (([]:List UInt8).length+a1.length≤bA)) (ob (Ar a0 8) λr1=>
 aA (λ(y2:(List UInt8)×Af)=>
 some (y2.1,y2.2)) λk3=>
 cond (r1.1==0)
 (aA (λ(y4:Af×(List UInt8))=>
 k3 (y4.2,y4.1)) λk5=>
 cond (decide ((([]++a1).length:Int)>0))
 (ob (Ar r1.2 (([]++a1).length:Int)) λr6=>
 cond (decide (0≤r6.1)&&decide (r6.1<(([]++a1).length:Int))) (ob (([]++a1)[r6.1.toNat]?) λe7=>
 ob (Ar r6.2 255) λr8=>
 let x9:Int:=xB .u8 ((e7.toNat:Nat):Int) (IntKind.wrap .u8 (iA .i64 1 r8.1))
 cond (decide (0≤r6.1)&&decide (r6.1<(([]++a1).length:Int))) (ob (([]++a1)[r6.1.toNat]?) λe10=>
 let l11:List UInt8:=List.set ([]++a1) r6.1.toNat (UInt8.ofNat (x9:Int).toNat)
 k5 (r8.2,l11)) none) none)
 (k5 (r1.2,([]++a1))))
 (aA (λ(y12:(List UInt8)×Af)=>
 k3 (y12.1,y12.2)) λk13=>
 cond (r1.1==1)
 (aA (λ(y14:(List UInt8)×Af)=>
 k13 (y14.1,y14.2)) λk15=>
 cond (decide ((([]++a1).length:Int)>0))
 (ob (Ar r1.2 (([]++a1).length:Int)) λr16=>
 cond (decide (0≤(0:Int))&&decide ((0:Int)≤r16.1)&&decide (r16.1≤(([]++a1).length:Int))) (k15 ((List.take ((r16.1 - 0).toNat) ([]++a1)),r16.2)) none)
 (k15 (([]++a1),r1.2)))
 (aA (λ(y17:(List UInt8)×Af)=>
 k13 (y17.1,y17.2)) λk18=>
 cond (r1.1==2)
 (ob (Cd r1.2) λr19=>
 cond (decide (([]++a1).length+[UInt8.ofNat (IntKind.wrap .u8 r19.1:Int).toNat].length≤bA)) (let x20:List UInt8:=([]++a1)++[UInt8.ofNat (IntKind.wrap .u8 r19.1:Int).toNat]
 k18 (x20,r19.2)) none)
 (k18 (([]++a1),r1.2))))) none
def Ka(a0:List UInt8):=
 ob (Gi a0) λr1=>
 ob (Ke a0 20) λr2=>
 ob (Jw r1 r2) λr3=>
 ob (As r3.2 [0,1,2,0,1,2,3,(-1)]) λr4=>
 aA (λ(y5:Bool×Af)=>
 cond (y5.1)
 (ob (Cl y5.2) λr8=>
 ob (Ar r8.2 60) λr9=>
 ob (Ay r9.2 r9.1) λr10=>
 some (r3.1,r4.1,r8.1,r10.1))
 (ob (Ar y5.2 (r3.1.Seen.length:Int)) λr11=>
 let x12:Int:=qA .i64 (qA .i64 (r3.1.Seen.length:Int) 1) r11.1
 cond (decide (0≤x12)&&decide (x12<(r3.1.Seen.length:Int))) (ob (r3.1.Seen[x12.toNat]?) λe13=>
 aA (λ(y14:Bool×Af)=>
 aA (λ(y18:Int)=>
 ob (Jz y14.2 e13.B) λr21=>
 some (r3.1,y18,e13.From,r21.1)) λk19=>
 cond (y14.1)
 (ob (KH r3.1 e13.To) λr20=>
 k19 r20)
 (k19 r4.1)) λk15=>
 ob (Bb r11.2 2) λr16=>
 cond (r16.1)
 (ob (KH r3.1 e13.To) λr17=>
 k15 ((decide (r17≥0)),r16.2))
 (k15 (false,r16.2))) none)) λk6=>
 cond ((r3.1.Seen.length:Int)==0)
 (k6 (true,r4.2))
 (ob (Bb r4.2 4) λr7=>
 k6 (r7.1,r7.2))
def Pl(a0:List UInt8):=
 cond ((DT a0))
 (some true)
 (ob (Jb a0) λr1=>
 ob (Ka a0) λr2=>
 ob (Bn r2.1 r2.2.1 r2.2.2.1 r2.2.2.2) λr3=>
 ob (Cc r1) λr4=>
 aA (λy5=>
 cond (y5)
 (some false)
 (aA (λ(y11:Unit)=>
 aA (λy23=>
 cond (y23)
 (aA (λ(y26:Bool)=>
 some y26) λk27=>
 ob (kB r3.1 r2.1) λr28=>
 cond (r28)
 (k27 ((r3.2.length:Int)==0))
 (k27 false))
 (aA (λ(y29:Unit)=>
 aA (λ(y44:Bool)=>
 some y44) λk45=>
 ob (AE r3.1) λr46=>
 cond (r46)
 (let x47:Bool:=decide ((r3.1.Notes.length:Int)≥(r2.1.Notes.length:Int))
 cond (x47)
 (cond (decide (0≤(0:Int))&&decide ((0:Int)≤(r2.1.Notes.length:Int))&&decide ((r2.1.Notes.length:Int)≤(r3.1.Notes.length:Int))) (ob (kB (List.take (((r2.1.Notes.length:Int) - 0).toNat) (List.drop 0 r3.1.Notes)) r2.1.Notes) λr48=>
 k45 r48) none)
 (k45 false))
 (k45 false)) λk30=>
 sA FU (λ(x31:Int) k32=>
 cond (decide (x31<(r3.2.length:Int)))
 (aA (λy33=>
 cond (y33)
 (some false)
 (k32 (iA .i64 x31 1))) λk34=>
 cond (r2.2.1==0)
 (cond (decide (0≤x31)&&decide (x31<(r3.2.length:Int))) (ob (r3.2[x31.toNat]?) λe35=>
 let r36:Ah:=MD;let x37:Bool:=!(cond (e35.From.Host==r36.Host) (cond (e35.From.Port==r36.Port) (true) false) false)
 cond (x37)
 (k34 true)
 (cond (decide (r2.2.1>0))
 (cond (decide (0≤x31)&&decide (x31<(r3.2.length:Int))) (ob (r3.2[x31.toNat]?) λe38=>
 ob (kA r2.1.Clients (qA .i64 r2.2.1 1)) λe39=>
 let x40:Bool:=!(cond (e38.From.Host==e39.At.Host) (cond (e38.From.Port==e39.At.Port) (true) false) false)
 k34 x40) none)
 (k34 false))) none)
 (cond (decide (r2.2.1>0))
 (cond (decide (0≤x31)&&decide (x31<(r3.2.length:Int))) (ob (r3.2[x31.toNat]?) λe41=>
 ob (kA r2.1.Clients (qA .i64 r2.2.1 1)) λe42=>
 let x43:Bool:=!(cond (e41.From.Host==e42.At.Host) (cond (e41.From.Port==e42.At.Port) (true) false) false)
 k34 x43) none)
 (k34 false)))
 (k30 ())) 0)) λk24=>
 ob (AE r2.1) λr25=>
 cond (!r25)
 (k24 true)
 (cond (decide (r2.2.1<0))
 (k24 true)
 (cond (decide (r2.2.1>2))
 (k24 true)
 (k24 (!(GA r2.2.2.1)))))) λk12=>
 sA FU (λ(x13:Int) k14=>
 cond (decide (x13<(r4.2.length:Int)))
 (aA (λy15=>
 cond (y15)
 (some false)
 (k14 (iA .i64 x13 1))) λk16=>
 cond (decide (0≤x13)&&decide (x13<(r4.2.length:Int))) (ob (r4.2[x13.toNat]?) λe17=>
 ob (KH r4.1 e17.From) λr18=>
 cond (decide (r18<1))
 (k16 true)
 (cond (decide (0≤x13)&&decide (x13<(r4.2.length:Int))) (ob (r4.2[x13.toNat]?) λe19=>
 let r20:Ah:=MD;let x21:Bool:=!(cond (e19.To.Host==r20.Host) (cond (e19.To.Port==r20.Port) (true) false) false)
 cond (x21)
 (k16 true)
 (cond (decide (0≤x13)&&decide (x13<(r4.2.length:Int))) (ob (r4.2[x13.toNat]?) λe22=>
 k16 (!(CE e22))) none)) none)) none)
 (k12 ())) 0)) λk6=>
 ob (AE r1) λr7=>
 cond (!r7)
 (k6 true)
 (ob (AE r4.1) λr8=>
 cond (!r8)
 (k6 true)
 (cond (r4.1.Now !=(iA .i64 r1.Now 1))
 (k6 true)
 (ob (AE r2.1) λr9=>
 ob (AE r2.1) λr10=>
 k6 (!(r9==r10))))))
end
end Go.D
namespace Go.D
end Go.D
namespace Go.D
def zqV{a0 a1}(ha:lA a0)(hb:a1.length≤800000000):Ok (Jz a0 a1) λr=>r.1.length≤800000100∧lA r.2:=by
 unfold Jz
 refine .g ?_ (.b (NA ?_) λr1 PV=> .j (λy2:(List UInt8)×Af=>y2.1.length≤800000100∧lA y2.2) (λy2 wW=> .s ?_)
  λk3 LV=> .c (λh1=> .j (λy4:Af×(List UInt8)=>lA y4.1∧y4.2.length≤800000100) (λy4 rY=>LV _ ?_)
  λk5 iW=> .c (λh2=> .b (NA ?_) λr6 xW=> .h ?_ (.bg ?_ λe7 RZ sY=> .b (NA ?_) λr8 zW=> .h ?_ (.bg ?_ λe10 cY oX=>iW _ (have:=BC ([]++a1) r6.1.toNat (UInt8.ofNat ((xB .u8 ((e7.toNat:Nat):Int) (IntKind.wrap .u8 (iA .i64 1 r8.1)):Int):Int).toNat);?_))))
  λh2=>iW _ ?_)
  λh1=> .j (λy12:(List UInt8)×Af=>y12.1.length≤800000100∧lA y12.2) (λy12 ZX=>LV _ ?_)
  λk13 aW=> .c (λh3=> .j (λy14:(List UInt8)×Af=>y14.1.length≤800000100∧lA y14.2) (λy14 z0=>aW _ ?_)
  λk15 HW=> .c (λh4=> .b (NA ?_) λr16 fX=> .h ?_ (HW _ ?_))
  λh4=>HW _ ?_)
  λh3=> .j (λy17:(List UInt8)×Af=>y17.1.length≤800000100∧lA y17.2) (λy17 iZ=>aW _ ?_)
  λk18 IW=> .c (λh5=> .b (zi3 ?_) λr19 HX=> .g ?_ (IW _ ?_))
  λh5=>IW _ ?_)
 all_goals (try simp only[NB]at *)<;>(try simp(disch:=omega) only[AA,IA]at *)<;>omega
def zpS{a0}(ha:a0.length≤1048576):Ok (Ka a0) λr=>wt r.1≤800000000∧wt r.2.2.2≤800000100:=by
 unfold Ka
 refine .b (zjb ?_) λr1 PV=> .b (ziM ?_ ?_) λr2 dW=> .b (zqZ ?_ ?_) λr3 pW=>have L2:=tB r3.1.Seen; .b (aB (-1) (3) ?_ (by simp) (by decide)) λr4 WV=> .j (λy5:Bool×Af=>lA y5.2∧(y5.1=true∨0<r3.1.Seen.length)) (λy5 W2=> .c (λh1=> .b (gM ?_) λr8 zW=> .b (NA ?_) λr9 UW=> .b (HB ?_ ?_) λr10 sW=> .s ?_)
  λh1=>have O0:=W2.2.resolve_left (by rw[h1];decide); .b (NA ?_) λr11 AW=> .h ?_ (.bg ?_ λe13 G5 Q1=> .j (λy14:Bool×Af=>lA y14.2) (λy14 z0=> .jt (λy18=> .b (zqV ?_ ?_) λr21 zZ=> .s ?_)
  λk19 CW=> .c (λh2=> .m (pA ?_) (CW _))
  λ_=>CW _)
  λk15 HW=> .b (sE ?_) λr16 fX=> .c (λh3=> .m (pA ?_) (HW _ ?_))
  λh3=>HW _ ?_))
  λk6 JW=> .c (λh4=>JW _ ?_)
  λh4=> .b (sE ?_) λr7 MW=>JW _ ?_
 all_goals (try simp only[NB,eq_self,true_or]at *)<;>(try simp(disch:=omega) only[AA,IA]at *)<;>omega
end Go.D
namespace Go.D
def zuq{α:Type}{l m:List α}:List.take ((l.length:Int) - 0).toNat (List.drop 0 (l++m))=l:=by
 rw[List.drop_zero,Int.sub_zero,Int.toNat_natCast,List.take_left]
def zl6{α:Type}[Wt α]{a:α}(h:wt a≤bA):kB a a=some true:=pA ⟨rfl,h⟩
end Go.D
namespace Go.D
def CH(l:List Ad):Prop:=∀c∈l,wB c.At MD=false
def zgX{l:List Ad}{i:Nat}{c d:Ad}(h:CH l)(hc:l[i]?=some c)(e:d.At=c.At):CH (l.set i d):=λx hx=>by
 rcases List.mem_or_eq_of_mem_set hx with h1 | h1
 ·exact h x h1
 ·rw[h1,e];exact h c (List.mem_of_getElem? hc)
def KP(a b:Aa):Prop:=b.Now≤a.Now+1∧(CH a.Clients→CH b.Clients)
def QH{a b:Aa}(h1:b.Now=a.Now)(h2:b.Clients=a.Clients):KP a b:=⟨by omega,λh=>by rw[h2];exact h⟩
def ztE{w:Aa}{l:List Am}:Pc (Bo w l) λr=>r.Now=w.Now∧r.Clients=w.Clients:=by
 unfold Bo;simp only[nA];refine .p λ_=> .j ?_;refine .l (λx:Int×Aa=>x.2.Now=w.Now∧x.2.Clients=w.Clients) ⟨rfl,rfl⟩ (λx k hx hk=>?_) _;exact .c (λ_=> .b λ_ _=> .b λ_ _=>hk _ hx) λ_=> .s hx
def WS{a0:Aa}{a1:Int}{a2:Ah}{a3:List UInt8}(ha:iB a0=true)(hb:wt a3≤900000000):Pc (Bn a0 a1 a2 a3) λr=>KP a0 r.1∧(¬(eA a1 0 2=true∧GA a2=true)→r=(a0,[])):=by
 unfold Bn;simp only[nA,AE,aA];refine .p λ_=> .p λ_=>?_;rw[ha];cases h1:eA a1 0 2
 ·exact .s ⟨QH rfl rfl,λ_=>rfl⟩
 cases h2:GA a2
 ·exact .s ⟨QH rfl rfl,λ_=>rfl⟩
 simp only[Bool.not_true,cond_false];have hx:∀{p:Prop},¬(True∧True)→p:=λh=>(h ⟨trivial,trivial⟩).elim;refine .c (λ_=> .b λ_ _=> .g λ_=> .b λ_ _=> .s ⟨QH rfl rfl,hx⟩) λ_=> .b λf hf=> .c (λ_=> .s ⟨QH rfl rfl,hx⟩) λh5=> .b λc hc=> .b λv hv=> .g λ_=> .b λ_ _=> .g λ_=> .b λ_ _=> .s ⟨⟨Int.le_add_one (Int.le_refl _),λh=>?_⟩,hx⟩;obtain⟨q,hq,_,hfo⟩:=@zeT a3 hb;cases hq.symm.trans hf;have hm:=iK hc;obtain⟨q,hq,_,he,_⟩:=@zh7 c a0.Now f.1 (sI ha hm) (hfo (nf h5)) (qC.1 ha).now;cases hq.symm.trans hv;have mZ:a0.Clients[(qA .i64 a1 1).toNat]?=some c:=by unfold kA at hc;split at hc;exact hc;cases hc
 exact zgX h mZ he.2.2
def zlK{a0:Aa}(ha:iB a0=true):Pc (Cc a0) λr=>KP a0 r.1:=by
 unfold Cc;simp only[nA,AE,aA];refine .p λ_=> .p λ_=>?_;rw[ha];cases h1:a0.Now==1000000
 ·have hN:=OB.1 (qC.1 ha).now;refine .l (λx:(List Am)×Int×Aa=>x.2.2.Now=a0.Now+1∧(CH a0.Clients→CH x.2.2.Clients)∧∀c∈x.2.2.Clients,pB c=true) ⟨AA (by omega) (by omega),id,λc hc=>sI ha hc⟩ (λx k hx hk=> .c (λ_=> .g λ_=> .b λc hc=> .b λv hv=> .g λ_=> .b λ_ _=> .g λ_=> .b λ_ _=> .g λ_=>hk _ ?_) λ_=> .b λ_ _=> .g λ_=> .s ⟨by show x.2.2.Now≤_;omega,hx.2.1⟩) _;obtain⟨q,hq,g1,g2,_⟩:=@zh6 c x.2.2.Now (hx.2.2 c (List.mem_of_getElem? hc));cases hq.symm.trans hv;refine⟨hx.1,λh=>zgX (hx.2.1 h) hc g2.2.2,λd hd=>?_⟩
  rcases List.mem_or_eq_of_mem_set hd with h | h
  ·exact hx.2.2 d h
  ·rw[h];exact g1
 ·exact .s (QH rfl rfl)
def zwz{c:Ad}{a:Ah}:Pc (Ci c a) λr=>r.At=c.At∨r.At=a:=by
 unfold Ci;simp only[nA,GD,aA];refine .p λ_=> .p λ_=>?_;cases pB c
 ·exact .s (.inl rfl)
 cases GA a
 ·exact .s (.inl rfl)
 ·exact .s (.inr rfl)
def zgd{n:Int}(h:1≤n∧n≤30):wB (vB n) MD=false:=by
 unfold wB MD vB;rw[if_pos (by omega),if_pos (by omega)];simp only[Bool.and_eq_false_iff,beq_eq_false_iff_ne];left;omega
def OF{a w:Aa}{l:List Am}{b:Bool}(h:KP a w):Pc (Option.bind (Bo w l) λr=>some (r,b)) λr=>KP a r.1:=
 .b λv hv=> .s (by obtain⟨h1,h2⟩:=ztE v hv;exact⟨by show v.Now≤_;rw[h1];exact h.1,λk=>by show CH v.Clients;rw[h2];exact h.2 k⟩)
def zxs{a0:Aa}{a1:Ao}(ha:iB a0=true)(hn:wt a0≤400000000)(hw:wt a1≤300000)(he:sG a1=true)(hl:decide ((a0.Notes.length:Int)>500)=false):Pc (Iq a0 a1) λr=>KP a0 r.1:=by
 have hp:∀{α:Type} (v:α),pt (wt a0≤bA) v=some v:=λ_=>pA (by have:=CB;omega);have hf:=zM he;have F:=BM ha;simp only[ZO]at F;have k0:KP a0 a0:=QH rfl rfl
 have hS:∀x∈a0.Seen,wt x.B≤900000000:=λx hx=>by
  obtain⟨i,hi,rfl⟩:=List.getElem_of_mem hx;have:=zhe (List.getElem?_eq_getElem hi);simp only[N]at this⊢;omega
 have hx:∀{c:Ad} {i:Nat} {d:Ad} {w:Aa},a0.Clients[i]?=some c→d.At=c.At→w.Now=a0.Now→w.Clients=a0.Clients.set i d→KP a0 w:=λh1 h2 h3 h4=>⟨by omega,λh=>by rw[h4];exact zgX h h1 h2⟩;have hk:a1.Kind=1∨a1.Kind=2∨a1.Kind=3∨a1.Kind=4∨a1.Kind=5∨a1.Kind=6∨a1.Kind=7∨a1.Kind=8∨a1.Kind=9∨a1.Kind=10∨a1.Kind=11∨a1.Kind=12∨a1.Kind=13∨a1.Kind=14∨a1.Kind=15∨a1.Kind=16∨a1.Kind=17:=by omega
 unfold Iq Ks Le Lf Lb;simp only[nA,AE,BA,ZD,TD,KH]
 rcases hk with h | h | h | h | h | h | h | h | h | h | h | h | h | h | h | h | h
 all_goals simp only[h,hp,ha,he,hl,aA,Bool.not_true,Bool.not_false,cond_true,cond_false,Int.reduceBEq,beq_self_eq_true,ba,bs,bc,bn]
 ·refine .g λ_=> .b λc hc=> .p λ_=> .p λ_=> .g λ_=> .b λv hv=> .g λ_=> .b λ_ _=> .g λ_=> .b λ_ _=> .c (λ_=> .s k0) λ_=>OF (hx hc ?_ rfl rfl);obtain⟨q,hq,_,p2,_⟩:=@zfs c a0.Now (MC a0.D).2 (sI ha (List.mem_of_getElem? hc)) (by have:=(mJ a0.D).2.1;omega);cases hq.symm.trans hv;exact p2.2.2
 ·refine .g λ_=> .b λc hc=> .b λv hv=> .g λ_=> .b λ_ _=> .g λ_=> .b λ_ _=> .c (λ_=> .s k0) λ_=>OF (hx hc ?_ rfl rfl);obtain⟨q,hq,_,p2,_⟩:=@zeG c a0.Now a1.B (sI ha (List.mem_of_getElem? hc)) (by omega);cases hq.symm.trans hv;exact p2.2.2
 ·exact .b λ_ _=> .g λ_=> .b λ_ _=> .c (λ_=> .s k0) λ_=>OF (QH rfl rfl)
 ·exact .b λv hv=> .c (λ_=> .s k0) λ_=>OF (zlK ha v hv)
 ·refine .g λ_=> .b λc hc=> .b λv hv=> .g λ_=> .b λ_ _=> .g λ_=> .b λ_ _=>OF ?_
  rcases zwz v hv with h1 | h1
  ·exact hx hc h1 rfl rfl
  ·refine⟨Int.le_add_one (Int.le_refl _),λh2 x hx=>?_⟩
   rcases List.mem_or_eq_of_mem_set hx with h3 | h3
   ·exact h2 x h3
   ·have hi:=MH (a:=a1.N) (n:=30) (by omega) (by omega);rw[h3,h1,AA (by omega) (by omega)];exact zgd (by omega)
 ·refine .g λ_=> .b λc hc=> .b λv hv=> .g λ_=> .b λ_ _=> .g λ_=> .b λ_ _=> .c (λ_=> .s k0) λ_=>OF (hx hc ?_ rfl rfl);obtain⟨q,hq,_,p2,_⟩:=@zeE c a0.Now (sI ha (List.mem_of_getElem? hc));cases hq.symm.trans hv;exact p2.2.2
 ·exact .c (λ_=> .s k0) λ_=> .c (λ_=> .n) λ_=> .b λx hx=> .p λ_=> .c (λ_=> .s k0) λ_=> .b λv hv=>OF (WS ha (hS x (iK hx)) v hv).1
 ·exact .c (λ_=> .s k0) λ_=> .c (λ_=> .n) λ_=> .b λx hx=> .p λ_=> .c (λ_=> .s k0) λ_=> .b λv hv=>OF (WS ha (hS x (iK hx)) v hv).1
 ·exact .c (λ_=> .s k0) λ_=> .c (λ_=> .n) λ_=> .b λx hx=> .p λ_=> .c (λ_=> .s k0) λ_=> .b λv hv=>OF (WS ha (hS x (iK hx)) v hv).1
 ·exact .c (λ_=> .s k0) λ_=> .c (λ_=> .n) λ_=> .b λx hx=> .p λ_=> .c (λ_=> .s k0) λ_=> .c (λ_=> .n) λ_=> .g λ_=> .b λ_ _=> .g λ_=> .b λ_ _=> .c (λ_=> .s k0) λ_=> .b λv hv=>OF (WS ha (by have:=hS x (iK hx);simp only[N,List.length_set]at this⊢;exact this) v hv).1
 ·refine .b λu hu=> .b λv hv=> .c (λ_=> .s k0) λ_=>OF (WS ha ?_ v hv).1;obtain⟨q,hq,p⟩:=@zfk a1.Ops a0.Seen a0.Known (by simp only[N]at hw⊢;omega) (by omega) (by omega);cases hq.symm.trans hu;simp only[N];omega
 ·exact .b λ_ _=> .g λ_=> .b λ_ _=> .c (λ_=> .s k0) λ_=>OF (QH rfl rfl)
 ·refine .g λ_=> .b λc hc=> .c (λ_=> .b λv hv=> .g λ_=> .b λ_ _=> .g λ_=> .b λ_ _=> .s k0) λ_=> .b λv hv=> .g λ_=> .b λ_ _=> .g λ_=> .b λ_ _=>OF (hx hc ?_ rfl rfl);obtain⟨q,hq,_,p2,_⟩:=@zfo c (sI ha (List.mem_of_getElem? hc));cases hq.symm.trans hv;exact p2.2.2
 ·exact .b λ_ _=> .g λ_=> .b λ_ _=> .c (λ_=> .s k0) λ_=>OF (QH rfl rfl)
 ·exact .g λ_=> .b λ_ _=> .c (λ_=> .s k0) λ_=> .b λ_ _=> .g λ_=> .p λ_=> .g λ_=> .c (λ_=> .s k0) λ_=>OF (QH rfl rfl)
 ·exact .c (λ_=> .s k0) λ_=> .g λ_=> .b λ_ _=> .c (λ_=> .s k0) λ_=> .g λ_=> .b λ_ _=> .b λ_ _=> .g λ_=> .p λ_=> .g λ_=> .c (λ_=> .s k0) λ_=>OF (QH rfl rfl)
 ·exact .c (λ_=> .b λ_ _=>OF (QH rfl rfl)) λ_=> .b λ_ _=>OF (QH rfl rfl)
end Go.D
namespace Go.D
structure WR(w:Aa):Prop where
 ok:iB w=true
 ch:CH w.Clients
 sz:wt w≤300000
def zwU{s a b:List UInt8}{m:Int}(hs:s.length=8)(ha:a.length=6)(hb:b.length=9)(hm:1≤m∧m≤3):WR (fL s a b m)∧(fL s a b m).Now=0:=by
 have hd:ZB ⟨s,0⟩=true:=by
  simp only[ZB,Bool.and_eq_true,OB];omega
 have hr:=mJ ⟨s,0⟩;have ht:=zlU (n:=m) (by omega)
 have hS:LB (IC [a,b] s m)=true:=YE.2 ⟨by show 1≤2∧2≤9;omega,zlH (hr.2.2.2 hd (by show(0:Int)≠10000;omega)),hr.2.2.1 hd,ht,rfl,λx hx=>by
  rcases List.mem_cons.1 hx with h | h
  ·rw[h,AC,OB];omega
  ·rw[List.mem_singleton.1 h,AC,OB];omega,λe he=>by
   have he:e∈(lE m).L:=he;rw[zjs (by omega)]at he;cases he⟩
 obtain⟨h1,h2,h3,_⟩:=zj6 hS;have e:fL s a b m=HV s a b m:=by rw[fL,hS];rfl
 have hw:=zjQ s a b m;simp only[EA]at hw;refine⟨⟨by rw[e];exact h1,?_,by omega⟩,by rw[e];rfl⟩;rw[e];intro c hc;have hc:c∈[MB 1 a (vB 1),MB 2 b (vB 2)]:=hc;rw[h2,h3]at hc
 rcases List.mem_cons.1 hc with h | h
 ·rw[h];exact zgd (n:=1) (by omega)
 ·rw[List.mem_singleton.1 h];exact zgd (n:=2) (by omega)
def zq2{a0:Af}(ha:lA a0):Ok (Gj a0) λr=>lA r.2∧WR r.1∧r.1.Now=0:=by
 have hL:=CB;unfold Gj;refine .b (HB ha (by omega)) λr1 PV=> .b (HB PV.2 (by omega)) λr2 dW=> .b (HB dW.2 (by omega)) λr3 pW=> .b (NA pW.2) λr4 WV=> .m (pA (by simp only[EA];omega)) (.s ⟨WV.2.2.2,?_⟩);have:=WV.2.1 (by omega);exact zwU PV.1 dW.1 pW.1 (by rw[AA (by omega) (by omega)];omega)
def zpe{a0:Af}{a1:Int}{a2:Bool}(ha:lA a0)(hb:a1≤40):Ok (Hq a0 a1 a2) λr=>lA r.2.2.2∧WR r.2.2.1∧r.2.2.1.Now≤60:=by
 have hL:=CB;unfold Hq;refine .b (zq2 ha) λr1 ⟨g1,g2,g3⟩=> .cp (by have:=g2.sz;omega) (.b (NA g1) λr3 pW=>?_)
 have hr:0≤r3.1∧r3.1≤40:=by
  refine⟨pW.1,?_⟩
  by_cases h:0<a1
  ·have:=pW.2.1 h;omega
  ·have:=pW.2.2.1 (by omega);omega
 have e4:iA .i64 4 r3.1=4+r3.1:=AA (by omega) (by omega);refine .j (λy4=>lA y4.2.1∧WR y4.2.2.2∧y4.2.2.2.Now≤60) (λy4 rY=> .s rY) λk5 iW=> .l (λx6:(List Ao)×Int×Af×Int×Aa=>(0≤x6.2.1∧x6.2.1≤60)∧lA x6.2.2.1∧wt x6.1+3001 *x6.2.1≤200000∧WR x6.2.2.2.2∧x6.2.2.2.2.Now+x6.2.1≤60) (λx6=>x6.2.1.toNat) (λx6 ⟨Y1,nZ,BY,bZ,s9⟩ k7 VV=> .c (λh1=>?_) λh1=>iW _ ⟨nZ,bZ,by show x6.2.2.2.2.Now≤60;omega⟩) ⟨by simp only[e4];omega,pW.2.2.2,by simp only[e4,LF];omega,g2,by simp only[e4,g3];omega⟩ (by simp only[e4];omega);have h1:=of_decide_eq_true h1;have hz:=bZ.sz;have F:=BM bZ.ok;have es:qA .i64 x6.2.1 1=x6.2.1 - 1:=IA (by omega) (by omega);refine .b (ziF nZ (by omega) (by rw[(qC.1 bZ.ok).cl];omega)) λr8 zW=> .g (by simp only[jD,LF];omega) (.cp (by omega) (.j (λy10=>y10.1=true→WR y10.2∧y10.2.Now≤x6.2.2.2.2.Now+1) (λy10 VW=> .j (λy13=>WR y13.1∧y13.1.Now≤x6.2.2.2.2.Now+1) (λy13 kX=>VV _ ?_ ?_) λk14 RV=> .c (λh2=>RV _ (VW h2)) λh2=>RV _ ⟨bZ,Int.le_add_one (Int.le_refl _)⟩) λk11 QV=> .c (λh3=> .c (λh4=>?_) λh4=>QV _ nofun) λh3=>QV _ nofun))
 ·refine⟨by simp only[es];omega,zW.2,?_,kX.1,?_⟩
  ·show wt (x6.1++[r8.1])+3001 *qA .i64 x6.2.1 1≤200000
   rw[es,jS,jD,LF];omega
  ·show y13.1.Now+qA .i64 x6.2.1 1≤60
   rw[es];have:=kX.2;omega
 ·simp only[es];omega
 ·have h3:=of_decide_eq_true h3;have hf:=zM h4;refine .b (zjk (by omega) (by have:=F.1;have:=F.2.1;omega) F.2.2.2.2.2.1 (by omega) (by omega)).we λq ⟨_,hq⟩=>QV _ λh5=>?_;have hl:decide ((x6.2.2.2.2.Notes.length:Int)>500)=false:=decide_eq_false (by omega);obtain⟨v,hv,D⟩:=zp0 (a0:=x6.2.2.2.2) (a1:=r8.1) (by omega) (by omega);have e:=zxx bZ.ok (by omega) (by omega) h4 hl v (cond q.1 q.2 x6.2.2.2.2,q.1) hv (by rw[hq];rfl);have h5:q.1=true:=h5;rw[h5]at e;have e1:v.1=q.2:=by rw[e];rfl
  have e2:v.2=true:=by rw[e]
  have hk:KP x6.2.2.2.2 v.1:=zxs bZ.ok (by omega) (by omega) h4 hl v hv;have hN:=BE (qC.1 bZ.ok).notes;have hW:=zaw bZ.ok;have YV:=D.sz;rw[e1]at YV hk;exact⟨⟨by rw[←e1];exact(D.yes e2).2.2.2.1,hk.2 bZ.ch,by show wt q.2≤_;omega⟩,hk.1⟩
def zpo{a0:List UInt8}(ha:a0.length≤1048576):Ok (Jb a0) λr=>WR r∧r.Now≤60:=by
 unfold Jb Hr;simp only[ba,bs];refine .b (zjb ha) λr1 PV=> .b (ziM ha (by omega)) λr2 dW=> .b (sE PV) λr3 pW=> .b (zpe pW (by rw[AA (by omega) (by omega)];omega)) λr4 WV=> .s WV.2
end Go.D
namespace Go.D
def ztG{w:Aa}{a:Ah}{c:Ad}(hw:iB w=true)(hc:c∈w.Clients)(e:a=c.At)(hh:CH w.Clients):1≤nK w a:=by
 subst e;unfold nK;rw[hh c hc,cond_false];have hs:wB c.At c.At=true:=by unfold wB;simp
 cases hf:w.Clients.find? λd=>wB d.At c.At with
 | none=>exact absurd hs (by simpa using List.find?_eq_none.1 hf c hc)
 | some d=>
  obtain⟨i,hi,hd⟩:=List.getElem_of_mem (List.mem_of_find?_eq_some hf);have:=((qC.1 hw).ci i d (by rw[List.getElem?_eq_getElem hi,hd])).2.1;show 1≤d.Id
  omega
def zf0{a:Ah}:wB a a=true:=by unfold wB;simp
def fQ.ok{x}(_:xA [.sl .byte] x):Pl x=some (zmn (α:=List UInt8) x):=by
 have hL:=CB
 have:Ok (Pl x) λr=>r=true:=by
  unfold Pl;refine .c (λ_=> .s rfl) λhb=>?_;have hb:List.length (α:=UInt8) x≤1048576:=by have:=of_decide_eq_false hb;omega
  refine .b (zpo hb) λw ⟨W,hN⟩=> .b (zpS hb) λu ⟨w1,w2⟩=> .b (zjM (by omega) (by omega)).we λr3 ⟨⟨p1,⟨m3,p2⟩,p3,p4,p5,p6,p7,_⟩,h3⟩=> .b (ziz (by have:=W.sz;omega)).we λr4 ⟨⟨q1,_,q3,q4,q5,q6,_⟩,h4⟩=>?_;have hz:=W.sz;have hw:=qC.1 W.ok;have hn:=OB.1 hw.now;have hy:=q1 W.ok;have hyN:=q6 W.ok (by omega);have i9:=(zlK W.ok r4 h4).2 W.ch;have hwr:=q5 W.ok;refine .j (λy5=>y5=false) (λy5 W2=>?_) λk6 JW=> .m (pA (by omega)) ?_
  ·subst W2;refine .kf (.j (λ_=>True) (λy11 _=>?_) λk12 jW=> .l (λx13:Int=>0≤x13∧x13≤(r4.2.length:Int)) (λx13=>((r4.2.length:Int) - x13).toNat) (λx13 hx k14 RV=> .c (λh1=>?_) λ_=>jW _ trivial) ⟨Int.le_refl _,Int.natCast_nonneg _⟩ (by have:=tB r4.2;omega))
   ·refine .j (λy23=>(y23=true→r3=(u.1,[]))∧(y23=false→iB u.1=true∧(0≤u.2.1∧u.2.1≤2))) (λy23 hy=> .c (λh=>?_) λh=>?_) λk24 cW=> .m (pA (by omega)) ?_
    ·have e:=hy.1 h;rw[e];exact .j (λy=>y=true) (λy hy=> .s hy) λk27 WW=> .m (zl6 (show wt u.1≤bA by omega)) (.kt (WW _ rfl))
    ·obtain⟨hu,hr⟩:=hy.2 h;refine .j (λ_=>True) (λy29 _=>?_) λk30 uY=> .l (λx31:Int=>0≤x31∧x31≤(r3.2.length:Int)) (λx31=>((r3.2.length:Int) - x31).toNat) (λx31 hx k32 wY=> .c (λh1=>?_) λ_=>uY _ trivial) ⟨Int.le_refl _,Int.natCast_nonneg _⟩ (by have:=tB r3.2;omega)
     ·have hNn:wt u.1.Notes≤wt u.1:=by simp only[aG];omega
      refine .j (λy=>y=true) (λy hy=> .s hy) λk45 v3=> .m (pA (by omega)) ?_;rw[p1 hu,p2,zuq,List.length_append,decide_eq_true (by omega)];exact .kt (.kt (.h (by simp) (.m (zl6 (by omega)) (v3 _ rfl))))
     ·have h1:=of_decide_eq_true h1;have ei:iA .i64 x31 1=x31+1:=AA (by have:=tB r3.2;omega) (by have:=tB r3.2;omega);refine .j (λy=>y=false) (λy hy=>by subst hy;exact .kf (wY _ (by rw[ei];omega) (by rw[ei];omega))) λk34 gY=> .c (λh0=> .h (by simp only[B];omega) (.bg (by omega) λe he _=>?_)) λh0=> .c (λh2=> .h (by simp only[B];omega) (.bg (by omega) λe he _=>?_)) λ_=>gY _ rfl
      ·have h0:=beq_iff_eq.1 h0;rw[(p5 hu h0 e (List.mem_of_getElem? he)).2];simp only[VN,zf0,Bool.not_true,cond_false];rw[h0];exact .kf (gY _ rfl)
      ·have h0:=beq_eq_false_iff_ne.1 h0;have es:qA .i64 u.2.1 1=u.2.1 - 1:=IA (by omega) (by omega);have U0:=(qC.1 hu).cl;refine .bi (by rw[es];omega) (by rw[es];omega) λc hc _=>?_;rw[((p6 hu c h0 hc).1 e (List.mem_of_getElem? he)).2];simp only[VN,zf0,Bool.not_true];exact gY _ rfl
    ·have bW:¬(eA u.2.1 0 2=true∧GA u.2.2.1=true)→iB u.1=true→r3=(u.1,[]):=λh hu=>(WS hu (by omega) r3 h3).2 h;cases hu:iB u.1
     ·exact .kt (cW _ ⟨λ_=>by obtain⟨e1,e2⟩:=p7 hu;rw[←e1, ←e2],nofun⟩)
     ·refine .kf (.c (λh=>cW _ ⟨λ_=>bW (λh2=>?_) hu,nofun⟩) λh=> .c (λh2=>cW _ ⟨λ_=>bW (λh3=>?_) hu,nofun⟩) λh2=>cW _ ⟨λh3=>bW (λh4=>?_) hu,λ_=>⟨hu,?_⟩⟩)
      ·have:=OB.1 h2.1;have:=of_decide_eq_true h;omega
      ·have:=OB.1 h3.1;have:=of_decide_eq_true h2;omega
      ·rw[h4.2]at h3;cases h3
      ·have:=of_decide_eq_false h;have:=of_decide_eq_false h2;omega
   ·have h1:=of_decide_eq_true h1;have ei:iA .i64 x13 1=x13+1:=AA (by have:=tB r4.2;omega) (by have:=tB r4.2;omega);refine .j (λy=>y=false) (λy hy=>by subst hy;exact .kf (RV _ (by rw[ei];omega) (by rw[ei];omega))) λk16 KW=> .h (by simp only[B];omega) (.bg (by omega) λe he _=> .m (pA (by omega)) ?_);obtain⟨g1,g2,c,g3,g4⟩:=hwr e (List.mem_of_getElem? he);have hp:=ztG hy g3 g4 i9;rw[decide_eq_false (by omega)];refine .kf (.h (by simp only[B];omega) (.m he ?_));rw[g2];simp only[VN,zf0,Bool.not_true,cond_false];refine .h (by simp only[B];omega) (.m he ?_);rw[g1];exact KW _ rfl
  ·rw[W.ok];refine .kf (.m (pA (by omega)) ?_);rw[hy];refine .kf ?_;rw[hyN,AA (by omega) (by omega),bne_self_eq_false];refine .kf (.m (pA (by omega)) (.m (pA (by omega)) ?_));rw[beq_self_eq_true];exact JW _ rfl
 obtain⟨r,h,rfl⟩:=this;exact h
end Go.D

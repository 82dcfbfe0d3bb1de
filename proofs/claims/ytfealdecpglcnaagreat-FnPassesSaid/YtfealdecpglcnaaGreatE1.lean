/-
 The program's machine: what its parts' steps come to.
-/
import Derived.Test.YtfealdecpglcnaaGreatN8g
import Derived.Test.YtfealdecpglcnaaGreatN11
set_option linter.all false
namespace Go.D
def GK{b:List UInt8}(h:oA b=true):b.length=12:=by
 simp only[oA,beq_iff_eq]at h;omega
def OI:∀l:List (List UInt8),l.flatten.length+l.length=wt l
 | []=>rfl
 | x :: l=>by
  have:=OI l;rw[List.flatten_cons,List.length_append,List.length_cons,vD,FA];omega
def zsG{l:List (List UInt8)}(h:wt l≤bA):Ok (jD l) λr=>r.length+l.length≤wt l:=eF h (by rw[OI];exact Nat.le_refl _)
def WF(w:Ab):Prop:=wt w.Clients≤702∧wt w.S≤3300∧wt w.Seen≤18090∧wt w.Known≤396∧w.D.Seed.length≤32∧TW w∧0≤w.Now∧w.Now≤1000000∧w.S.T.L.length≤12
def ze7{l:List Am}(h:WD l=true):wt l≤18090∧l.length≤90:=by
 simp only[WD,Bool.and_eq_true,Bool.not_eq_true',decide_eq_true_eq]at h;obtain⟨h1,h2⟩:=h
 have:wt l≤(200+1) *l.length:=hM 200 l λx hx=>by
  have:=List.any_eq_false.1 h1 x hx;simp only[LC,Bool.not_eq_true',Bool.not_eq_false,Bool.and_eq_true,decide_eq_true_eq]at this;rw[kV,FA,IE,IE];omega
 omega
def zvT{α:Type}:∀{l:List α},l.length=2→∃a b,l=[a,b]
 | [a,b],_=>⟨a,b,rfl⟩
def ZR{w:Ab}(h:oB w=true):WF w:=by
 simp only[oB,Bool.and_eq_true,pC,beq_iff_eq,decide_eq_true_eq,Bool.not_eq_true']at h;obtain⟨⟨⟨⟨⟨⟨⟨⟨⟨h1,h2⟩,h3⟩,h4⟩,h5⟩,h6⟩,h7⟩,h8⟩,h9⟩,_⟩:=h;have s:=QH h3;have d:=zkF h5;have se:=ze7 h6
 have kn:wt w.Known≤(32+1) *w.Known.length:=hM 32 w.Known λx hx=>by
  have:=List.any_eq_false.1 h9 x hx;simp only[bne_iff_ne,ne_eq,Decidable.not_not]at this;rw[FA];omega
 have hl:w.Clients.length=2:=by omega
 have hp:w.S.Psks.length=2:=by omega
 obtain⟨a,b,e⟩:=zvT hl;have c0:=cS (n:=2) (p:=TH w) (i:=0) (by rw[h8];rfl) (by omega);have c1:=cS (n:=2) (p:=TH w) (i:=1) (by rw[h8];rfl) (by omega);unfold TH at c0 c1;rw[e,List.getElem?_eq_getElem (l:=w.S.Psks) (by omega)]at c0 c1;simp only[List.getElem?_cons_zero,List.getElem?_cons_succ,Option.any_some,Bool.or_eq_false_iff,Bool.not_eq_false',bne_eq_false_iff_eq]at c0 c1;have f0:=uG c0.1.1;have f1:=uG c1.1.1;have g0:=f0.1;have g1:=f1.1;refine⟨?_,s.1,se.1,by omega,d,⟨hl,?_,?_⟩,h1.1,h1.2,s.2.1⟩
 ·rw[e,vD,vD,DG];omega
 ·rw[e];exact c0.1.2
 ·rw[e];exact c1.1.2
def N11:∀w,WF w↔(wt w.Clients≤702∧wt w.S≤3300∧wt w.Seen≤18090∧wt w.Known≤396∧w.D.Seed.length≤32∧TW w∧0≤w.Now∧w.Now≤1000000∧w.S.T.L.length≤12):=λ_=>Iff.rfl
def zfY(a b:Int):(UD a b≤a∧UD a b≤b)∧(UD a b=a∨UD a b=b):=by
 unfold UD;split<;>omega
def zuG(a b:Int):(a≤qG a b∧b≤qG a b)∧(qG a b=a∨qG a b=b):=by
 unfold qG;split<;>omega
def zlO(k b:List UInt8):(VC k b).length=32∨(VC k b).length=0:=by
 unfold VC;cases h:decide ((k.length:Int)>1048576)||decide ((b.length:Int)>1048512)
 ·rw[Bool.or_eq_false_iff,decide_eq_false_iff_not,decide_eq_false_iff_not]at h;have:=wH (k:=k) (b:=b) (by omega) (by omega);unfold VC at this;rw[show(decide ((k.length:Int)>1048576)||decide ((b.length:Int)>1048512))=false by simp;omega]at this;exact .inl this
 ·exact .inr rfl
def zpl{a0 a1 a2}(ha:wt a1≤1000000000):Ok (Hq a0 a1 a2) λr=>r.length≤32∧(0≤a2∧a2≤6∧a1.length≤100∧a0.length≤1048576→r.length=32):=by
 have hL:=IB;unfold Hq;simp only[N]at ha;refine Ok.join (λy1:Bool=>(y1=true∧¬(0≤a2∧a2≤6∧a1.length≤100))∨(y1=false∧a1.length≤100)) (λy1 qW=>?_) (λk2 JV=>?_)
 ·rcases qW with⟨rfl,h⟩ | ⟨rfl,h⟩
  ·exact Ok.some' ⟨Nat.zero_le _,λk=>absurd ⟨k.1,k.2.1,k.2.2.1⟩ h⟩
  ·refine Ok.bind (zsG ?_) (λr3 tW=>?_)
   ·simp only[N];omega
   simp only[N]at tW;refine Ok.bind (zG ?_) (λr4 VV=>?_)
   ·simp only[N];omega
   exact Ok.some' ⟨mM _ _,λk=>wH k.2.2.2 (by omega)⟩
 refine Ok.cond' (λh2=>?_) (λh2=>?_)
 ·simp only[B]at h2;exact JV _ (.inl ⟨rfl,λk=>h2 ⟨k.1,k.2.1⟩⟩)
 ·simp only[B]at h2;refine JV _ ?_
  by_cases h:(a1.length:Int)>100
  ·exact .inl ⟨decide_eq_true h,λk=>by omega⟩
  ·exact .inr ⟨decide_eq_false h,by omega⟩
def zpF{a0 a1 a2}(ha:wt a1≤1000000000):Ok (Hr a0 a1 a2) λr=>r.length≤200∧((r.length:Int)=0∨(r.length:Int)=a2):=by
 have hL:=IB;unfold Hr;refine Ok.join (λy1:Bool=>y1=false→(0≤a2∧a2≤200∧a1.length≤100∧a0.length≤1048576)) (λy1 qW=> .cond' (λ_=> .some' ⟨Nat.zero_le _, .inl rfl⟩) λe=>?_) (λk2 JV=>?_)
 ·have qW:=qW e;refine Ok.join (λy3:List UInt8=>a2≤(y3.length:Int)∧y3.length≤1000) (λy3 vY=>?_) (λk4 TV=>?_)
  ·refine Ok.chk ?_ ?_
   ·simp only[B];omega
   refine Ok.same (uA ?_) (Ok.some' ?_)<;>(simp only[N];omega)
  refine Ok.loop (λx5:(List UInt8)×Int=>0≤x5.2∧x5.2≤7∧(x5.1.length:Int)=32 *x5.2) (λx5=>(7 - x5.2).toNat) (λx5 hx5 k6 QW=>?_) ?_ ?_
  ·refine Ok.cond' (λh1=>?_) (λh1=>?_)
   ·simp only[B]at h1;refine Ok.bind (zpl ha) (λr7 NW=>?_);have h7:r7.length=32:=NW.2 (by omega);refine Ok.guard ?_ ?_
    ·simp only[N];omega
    have:=DA (a:=x5.2) (b:=1) (by omega) (by omega);refine QW _ ?_ ?_<;>(simp only[N];omega)
   ·simp only[B]at h1;refine TV _ ?_;omega
  ·simp only[N];omega
  ·simp only[N];omega
 refine Ok.cond' (λ_=>JV _ nofun) (λh2=>?_);simp only[B]at h2;refine Ok.cond' (λ_=>JV _ nofun) (λh3=>?_);simp only[B]at h3;refine JV _ λh=>?_;simp only[B]at h;omega
end Go.D
namespace Go.D
namespace Ok
variable {α β:Type} {P:β→Prop}
def kt{x y:Option β}(h:Ok x P):Ok (cond true x y) P:=h
def kf{x y:Option β}(h:Ok y P):Ok (cond false x y) P:=h
def j0{F:α→Option β}{G:(α→Option β)→Option β}(h:Ok (G F) P):Ok (aA F G) P:=h
def bm{γ:Type}[Wt γ]{l:List γ}{i:Int}{f:γ→Option β}(h0:0≤i)(h1:i<(l.length:Int))(k:∀x,x∈l→wt x+1≤wt l→Ok (f x) P):Ok (Option.bind (kA l i) f) P:= .bi h0 h1 λx h=>k x (List.mem_of_getElem? h)
end Ok
def FC(l:List Ae):Prop:=∀n∈l,tC n=true
theorem RD:FC []:=λ_ h=>nomatch h
theorem xE{n:Ae}{l:List Ae}:FC (n :: l)↔tC n=true∧FC l:=by simp[FC]
theorem nF{l m:List Ae}:FC (l++m)↔FC l∧FC m:=by
 simp only[FC,List.mem_append];exact⟨λh=>⟨λn k=>h n (.inl k),λn k=>h n (.inr k)⟩,λh n k=>k.elim (h.1 n) (h.2 n)⟩
def CS{n:Ae}(h:tC n=true):wt n≤156:=by
 simp only[tC,uD,CE,Bool.and_eq_true,Bool.or_eq_true,beq_iff_eq,decide_eq_true_eq]at h;simp only[N];omega
def UF{l:List Ae}(h:FC l):wt l≤157 *l.length:=hM 156 l λ_ k=>CS (h _ k)
theorem FG(b:List UInt8)(n k:Int):(AD b n k).length≤b.length+6∧(AD b n k).length=b.length+(if k<1 then 0 else if k>6 then 0 else k.toNat):=by
 unfold AD
 by_cases h1:k<1
 ·simp[h1]
 ·by_cases h2:k>6
  ·simp[h1,h2]
  ·simp[h1,h2,oN];omega
def zc7(d:Ax):wt (iE d).1=wt d∧(iE d).2.length≤12∧(BC d=true→BC (iE d).1=true)∧(BC d=true→d.N≠10000→(iE d).2.length=12):=by
 unfold iE;cases h:BC d
 ·simp
 ·have h':=h;simp only[BC,Bool.and_eq_true,pC]at h'
  by_cases k:d.N=10000
  ·simp[k,h]
  ·have e:(d.N==10000)=false:=beq_false_of_ne k;rw[e];refine⟨rfl,KU _ _,λ_=>?_,λ_ _=>?_⟩
   ·show(eA (d.Seed.length:Int) 1 32&&eA (iA .i64 d.N 1) 0 10000)=true
    rw[DA (by omega) (by omega),Bool.and_eq_true,pC,pC];omega
   ·show(xD d.Seed d.N).length=12
    rw[xD,pC.2 h'.1,pC.2 h'.2];show(List.take 12 _).length=12
    rw[List.length_take,wH (by omega) (by
     rw[WU];omega)];rfl
def zjX(b:List UInt8):wt (VE b)=b.length:=by simp only[VE,PI,IE,FA,List.length_nil];omega
def zi2{b:List UInt8}(h:b.length≤100):tC (VE b)=true:=by
 unfold VE;grind [tC,uD,CE,eA,MA]
def zj8(p:Aj)(a:Ai): -1≤yE p a∧yE p a<(p.Cands.length:Int):=by
 unfold yE
 rcases AJ p.Cands.length (iO p a)with⟨_,h⟩ | ⟨m,h1,_,_,h⟩<;>rw[h]<;>omega
def MU{k l:List UInt8}(h:k.length≤100)(hl:l.length≤100):(zM k l).length=32:=zjw (by omega) (by omega)
theorem TD{c:Ak}(h:xC c=true):wt c≤172∧c.Sn.length=12∧c.Cur.Key.length=32∧c.Cur.Win.Bits.length=32∧0≤c.Cur.N∧c.Cur.N≤4294967295∧c.Next.length≤32∧0≤c.Cur.Seq∧c.Cur.Seq≤281474976710656:=by
 have h1:=(aV h).1;simp only[xC,cD,oA,Bool.and_eq_true,beq_iff_eq,pC]at h;have h2:=zfA h.1.1.2.2;simp only[xH]at h1;have:c.Next.length≤32:=by grind
 simp only[xH];omega
def epF{e:Aw}(h:cD e=true):e.Key.length=32∧e.Win.Bits.length=32∧0≤e.N∧e.N≤4294967295∧0≤e.Seq∧e.Seq≤281474976710656:=by
 have h1:=nV h;simp only[cD,Bool.and_eq_true,beq_iff_eq,pC]at h;omega
def pJ(f:Aa)(sn:List UInt8):Prop:=(f.Sn=[]∨f.Sn=sn)∧0≤f.Epoch∧f.Epoch≤4294967295∧0≤f.Seq∧f.Seq≤281474976710655
def pI(l:List Am)(f:Ai):Prop:=∀x∈l,LC x=true∧x.From=f
def EO(l:List Am):Prop:=∀x∈l,x.To=tE
def zlA:MA tE=true:=rfl
theorem zbN(a b:Ai):cond (a.Host==b.Host) (cond (a.Port==b.Port) (true) false) false=PB a b:=by
 unfold PB;cases a.Host==b.Host<;>cases a.Port==b.Port<;>rfl
end Go.D
namespace Go.D
def MG{a b:Bool}:(a&&b)=true↔a=true∧b=true:=Bool.and_eq_true_iff
def zfP{α:Type}{l:List α}{bad:α→Bool}{r:α→α→Bool}:
  FB l.length (λi=>(l[i]?).any λe=>bad e||FB i λj=>(l[j]?).any λd=>r d e)=false↔(∀e∈l,bad e=false)∧l.Pairwise (λd e=>r d e=false):=by
 rw[TG,List.pairwise_iff_getElem];constructor
 ·intro h;refine⟨λe he=>?_,λi j hi hj V8=>?_⟩
  ·obtain⟨i,hi,rfl⟩:=List.getElem_of_mem he;have:=h i hi;rw[List.getElem?_eq_getElem hi,Option.any_some,Bool.or_eq_false_iff]at this;exact this.1
  ·have:=h j hj;rw[List.getElem?_eq_getElem hj,Option.any_some,Bool.or_eq_false_iff,TG]at this;have:=this.2 i V8;rwa [List.getElem?_eq_getElem hi,Option.any_some]at this
 ·rintro⟨h1,h2⟩ i hi;rw[List.getElem?_eq_getElem hi,Option.any_some,Bool.or_eq_false_iff,TG];refine⟨h1 _ (List.getElem_mem hi),λj hj=>?_⟩;rw[List.getElem?_eq_getElem (by omega),Option.any_some];exact h2 j i (by omega) hi hj
structure zwo(p:Aj):Prop where
 at_:MA p.At=true
 len:p.Cands.length≤3
 el:∀e∈p.Cands,MA e.A=true∧oA e.Draw=true∧eA e.Until 0 1000006=true∧PB e.A p.At=false
 two:p.Cands.Pairwise λd e=>PB d.A e.A=false
def CJ{p:Aj}:qC p=true↔zwo p:=by
 unfold qC eO;rw[MG,MG,Bool.not_eq_true',zfP,decide_eq_true_eq];constructor
 ·rintro⟨⟨a,b⟩,c,d⟩;refine⟨a,by omega,λe he=>?_,d⟩;have:=c e he;simp only[Bool.or_eq_false_iff,Bool.not_eq_false']at this;exact⟨this.1.1.1,this.1.1.2,this.1.2,this.2⟩
 ·rintro⟨a,b,c,d⟩;refine⟨⟨a,by omega⟩,λe he=>?_,d⟩;obtain⟨h1,h2,h3,h4⟩:=c e he;rw[h1,h2,h3,h4];rfl
structure CrP(l:List Al):Prop where
 len:l.length≤8
 el:∀c∈l,MA c.A=true∧(0≤c.Got∧c.Got≤1000000)∧(0≤c.Sent∧c.Sent≤3 *c.Got)
 two:l.Pairwise λd e=>PB d.A e.A=false
def zgl{n:Int}(h:0≤n∧n≤1000000):YB .i64 3 n=3 *n:=by unfold YB;rw[XB (by omega) (by omega)]
def FT{l:List Al}:gD l=true↔CrP l:=by
 unfold gD DR JG;rw[MG,Bool.not_eq_true',zfP,decide_eq_true_eq];constructor
 ·rintro⟨b,c,d⟩;refine⟨by omega,λe he=>?_,d⟩;have:=c e he;simp only[Bool.or_eq_false_iff,Bool.not_eq_false']at this;have h2:=YC.1 this.1.2;have h3:=YC.1 this.2;rw[zgl h2]at h3;exact⟨this.1.1,h2,h3⟩
 ·rintro⟨b,c,d⟩;refine⟨by omega,λe he=>?_,d⟩;obtain⟨h1,h2,h3⟩:=c e he;rw[h1,YC.2 h2,zgl h2,YC.2 h3];rfl
def zly{α:Type}{l:List α}{R:α→α→Prop}(h:l.Pairwise R){i:Nat}{x y:α}(hi:l[i]?=some y)(h1:∀z,R z y→R z x)(h2:∀z,R y z→R x z):(l.set i x).Pairwise R:=by
 obtain⟨hl,hy⟩:=List.getElem?_eq_some_iff.1 hi;rw[List.pairwise_iff_getElem]at h⊢;intro j k hj hk SY;rw[List.length_set]at hj hk;rw[List.getElem_set,List.getElem_set]
 by_cases e1:i=j
 ·have e2:i≠k:=by omega
  rw[if_pos e1,if_neg e2];refine h2 _ ?_;have:=h j k hj hk SY;subst e1;rwa [hy]at this
 ·rw[if_neg e1]
  by_cases e2:i=k
  ·rw[if_pos e2];refine h1 _ ?_;have:=h j k hj hk SY;subst e2;rwa [hy]at this
  ·rw[if_neg e2];exact h j k hj hk SY
def zfD{α:Type}{l:List α}{R:α→α→Prop}(h:l.Pairwise R){x:α}(hx:∀y∈l,R y x):(l++[x]).Pairwise R:=
 List.pairwise_append.2 ⟨h,List.pairwise_singleton _ _,λy hy z hz=>by rw[List.mem_singleton.1 hz];exact hx y hy⟩
theorem zfx{α:Type}{l:List α}{i:Nat}{x y:α}(h:y∈l.set i x):y∈l∨y=x:=List.mem_or_eq_of_mem_set h
def zs0(l:List Al)(a:Ai):(qB l a= -1∧∀c∈l,PB c.A a=false)∨∃(i:Nat) (c:Al),qB l a=(i:Int)∧l[i]?=some c∧PB c.A a=true:=by
 unfold qB
 rcases AJ l.length (JG l a)with⟨h,e⟩ | ⟨m,h1,h2,_,e⟩
 ·refine .inl ⟨e,λc hc=>?_⟩;obtain⟨i,hi,rfl⟩:=List.getElem_of_mem hc;have:=TG.1 h i hi;unfold JG at this;rwa [List.getElem?_eq_getElem hi,Option.any_some]at this
 ·refine .inr ⟨m,l[m],e,List.getElem?_eq_getElem h1,?_⟩;unfold JG at h2;rwa [List.getElem?_eq_getElem h1,Option.any_some]at h2
def HU{a b:Ai}:PB a b=true↔a=b:=by
 unfold PB;rw[MG,beq_iff_eq,beq_iff_eq];obtain⟨_,_⟩:=a;obtain⟨_,_⟩:=b;simp
def RE(a d:Ah):Prop:=uC d=true∧d.Id=a.Id∧d.Sn=a.Sn∧d.Cn=a.Cn∧(a.Dead=true→d.Dead=true)
def IN{a:Ah}(h:uC a=true):RE a a:=⟨h,rfl,rfl,rfl,id⟩
def zfH(t:Ao)(h:t.L.length≤1000000):live t=(t.L.countP (λe=>!e.Dead):Int):=by
 unfold live
 have:∀(l:List Ah) (k:Nat),k+l.length≤1000000→l.foldl (λs e=>bif e.Dead then s else iA .i64 s 1) (k:Int)=((k+l.countP λe=>!e.Dead:Nat):Int):=λl=>by
  induction l with
  | nil=>intro k _;rfl
  | cons e l ih=>
   intro k hk;rw[List.foldl_cons];simp only[List.length_cons]at hk;cases h:e.Dead
   ·rw[cond_false,DA (by omega) (by omega),show(k:Int)+1=((k+1:Nat):Int) by omega,ih (k+1) (by omega),List.countP_cons_of_pos (by rw[h];rfl)];congr 1;omega
   ·rw[cond_true,ih k (by omega),List.countP_cons_of_neg (by rw[h];decide)]
 have:=this t.L 0 (by omega);rw[Nat.zero_add]at this;exact this
structure zyL(t:Ao):Prop where
 cap:1≤t.Cap∧t.Cap≤6
 len:t.L.length≤12
 live:(t.L.countP (λe=>!e.Dead):Int)≤t.Cap
 el:∀e∈t.L,uC e=true
 two:t.L.Pairwise λd e=>(d.Sn==e.Sn)=false
def UG{t:Ao}:UC t=true↔zyL t:=by
 unfold UC XK lG;rw[MG,MG,MG,Bool.not_eq_true',zfP,decide_eq_true_eq,decide_eq_true_eq,YC];constructor
 ·rintro⟨⟨⟨a,b⟩,l⟩,c,d⟩;exact⟨a,by omega,by rw[zfH t (by omega)]at l;exact l,λe he=>by have:=c e he;simpa using this,d⟩
 ·rintro⟨a,b,l,c,d⟩;exact⟨⟨⟨a,by omega⟩,by rw[zfH t (by omega)];exact l⟩,λe he=>by rw[c e he];rfl,d⟩
def zjW{α:Type}{p:α→Bool}{x y:α}(h:p x=true→p y=true):∀{l:List α} {i:Nat},l[i]?=some y→(l.set i x).countP p≤l.countP p
 | [],_,e=>by simp at e
 | z :: l,0,e=>by
  rw[List.getElem?_cons_zero,Option.some.injEq]at e;subst e;rw[List.set_cons_zero,List.countP_cons,List.countP_cons];cases hx:p x
  ·simp
  ·rw[h hx];simp
 | z :: l,i+1,e=>by
  rw[List.getElem?_cons_succ]at e;rw[List.set_cons_succ,List.countP_cons,List.countP_cons];have:=zjW h e;omega
def zuA{t:Ao}{i:Nat}{a d:Ah}(h:UC t=true)(hi:t.L[i]?=some a)(k:RE a d):UC ⟨t.Cap,t.L.set i d⟩=true:=by
 have hp:=UG.1 h;refine UG.2 ⟨hp.cap,by show(t.L.set i d).length≤12;rw[List.length_set];exact hp.len,?_,λe he=>(zfx he).elim (hp.el e) λe=>by rw[e];exact k.1,zly hp.two hi (λz hz=>by rw[k.2.2.1];exact hz) λz hz=>by rw[k.2.2.1];exact hz⟩
 have:=zjW (p:=λe:Ah=>!e.Dead) (x:=d) (y:=a) (λhd=>by
  cases ha:a.Dead
  ·rfl
  ·rw[k.2.2.2.2 ha]at hd;exact hd) hi
 have:=hp.live;show((t.L.set i d).countP _:Int)≤t.Cap
 omega
def zqV{t:Ao}{b:List UInt8}(h:JE t b<0):∀e∈t.L,(e.Sn==b)=false:=by
 unfold JE at h
 rcases AJ t.L.length (lG t b)with⟨k,_⟩ | ⟨m,_,_,_,e⟩
 ·intro e he;obtain⟨i,hi,rfl⟩:=List.getElem_of_mem he;have:=TG.1 k i hi;unfold lG at this;rwa [List.getElem?_eq_getElem hi,Option.any_some]at this
 ·omega
def zt1{p:Aj}{l:List Az}(h:qC p=true)(k:l.Sublist p.Cands):qC ⟨p.At,l⟩=true:=by
 have hp:=CJ.1 h;exact CJ.2 ⟨hp.at_,Nat.le_trans k.length_le hp.len,λe he=>hp.el e (k.subset he),hp.two.sublist k⟩
def zaP(p:Aj)(a:Ai):(yE p a= -1∧∀c∈p.Cands,PB c.A a=false)∨∃(i:Nat) (c:Az),yE p a=(i:Int)∧p.Cands[i]?=some c∧PB c.A a=true:=by
 unfold yE
 rcases AJ p.Cands.length (iO p a)with⟨h,e⟩ | ⟨m,h1,h2,_,e⟩
 ·refine .inl ⟨e,λc hc=>?_⟩;obtain⟨i,hi,rfl⟩:=List.getElem_of_mem hc;have:=TG.1 h i hi;unfold iO at this;rwa [List.getElem?_eq_getElem hi,Option.any_some]at this
 ·refine .inr ⟨m,p.Cands[m],e,List.getElem?_eq_getElem h1,?_⟩;unfold iO at h2;rwa [List.getElem?_eq_getElem h1,Option.any_some]at h2
def ztx{p:Aj}{a:Ai}{d:List UInt8}{n:Int}(h:qC p=true)(h1:MA a=true)(h2:d.length=12)(h3:eA n 0 1000000=true)(h4:PB a p.At=false)(h5:yE p a<0)(h6:p.Cands.length≠3):
  qC ⟨p.At,p.Cands++[⟨a,d,iA .i64 n 6⟩]⟩=true:=by
 have hp:=CJ.1 h;have hn:=pC.1 h3;have hl:=hp.len
 rcases zaP p a with⟨_,k⟩ | ⟨i,_,e,_⟩
 ·refine CJ.2 ⟨hp.at_,by show(p.Cands++[_]).length≤3;rw[List.length_append];simp only[List.length_cons,List.length_nil];omega,λe he=>?_,zfD hp.two k⟩
  rcases List.mem_append.1 he with he | he
  ·exact hp.el e he
  ·rw[List.mem_singleton.1 he];exact⟨h1,by unfold oA;rw[beq_iff_eq];show(d.length:Int)=12;omega,by rw[pC];show 0≤iA .i64 n 6∧iA .i64 n 6≤_;rw[DA (by omega) (by omega)];omega,h4⟩
 ·omega
def zrA{p:Aj}{a:Ai}(h:qC p=true)(k:0≤yE p a):
  qC ⟨a,List.take ((yE p a - 0).toNat) p.Cands++List.take (((p.Cands.length:Int) - iA .i64 (yE p a) 1).toNat) (List.drop ((iA .i64 (yE p a) 1).toNat) p.Cands)⟩=true:=by
 have hp:=CJ.1 h;have hl:=hp.len
 rcases zaP p a with⟨e,_⟩ | ⟨i,c,e,hi,hs⟩
 ·omega
 ·have X2:=(List.getElem?_eq_some_iff.1 hi).1;rw[e,DA (by omega) (by omega),show((i:Int) - 0).toNat=i by omega,show((i:Int)+1).toNat=i+1 by omega,List.take_of_length_le (l:=List.drop (i+1) p.Cands) (by rw[List.length_drop];omega), ←List.eraseIdx_eq_take_drop_succ];have sub:=List.eraseIdx_sublist p.Cands i;obtain⟨c1,c2,c3,c4⟩:=hp.el c (List.mem_of_getElem? hi);have hA:=HU.1 hs;refine CJ.2 ⟨hA▸c1,Nat.le_trans sub.length_le hl,λd hd=>?_,hp.two.sublist sub⟩;obtain⟨d1,d2,d3,_⟩:=hp.el d (sub.subset hd);refine⟨d1,d2,d3,?_⟩;obtain⟨j,hj,e2⟩:=List.mem_eraseIdx_iff_getElem.1 hd;obtain⟨hji,e3⟩:=e2;have two:=List.pairwise_iff_getElem.1 hp.two;have ec:=(List.getElem?_eq_some_iff.1 hi).2;show PB d.A a=false
  rw[←hA, ←e3, ←ec]
  rcases Nat.lt_or_ge j i with q | q
  ·exact two j i hj X2 q
  ·have:=two i j X2 hj (by omega);cases hx:PB (p.Cands[j]).A (p.Cands[i]).A
   ·rfl
   ·rw[HU.1 hx]at this;rw[HU.2 rfl]at this;exact this
def zlM{l:List Al}{i:Nat}{c:Al}{g s:Int}(h:gD l=true)(hi:l[i]?=some c)(hg:0≤g∧g≤1000000)(hs:0≤s∧s≤3 *g):gD (l.set i ⟨c.A,g,s⟩)=true:=by
 have hp:=FT.1 h;obtain⟨c1,c2,c3⟩:=hp.el c (List.mem_of_getElem? hi);exact FT.2 ⟨by rw[List.length_set];exact hp.len,λd hd=>(zfx hd).elim (hp.el d) λhd=>by rw[hd];exact⟨c1,hg,hs⟩,zly hp.two hi (λ_ h=>h) λ_ h=>h⟩
def zf9{l:List Al}{i:Nat}{c:Al}(h:gD l=true)(hi:l[i]?=some c):(0≤c.Got∧c.Got≤1000000)∧(0≤c.Sent∧c.Sent≤3 *c.Got):=((FT.1 h).el c (List.mem_of_getElem? hi)).2
theorem zvX{l:List Al}{a:Ai}{n:Int}(h:gD l=true)(h1:qB l a<0)(h2:l.length<8)(h3:MA a=true)(h4:eA n 0 1000000=true):gD (l++[⟨a,n,0⟩])=true:=by
 have hp:=FT.1 h;have hn:=pC.1 h4
 rcases zs0 l a with⟨_,k⟩ | ⟨i,_,e,_⟩
 ·refine FT.2 ⟨by rw[List.length_append];simp only[List.length_cons,List.length_nil];omega,λc hc=>?_,zfD hp.two k⟩
  rcases List.mem_append.1 hc with hc | hc
  ·exact hp.el c hc
  ·rw[List.mem_singleton.1 hc];exact⟨h3,hn,by show(0:Int)≤0∧0≤3 *n;omega⟩
 ·omega
theorem zuF{t:Ao}{s:Ah}(h:UC t=true)(h1:uC s=true)(h2:JE t s.Sn<0)(h3:live t≠t.Cap)(h4:t.L.length≠12):UC ⟨t.Cap,t.L++[s]⟩=true:=by
 have hp:=UG.1 h;have hl:=hp.live;have hn:=hp.len;rw[zfH t (by omega)]at h3;refine UG.2 ⟨hp.cap,?_,?_,λe he=>?_,zfD hp.two (zqV h2)⟩
 ·show(t.L++[s]).length≤12
  rw[List.length_append];simp only[List.length_cons,List.length_nil];omega
 ·show((t.L++[s]).countP _:Int)≤t.Cap
  rw[List.countP_append];have:[s].countP (λe=>!e.Dead)≤1:=List.countP_le_length;omega
 ·rcases List.mem_append.1 he with he | he
  ·exact hp.el e he
  ·rw[List.mem_singleton.1 he];exact h1
inductive F2:List Ah→List Ah→Prop
 | nil:F2 [] []
 | cons {a b:Ah} {l m:List Ah}:RE a b→F2 l m→F2 (a :: l) (b :: m)
def Tk(l m:List Ah):Prop:=∃l',l'.Sublist l∧F2 l' m
def zv1:Tk [] []:=⟨[], .slnil, .nil⟩
def zvc{l m:List Ah}(e:Ah)(h:Tk l m):Tk (l++[e]) m:=by
 obtain⟨l',h1,h2⟩:=h;exact⟨l',h1.trans (List.sublist_append_left _ _),h2⟩
def zvH{l m:List Ah}{e d:Ah}(h:Tk l m)(k:RE e d):Tk (l++[e]) (m++[d]):=by
 obtain⟨l',h1,h2⟩:=h
 have f2:∀{a b:List Ah},F2 a b→F2 (a++[e]) (b++[d]):=λh=>by
  induction h with
  | nil=>exact .cons k .nil
  | cons x _ ih=>exact .cons x ih
 exact⟨l'++[e],h1.append (List.Sublist.refl _),f2 h2⟩
def zlS{l m:List Ah}{d:Ah}(h:Tk l m)(hd:d∈m):∃e∈l,RE e d:=by
 obtain⟨l',h1,h2⟩:=h
 have f2:∀{a b:List Ah},F2 a b→d∈b→∃e∈a,RE e d:=λh=>by
  induction h with
  | nil=>intro h;cases h
  | cons x _ ih=>
   intro h
   rcases List.mem_cons.1 h with rfl | h
   ·exact⟨_,List.mem_cons_self,x⟩
   ·obtain⟨e,he,k⟩:=ih h;exact⟨e,List.mem_cons_of_mem _ he,k⟩
 obtain⟨e,he,k⟩:=f2 h2 hd;exact⟨e,h1.subset he,k⟩
def zwn{t:Ao}{m:List Ah}(h:UC t=true)(k:Tk t.L m):UC ⟨t.Cap,m⟩=true:=by
 have hp:=UG.1 h;have hm:∀e∈m,uC e=true:=λe he=>by obtain⟨_,_,x⟩:=zlS k he;exact x.1
 obtain⟨l',h1,h2⟩:=k;have two:=hp.two.sublist h1;have cnt:=h1.countP_le (p:=λe=>!e.Dead);have len:=h1.length_le
 have f2:∀{a b:List Ah},F2 a b→a.length=b.length∧b.countP (λe=>!e.Dead)≤a.countP (λe=>!e.Dead)∧((∀s,(∀x∈a,(s==x.Sn)=false)→∀y∈b,(s==y.Sn)=false))∧(a.Pairwise (λd e=>(d.Sn==e.Sn)=false)→b.Pairwise λd e=>(d.Sn==e.Sn)=false):=λh=>by
  induction h with
  | nil=>exact⟨rfl,Nat.le_refl _,λ_ _ _ h=>(nomatch h),λ_=> .nil⟩
  | @cons x y a b hx _ ih=>
   obtain⟨i1,i2,i3,i4⟩:=ih;refine⟨by simp[i1],?_,λs hs z hz=>?_,λhp=>?_⟩
   ·rw[List.countP_cons,List.countP_cons];have:=hx.2.2.2.2;cases hxd:x.Dead<;>cases hyd:y.Dead<;>simp_all<;>omega
   ·rcases List.mem_cons.1 hz with rfl | hz
    ·rw[hx.2.2.1];exact hs _ List.mem_cons_self
    ·exact i3 s (λw hw=>hs w (List.mem_cons_of_mem _ hw)) z hz
   ·obtain⟨p1,p2⟩:=List.pairwise_cons.1 hp;refine List.pairwise_cons.2 ⟨λz hz=>?_,i4 p2⟩;rw[hx.2.2.1];exact i3 _ p1 z hz
 obtain⟨e1,e2,_,e4⟩:=f2 h2;have:=hp.len;have:=hp.live;refine UG.2 ⟨hp.cap,by show m.length≤12;omega,by show(m.countP _:Int)≤t.Cap;omega,hm,e4 two⟩
def take_succ{α:Type}{l:List α}{i:Nat}{e:α}(h:l[i]?=some e):l.take (i+1)=l.take i++[e]:=by
 rw[List.take_add_one,h];rfl
end Go.D
namespace Go.D
def ztG{m n:Nat}(hm:m<2^63):LB .i64 (m:Int) (n:Int)=((m&&&(n % 2^64):Nat):Int):=by
 unfold LB;show IntKind.wrap .i64 (((BitVec.ofInt 64 (m:Int)&&&BitVec.ofInt 64 (n:Int)).toNat:Nat):Int)=_
 rw[BitVec.ofInt_natCast,BitVec.ofInt_natCast,BitVec.toNat_and,BitVec.toNat_ofNat,BitVec.toNat_ofNat,Nat.mod_eq_of_lt (by omega)];have:=Nat.and_le_left (n:=m) (m:=n % 2^64);exact XB (by omega) (by omega)
def ztn{m k:Nat}(hk:k<32):DE .i64 (m:Int) (k:Int)=((m / 2^k:Nat):Int):=by
 unfold DE;show Int.fdiv (m:Int) (2^(min ((k:Int)).toNat 64))=_
 rw[Int.toNat_natCast,Nat.min_eq_left (by omega),Int.fdiv_eq_ediv_of_nonneg _ (by exact_mod_cast Nat.zero_le _)]
 norm_cast
def zkK{k:Nat}(hk:k<32):gJ .i64 1 (k:Int)=((2^k:Nat):Int):=by
 unfold gJ;show IntKind.wrap .i64 (1 *2^(min ((k:Int)).toNat 64))=_
 rw[Int.toNat_natCast,Nat.min_eq_left (by omega),Int.one_mul];have h:(2:Nat)^k≤2^32:=Nat.pow_le_pow_right (by omega) (by omega);have e:((2:Int)^k)=((2^k:Nat):Int):=by norm_cast
 rw[e];generalize (2:Nat)^k=p at h⊢;exact XB (by omega) (by omega)
def ztU{m k:Nat}(hm:m<2^32)(hk:k<32):(LB .i64 (DE .i64 (m:Int) (k:Int)) 1==1)=Nat.testBit m k:=by
 have hd:m / 2^k≤m:=Nat.div_le_self _ _;rw[ztn hk,show(1:Int)=((1:Nat):Int)from rfl,ztG (by omega),Nat.testBit_eq_decide_div_mod_eq];rw[show(1 % 2^64:Nat)=1 from rfl,Nat.and_one_is_mod,Bool.eq_iff_iff,beq_iff_eq,decide_eq_true_eq];omega
def xV{m k:Nat}(hm:m<2^32)(hk:k<32):mK .i64 (m:Int) (gJ .i64 1 (k:Int))=((m|||2^k:Nat):Int)∧m|||2^k<2^32:=by
 have h:(2:Nat)^k<2^32:=Nat.pow_lt_pow_right (by omega) hk;have h2:m|||2^k<2^32:=Nat.or_lt_two_pow hm h
 refine⟨?_,h2⟩;rw[zkK hk];unfold mK;show IntKind.wrap .i64 (((BitVec.ofInt 64 (m:Int)|||BitVec.ofInt 64 ((2^k:Nat):Int)).toNat:Nat):Int)=_
 rw[BitVec.ofInt_natCast,BitVec.ofInt_natCast,BitVec.toNat_or,BitVec.toNat_ofNat,BitVec.toNat_ofNat,Nat.mod_eq_of_lt (by omega),Nat.mod_eq_of_lt (by omega)];exact XB (by omega) (by omega)
def HF(l:List Int):Prop:=l.length=32∧∀e∈l,0≤e∧e≤4294967295
def zqq{l:List Int}:AC l 32=true↔HF l:=by
 unfold AC HF;rw[Bool.and_eq_true,List.all_eq_true,beq_iff_eq];exact⟨λ⟨a,b⟩=>⟨by omega,λe he=>YC.1 (a e he)⟩,λ⟨a,b⟩=>⟨λe he=>YC.2 (b e he),by omega⟩⟩
def HF.get{l:List Int}(h:HF l){j:Nat}(hj:j<32):∃m:Nat,m<2^32∧l[j]?=some (m:Int):=by
 have hl:j<l.length:=by rw[h.1];exact hj
 have:=h.2 _ (List.getElem_mem hl);exact⟨(l[j]).toNat,by omega,by rw[List.getElem?_eq_getElem hl];congr 1;omega⟩
def HF.set{l:List Int}(h:HF l)(j:Nat){m:Nat}(hm:m<2^32):HF (l.set j (m:Int)):=by
 refine⟨by rw[List.length_set];exact h.1,λe he=>?_⟩
 rcases List.mem_or_eq_of_mem_set he with he | rfl
 ·exact h.2 e he
 ·omega
def RJ{w:Ap}(h:HF w.Bits){i m:Nat}(hi:w.Bits[i % 1024 / 32]?=some (m:Int))(hm:m<2^32):ZC w i=Nat.testBit m (i % 32):=by
 unfold ZC;rw[hi,Option.any_some];exact ztU hm (Nat.mod_lt _ (by omega))
def zkr{w:Ap}{t:Int}(h:HF w.Bits){n m:Nat}(hm:m<2^32)(hn:w.Bits[n % 1024 / 32]?=some (m:Int))(i:Nat):
  ZC ⟨t,w.Bits.set (n % 1024 / 32) ((m|||2^(n % 1024 % 32):Nat):Int)⟩ i=(ZC w i||decide (i % 1024=n % 1024)):=by
 have hk:n % 1024 % 32<32:=Nat.mod_lt _ (by omega);have ho:=(xV hm hk).2;have hj:n % 1024 / 32<32:=by omega
 by_cases e:i % 1024 / 32=n % 1024 / 32
 ·rw[RJ (w:=⟨t,_⟩) (h.set _ ho) (by show(w.Bits.set _ _)[i % 1024 / 32]?=_;rw[e,List.getElem?_set_self (by rw[h.1];exact hj)]) ho,Nat.testBit_or,RJ h (by rw[e];exact hn) hm,Nat.testBit_two_pow];congr 1;rw[decide_eq_decide];omega
 ·obtain⟨q,hq,D2⟩:=h.get (j:=i % 1024 / 32) (by omega);rw[RJ (w:=⟨t,_⟩) (h.set _ ho) (by show(w.Bits.set _ _)[i % 1024 / 32]?=_;rw[List.getElem?_set_ne (λx=>e x.symm)];exact D2) hq,RJ h D2 hq,decide_eq_false (by omega),Bool.or_false]
structure zy4(w:Ap):Prop where
 top: -1≤w.Top∧w.Top≤281474976710655
 words:HF w.Bits
 none:∀i:Nat,i<1024→w.Top<(i:Int)→ZC w i=false
 bit:w.Top= -1∨ZC w w.Top.toNat=true
def zb4{w:Ap}:bD w=true↔zy4 w:=by
 unfold bD;rw[MG,MG,MG,YC,zqq,Bool.not_eq_true',TG,Bool.or_eq_true,beq_iff_eq];constructor
 ·rintro⟨⟨⟨a,b⟩,c⟩,d⟩;refine⟨a,b,λi hi ht=>?_,d⟩;have:=c i hi;rw[decide_eq_true ht,Bool.true_and]at this;exact this
 ·rintro⟨a,b,c,d⟩;refine⟨⟨⟨a,b⟩,λi hi=>?_⟩,d⟩
  by_cases ht:w.Top<(i:Int)
  ·rw[c i hi ht,Bool.and_false]
  ·rw[decide_eq_false ht,Bool.false_and]
def zjH{m k:Nat}(hm:m<2^32)(hk:k<32):∃c:Nat,zcG .i64 (m:Int) (gJ .i64 1 (k:Int))=(c:Int)∧c<2^32∧∀i,Nat.testBit c i=(Nat.testBit m i&&!decide (i=k)):=by
 have hp:(2:Nat)^k<2^32:=Nat.pow_lt_pow_right (by omega) hk;refine⟨(BitVec.ofNat 64 m&&& ~~~ BitVec.ofNat 64 (2^k)).toNat,?_,?_,λi=>?_⟩
 ·rw[zkK hk];unfold zcG;show IntKind.wrap .i64 (((BitVec.ofInt 64 (m:Int)&&& ~~~ BitVec.ofInt 64 ((2^k:Nat):Int)).toNat:Nat):Int)=_
  rw[BitVec.ofInt_natCast,BitVec.ofInt_natCast]
  have h1:(BitVec.ofNat 64 m&&& ~~~ BitVec.ofNat 64 (2^k)).toNat≤m:=by
   rw[BitVec.toNat_and,BitVec.toNat_ofNat,Nat.mod_eq_of_lt (by omega)];exact Nat.and_le_left
  exact XB (by omega) (by omega)
 ·rw[BitVec.toNat_and,BitVec.toNat_ofNat,Nat.mod_eq_of_lt (by omega)];exact Nat.lt_of_le_of_lt Nat.and_le_left hm
 ·rw[BitVec.toNat_and,BitVec.toNat_ofNat,Nat.mod_eq_of_lt (by omega),Nat.testBit_and]
  by_cases hi:i<64
  ·rw[BitVec.testBit_toNat,BitVec.getLsbD_not,decide_eq_true hi,Bool.true_and, ←BitVec.testBit_toNat,BitVec.toNat_ofNat,Nat.mod_eq_of_lt (by omega),Nat.testBit_two_pow];congr 2;rw[decide_eq_decide];exact eq_comm
  ·have:Nat.testBit m i=false:=Nat.testBit_lt_two_pow (Nat.lt_of_lt_of_le hm (Nat.pow_le_pow_right (by omega) (by omega)));rw[this,Bool.false_and,Bool.false_and]
def zjN{w:Ap}{t:Int}(h:HF w.Bits){n c m:Nat}(hm:m<2^32)(hn:w.Bits[n % 1024 / 32]?=some (m:Int))(hc:c<2^32)(hs:∀i,Nat.testBit c i=(Nat.testBit m i&&!decide (i=n % 1024 % 32)))(i:Nat):
  ZC ⟨t,w.Bits.set (n % 1024 / 32) (c:Int)⟩ i=(ZC w i&&!decide (i % 1024=n % 1024)):=by
 have hj:n % 1024 / 32<32:=by omega
 by_cases e:i % 1024 / 32=n % 1024 / 32
 ·rw[RJ (w:=⟨t,_⟩) (h.set _ hc) (by show(w.Bits.set _ _)[i % 1024 / 32]?=_;rw[e,List.getElem?_set_self (by rw[h.1];exact hj)]) hc,hs,RJ h (by rw[e];exact hn) hm];congr 2;rw[decide_eq_decide];omega
 ·obtain⟨q,hq,D2⟩:=h.get (j:=i % 1024 / 32) (by omega);rw[RJ (w:=⟨t,_⟩) (h.set _ hc) (by show(w.Bits.set _ _)[i % 1024 / 32]?=_;rw[List.getElem?_set_ne (λx=>e x.symm)];exact D2) hq,RJ h D2 hq,decide_eq_false (by omega),Bool.not_false,Bool.and_true]
def zu1{v w:Ap}(hv:HF v.Bits)(hw:HF w.Bits)(ht:v.Top=w.Top)(h:∀i,i<1024→(ZC v i=true↔ZC w i=true)):v=w:=by
 obtain⟨t,l⟩:=v;obtain⟨t',l'⟩:=w;cases ht;congr 1;refine List.ext_getElem? λj=>?_
 by_cases hj:j<32
 ·obtain⟨a,a1,a2⟩:=hv.get hj;obtain⟨b,b1,b2⟩:=hw.get hj;rw[a2,b2];congr 2;refine Nat.eq_of_testBit_eq λk=>?_
  by_cases hk:k<32
  ·have e:=h (32 *j+k) (by omega);have q:(32 *j+k) % 1024 / 32=j:=by omega
   rw[RJ hv (by rw[q];exact a2) a1,RJ hw (by rw[q];exact b2) b1,show(32 *j+k) % 32=k by omega]at e;exact Bool.eq_iff_iff.2 e
  ·rw[Nat.testBit_lt_two_pow (Nat.lt_of_lt_of_le a1 (Nat.pow_le_pow_right (by omega) (by omega))),Nat.testBit_lt_two_pow (Nat.lt_of_lt_of_le b1 (Nat.pow_le_pow_right (by omega) (by omega)))]
 ·rw[List.getElem?_eq_none (by rw[hv.1];omega),List.getElem?_eq_none (by rw[hw.1];omega)]
def GH(a b:Int)(i:Nat):Prop:=∃q:Int,a≤q∧q<b∧q % 1024=(i:Int) % 1024
def WN{a b:Int}{i:Nat}(h:b≤a):¬GH a b i:=λ⟨q,h1,h2,_⟩=>by omega
def zkP{a b:Int}{i:Nat}(h:a≤b):GH a (b+1) i↔GH a b i∨b % 1024=(i:Int) % 1024:=by
 constructor
 ·rintro⟨q,h1,h2,h3⟩
  by_cases e:q=b
  ·exact .inr (e▸h3)
  ·exact .inl ⟨q,h1,by omega,h3⟩
 ·rintro(⟨q,h1,h2,h3⟩ | h3)
  ·exact⟨q,h1,by omega,h3⟩
  ·exact⟨b,h,by omega,h3⟩
def zlk{a b:Int}{i:Nat}(h:a+1024≤b):GH a b i:=⟨a+((i:Int) - a) % 1024,by omega,by omega,by omega⟩
def zsW{a n:Int}{i:Nat}(hi:(i:Int) % 1024≠n % 1024){s:Int}(hs:s=a∧n - 1023≤a∨s=n - 1023∧a≤n - 1023):GH s n i↔GH a (n+1) i:=by
 constructor
 ·rintro⟨q,h1,h2,h3⟩;exact⟨q,by omega,by omega,h3⟩
 ·rintro⟨q,h1,h2,h3⟩;exact⟨n - (n - q) % 1024,by omega,by omega,by omega⟩
structure gL(a:Ap)(n:Nat)(w:Ap):Prop where
 top:w.Top=qG a.Top (n:Int)
 words:HF w.Bits
 bits:∀i,ZC w i=true↔(ZC a i=true∧¬GH (a.Top+1) ((n:Int)+1) i)∨(i:Int) % 1024=(n:Int) % 1024
def gL.same{a v w:Ap}{n:Nat}(h:gL a n v)(k:gL a n w):v=w:=zu1 h.words k.words (h.top.trans k.top.symm) λi _=>(h.bits i).trans (k.bits i).symm
def zc0{i n:Nat}:decide (i % 1024=n % 1024)=true↔(i:Int) % 1024=(n:Int) % 1024:=by rw[decide_eq_true_eq];omega
def aK(w:Ap)(n:Int):Bool:=eA n 0 281474976710655&&(decide (n>w.Top)||(decide (n≥w.Top - 1023)&&!ZC w n.toNat))
def zel{a0 a1}(h:bD a0=true):Ok (Cj a0 a1) λr=>r=aK a0 a1:=by
 have hw:=zfA h;unfold Cj aK;rw[h,PA (a:=a0.Top) (b:=1024) (by omega) (by omega),DA (a:=a0.Top - 1024) (b:=1) (by omega) (by omega),show a0.Top - 1024+1=a0.Top - 1023 by omega];refine .j0 (.c nofun λ_=>?_);cases hi:eA a1 0 281474976710655
 ·exact .s rfl
 ·have:=pC.1 hi;refine .kf (.j0 (.c (λh=> .s (by rw[h];rfl)) λh=> .c (λk=> .m (uA ⟨by omega,hw.1⟩) (.s (by rw[h,k];rfl))) λk=> .s (by rw[h,k];rfl)))
def ztw{a w:Ap}{n:Int}(h:bD a=true)(m:aK a n=true)(k:gL a n.toNat w):bD w=true:=by
 have hp:=zb4.1 h;simp only[aK,Bool.and_eq_true,pC]at m;obtain⟨i,rfl⟩:=Int.eq_ofNat_of_zero_le m.1.1;have hx:=zuG a.Top (i:Int);have ht:=k.top;have hb:=k.bits;rw[Int.toNat_natCast]at ht hb;have E5:=hp.top;refine zb4.2 ⟨by rw[ht];omega,k.words,λj hj hjt=>?_, .inr ?_⟩
 ·cases GZ:ZC w j
  ·rfl
  ·rcases(hb j).1 GZ with⟨b1,_⟩ | b1
   ·have:=hp.none j hj (by omega);rw[b1]at this;exact this
   ·omega
 ·rcases hx.2 with e | e
  ·rcases hp.bit with q | q
   ·rw[hb];right;rw[ht,e];omega
   ·rw[hb]
    by_cases e2:a.Top=(i:Int)
    ·right;rw[ht,e];omega
    ·left;rw[ht,e];exact⟨q,WN (by omega)⟩
  ·rw[hb];right;rw[ht,e];omega
def zen{a0 a1}(h:bD a0=true):Ok (Da a0 a1) λr=>r.2=aK a0 a1∧(r.2=false→r.1=a0)∧(r.2=true→gL a0 a1.toNat r.1)∧bD r.1=true:=by
 suffices key:Ok (Da a0 a1) λr=>r.2=aK a0 a1∧(r.2=false→r.1=a0)∧(r.2=true→gL a0 a1.toNat r.1)from key.mono λr ⟨k1,k2,k3⟩=>⟨k1,k2,k3,by
  cases e:r.2
  ·rw[k2 e];exact h
  ·exact ztw h (by rw[←k1];exact e) (k3 e)⟩
 have hL:=IB;have hw:=zb4.1 h;have hwt:wt a0=32:=by have:=hw.words.1;simp only[N];exact this
 unfold Da;refine Ok.same (uA (p:=wt a0≤bA) (by omega)) ?_;refine Ok.bind (zel h) (λr2 dW=>?_);rw[←dW];refine Ok.cond' (λe=>Ok.some' ⟨(by simpa using e:r2=false).symm,λ_=>rfl,nofun⟩) (λh'=>?_);simp only[B]at h';have ht:=hw.top
 have hm:True∧0≤a1∧a1≤281474976710655:=by
  rw[dW]at h';simp only[aK,Bool.and_eq_true,pC]at h';exact⟨trivial,h'.1⟩
 rw[h'];clear dW;obtain⟨n,rfl⟩:=Int.eq_ofNat_of_zero_le hm.2.1;have e1:=NS (n:=(n:Int)) (by omega);have e2:=LS (n:=(n:Int) % 1024) (by omega) (by omega);have e3:=hO (a:=(n:Int)) (b:=32) (by omega);rw[e1,e2,e3];have q1:((n:Int) % 1024 / 32).toNat=n % 1024 / 32:=by omega
 have q2:(n:Int) % 32=((n % 1024 % 32:Nat):Int):=by omega
 have s1:=DA (a:=a0.Top) (b:=1) (by omega) (by omega);have s2:=PA (a:=(n:Int)) (b:=1024) (by omega) (by omega);have s3:=DA (a:=(n:Int) - 1024) (b:=1) (by omega) (by omega)
 have hs:(qG (iA .i64 a0.Top 1) (iA .i64 (wA .i64 (n:Int) 1024) 1)=a0.Top+1∧(n:Int) - 1023≤a0.Top+1)∨(qG (iA .i64 a0.Top 1) (iA .i64 (wA .i64 (n:Int) 1024) 1)=(n:Int) - 1023∧a0.Top+1≤(n:Int) - 1023):=by
  rw[s2,s3,s1];unfold qG;split<;>omega
 generalize qG (iA .i64 a0.Top 1) (iA .i64 (wA .i64 (n:Int) 1024) 1)=s at hs⊢;refine Ok.join (λy:Ap=>HF y.Bits∧y.Top=a0.Top∧∀i,ZC y i=true↔ZC a0 i=true∧¬GH s (n:Int) i) (λy hy=>?_) (λk hk=>?_)
 ·obtain⟨w1,w2,w3⟩:=hy;obtain⟨m,m1,m2⟩:=w1.get (j:=n % 1024 / 32) (by omega);have hl:=w1.1;refine Ok.chk ?_ ?_
  ·simp only[B];omega
  rw[q1,m2,Option.bind_some];refine Ok.chkn ?_ ?_
  ·simp only[B];omega
  refine Ok.chk ?_ ?_
  ·simp only[B];omega
  rw[Option.bind_some,q2,(xV m1 (by omega)).1];refine Ok.some' ⟨rfl,nofun,λ_=>⟨rfl,w1.set _ (xV m1 (by omega)).2,λi=>?_⟩⟩;rw[Int.toNat_natCast,zkr (w:=y) (t:=qG a0.Top (n:Int)) w1 m1 m2,Bool.or_eq_true,w3,zc0]
  by_cases e:(i:Int) % 1024=(n:Int) % 1024
  ·simp only[e,or_true]
  ·rw[zsW e hs]
 ·refine Ok.loop (λx:Int×Ap=>(0≤x.1∧s≤x.1∧(x.1=s∨x.1≤(n:Int)))∧HF x.2.Bits∧x.2.Top=a0.Top∧∀i,ZC x.2 i=true↔ZC a0 i=true∧¬GH s x.1 i)
   (λx=>((n:Int) - x.1).toNat) (λx hx k' bX=>?_) ?_ ?_
  ·obtain⟨x0,x1,x2,x3⟩:=hx;obtain⟨p,hp⟩:=Int.eq_ofNat_of_zero_le x0.1;have f1:=NS x0.1;have f2:=LS (n:=x.1 % 1024) (by omega) (by omega);have f3:=hO (a:=x.1) (b:=32) (by omega);rw[f1,f2,f3];have p1:(x.1 % 1024 / 32).toNat=p % 1024 / 32:=by omega
   have p2:x.1 % 32=((p % 1024 % 32:Nat):Int):=by omega
   refine Ok.cond' (λhy=>?_) (λhy=>hk _ ⟨x1,x2,λi=>?_⟩)
   ·simp only[B]at hy;obtain⟨m,m1,m2⟩:=x1.get (j:=p % 1024 / 32) (by omega);have hl:=x1.1;refine Ok.chk ?_ ?_
    ·simp only[B];omega
    rw[p1,m2,Option.bind_some];refine Ok.chkn ?_ ?_
    ·simp only[B];omega
    refine Ok.chk ?_ ?_
    ·simp only[B];omega
    rw[Option.bind_some,p2];obtain⟨c,c1,c2,c3⟩:=zjH (k:=p % 1024 % 32) m1 (by omega);rw[c1];have g1:=DA (a:=x.1) (b:=1) (by omega) (by omega);refine bX _ ?_ ?_
    ·refine⟨by simp only;omega,x1.set _ c2,x2,λi=>?_⟩;show ZC ⟨x.2.Top,_⟩ i=true↔_∧¬GH _ (iA .i64 x.1 1) i
     rw[g1,zjN x1 m1 m2 c2 c3,Bool.and_eq_true,x3,zkP (by omega),Bool.not_eq_true', ←Bool.not_eq_true,zc0,hp,not_or,and_assoc,eq_comm (a:=(i:Int) % 1024)]
    ·simp only;omega
   ·simp only[B]at hy;rw[x3]
    rcases x0.2.2 with e | e
    ·exact and_congr_right λ_=>not_congr ⟨λc=>absurd c (WN (by omega)),λc=>absurd c (WN (by omega))⟩
    ·rw[show x.1=(n:Int) by omega]
  ·have ht:=hw.top;exact⟨⟨by simp only;omega,by simp only;omega, .inl rfl⟩,hw.words,rfl,λi=>⟨λh=>⟨h,WN (Int.le_refl _)⟩,λh=>h.1⟩⟩
  ·simp only;omega
end Go.D
namespace Go.D
structure SvP(s:Ac):Prop where
 len:1≤s.Psks.length∧s.Psks.length≤9
 jar:dF s.J=true
 dice:BC s.D=true
 tab:UC s.T=true
 cr:gD s.Cr=true
 psk:∀b∈s.Psks,CC b=true
 id:∀e∈s.T.L,e.Id≤(s.Psks.length:Int)
def MH{s:Ac}:fC s=true↔SvP s:=by
 unfold fC;simp only[MG,pC,Bool.not_eq_true',List.any_eq_false,Bool.not_eq_true,Bool.not_eq_false',decide_eq_false_iff_not,Bool.not_eq_false];constructor
 ·rintro⟨⟨⟨⟨⟨⟨a,b⟩,c⟩,d⟩,e⟩,f⟩,g⟩;exact⟨by omega,b,c,d,e,λx hx=>by simpa using f x hx,λx hx=>by have:=g x hx;simp at this;omega⟩
 ·rintro⟨a,b,c,d,e,f,g⟩;exact⟨⟨⟨⟨⟨⟨by omega,b⟩,c⟩,d⟩,e⟩,λx hx=>by simpa using f x hx⟩,λx hx=>by have:=g x hx;simp;omega⟩
def qO{a d:Ac}(h:fC a=true)(hp:d.Psks=a.Psks)(hj:dF d.J=true)(hd:BC d.D=true)(ht:UC d.T=true)(hc:gD d.Cr=true)(hi:∀e∈d.T.L,e.Id≤(a.Psks.length:Int)):fC d=true:=by
 have s:=MH.1 h;exact MH.2 ⟨by rw[hp];exact s.len,hj,hd,ht,hc,by rw[hp];exact s.psk,by rw[hp];exact hi⟩
def TE(l:List Au):Prop:=∀o∈l,MA o.To=true
theorem aI:TE []:=λ_ h=>nomatch h
theorem YN{o:Au}{l:List Au}:TE (o :: l)↔MA o.To=true∧TE l:=by simp[TE]
theorem zfO{l m:List Au}:TE (l++m)↔TE l∧TE m:=by
 simp only[TE,List.mem_append];exact⟨λh=>⟨λn k=>h n (.inl k),λn k=>h n (.inr k)⟩,λh n k=>k.elim (h.1 n) (h.2 n)⟩
theorem mG{s:Ah}(h:uC s=true):wt s≤235∧1≤s.Id∧s.Id≤9∧s.Cn.length=12∧s.Sn.length=12:=by
 have h1:=(NK h).1;simp only[uC,oA,Bool.and_eq_true,beq_iff_eq,pC]at h;omega
theorem CM{s:Ah}(h:uC s=true)(k:s.Dead=false):xC s.C=true∧s.C.Role=1∧s.C.Sn=s.Sn∧qC s.P=true∧MA s.P.At=true∧eA s.Last 0 1000000=true:=by
 simp only[uC,k,cond_false,Bool.and_eq_true,beq_iff_eq]at h;exact⟨h.2.1.1.1.1,h.2.1.1.1.2,h.2.1.1.2,h.2.1.2,(CJ.1 h.2.1.2).at_,h.2.2⟩
theorem rM{a:Ah}{c:Ak}{p:Aj}{l:Int}(h:uC a=true)(hc:xC c=true)(hr:c.Role=1)(hs:c.Sn=a.Sn)(hp:qC p=true)(hl:eA l 0 1000000=true)(k:a.Dead=false):
  RE a ⟨a.Id,a.Cn,a.Sn,c,p,a.Tick,l,a.Dead⟩:=by
 refine⟨?_,rfl,rfl,rfl,id⟩;simp only[uC,k,cond_false,Bool.and_eq_true,beq_iff_eq]at h⊢;exact⟨h.1,⟨⟨⟨hc,hr⟩,hs⟩,hp⟩,hl⟩
def zjj{a b c:Ah}(h:RE a b)(k:RE b c):RE a c:=⟨k.1,k.2.1.trans h.2.1,k.2.2.1.trans h.2.2.1,k.2.2.2.1.trans h.2.2.2.1,λd=>k.2.2.2.2 (h.2.2.2.2 d)⟩
def zlu{f:Aa}(h:wB f=true)(k:f.Kind=3):f.Cn.length=12∧f.Sn.length=12∧1≤f.Id∧f.Id≤9∧0≤f.Tick∧f.Tick≤1000000∧f.Cookie.length=16:=by
 unfold wB at h;rw[k]at h;have h:(f.Epoch==0&&f.Seq==0&&(f.Body.length:Int)==0&&(f.Tag.length:Int)==0&&(f.Cn.length:Int)==12&&(true&&eA f.Id 1 9&&(f.Sn.length:Int)==12&&eA f.Tick 0 1000000&&(f.Cookie.length:Int)==16&&(f.Proof.length:Int)==16))=true:=h;simp only[MG,beq_iff_eq,pC,true_and]at h;omega
theorem sV{f:Aa}(h:wB f=true)(k:f.Kind=2):f.Cn.length=12∧f.Sn.length=12∧0≤f.Tick∧f.Tick≤1000000∧f.Cookie.length=16∧f.Epoch=0∧f.Seq=0∧f.Body.length=0∧f.Tag.length=0:=by
 unfold wB at h;rw[k]at h;have h:(f.Epoch==0&&f.Seq==0&&(f.Body.length:Int)==0&&(f.Tag.length:Int)==0&&(f.Cn.length:Int)==12&&(f.Id==0&&(f.Sn.length:Int)==12&&eA f.Tick 0 1000000&&(f.Cookie.length:Int)==16&&(f.Proof.length:Int)==0))=true:=h;simp only[MG,beq_iff_eq,pC]at h;omega
def zf4{f:Aa}(h:wB f=true)(k:gC f.Kind=true):f.Sn.length=12∧0≤f.Epoch∧f.Epoch≤4294967295∧0≤f.Seq∧f.Seq≤281474976710655∧f.Body.length≤40:=by
 have hb:=pD h;unfold wB at h;rw[k,cond_true]at h;simp only[MG,beq_iff_eq,pC]at h;omega
def ztF{c:Int}{l:List Ah}{s:Ah}:0≤JE ⟨c,l++[s]⟩ s.Sn:=by
 unfold JE
 rcases AJ (l++[s]).length (lG ⟨c,l++[s]⟩ s.Sn)with⟨h3,h4⟩ | ⟨m,_,_,_,h4⟩
 ·have:=cS (i:=l.length) (by rw[h3];rfl) (by simp);simp[lG]at this
 ·rw[h4];omega
def zte{a:Ai}(h:MA a=true):qC ⟨a,[]⟩=true:=CJ.2 ⟨h,Nat.zero_le _,λ_ h=>(nomatch h), .nil⟩
def zwk{n:Int}(h:0≤n∧n≤1000000):YB .i64 2 n=2 *n:=by unfold YB;rw[XB (by omega) (by omega)]
def znj{c:Ad}(h:aC c=true)(k:c.St=3):xC c.C=true∧c.C.Role=0∧qD c.R=true∧c.R.On=decide ((c.C.Next.length:Int)>0)∧c.Cn.length=12:=by grind [aC,oA]
def zwc{t:Av}(h:qD t=true):t.On=true→(t.Wait=1∨t.Wait=2∨t.Wait=4∨t.Wait=8)∧(1≤t.Tries∧t.Tries≤5)∧0≤t.Due∧t.Due≤1000008:=by grind [qD,eA]
def zqg:Ok Kn λr=>bD r=true∧wt r=32∧r.Top= -1:=⟨_,rfl,by decide+kernel,rfl,rfl⟩
end Go.D
namespace Go.D
def zk4{f:Ai}:pI [] f:=λ_ h=>nomatch h
def zuQ:EO []:=λ_ h=>nomatch h
structure WoP(w:Ab):Prop where
 now:eA w.Now 0 1000000=true
 cl:w.Clients.length=2
 srv:fC w.S=true
 psl:w.S.Psks.length=2
 dice:BC w.D=true
 seen:WD w.Seen=true
 kl:w.Known.length≤12
 ci:∀(i:Nat) (c:Ad),w.Clients[i]?=some c→aC c=true∧c.Id=(i:Int)+1∧∀p,w.S.Psks[i]?=some p→c.Psk=p
 kn:∀b∈w.Known,b.length=32
 notes:FC w.Notes
def vF{w:Ab}:oB w=true↔WoP w:=by
 unfold oB TH;simp only[MG,Bool.not_eq_true',beq_iff_eq,decide_eq_true_eq,List.any_eq_false,TG];constructor
 ·rintro⟨⟨⟨⟨⟨⟨⟨⟨⟨h1,h2⟩,h3⟩,h4⟩,h5⟩,h6⟩,h7⟩,h8⟩,h9⟩,xW⟩;refine⟨h1,by omega,h3,by omega,h5,h6,by omega,λi c hc=>?_,λb hb=>by have:=h9 b hb;simp at this;omega,λn hn=>by simpa using xW n hn⟩;have hi:=(List.getElem?_eq_some_iff.1 hc).1;have:=h8 i (by omega);rw[hc,List.getElem?_eq_getElem (l:=w.S.Psks) (by omega)]at this;simp only[Option.any_some,Bool.or_eq_false_iff,Bool.not_eq_false',bne_eq_false_iff_eq,beq_iff_eq]at this;refine⟨this.1.1,by have:=this.1.2;omega,λp hp=>?_⟩;rw[List.getElem?_eq_getElem (by omega)]at hp;cases hp;exact this.2
 ·rintro⟨h1,h2,h3,h4,h5,h6,h7,h8,h9,xW⟩;refine⟨⟨⟨⟨⟨⟨⟨⟨⟨h1,by omega⟩,h3⟩,by omega⟩,h5⟩,h6⟩,by omega⟩,λi hi=>?_⟩,λb hb=>by have:=h9 b hb;simp;omega⟩,λn hn=>by simpa using xW n hn⟩;rw[List.getElem?_eq_getElem (l:=w.Clients) (by omega),List.getElem?_eq_getElem (l:=w.S.Psks) (by omega)];obtain⟨a,b,c⟩:=h8 i _ (List.getElem?_eq_getElem (by omega));have e:=c _ (List.getElem?_eq_getElem (by omega));simp only[Option.any_some,Bool.or_eq_false_iff,Bool.not_eq_false',bne_eq_false_iff_eq,beq_iff_eq];exact⟨⟨a,by omega⟩,e⟩
def zjK{w:Ab}{i:Nat}{c d:Ad}{ns:List Ae}(h:oB w=true)(hc:w.Clients[i]?=some c)(h1:aC d=true)(h2:d.Id=c.Id)(h3:d.Psk=c.Psk)(h4:FC ns):
  oB ⟨w.Now,w.Clients.set i d,w.S,w.D,w.Seen,w.Known,w.Notes++ns⟩=true:=by
 have p:=vF.1 h;obtain⟨_,q2,q3⟩:=p.ci i c hc;refine vF.2 ⟨p.now,by show(w.Clients.set i d).length=2;rw[List.length_set];exact p.cl,p.srv,p.psl,p.dice,p.seen,p.kl,λj e he=>?_,p.kn,nF.2 ⟨p.notes,h4⟩⟩;have he:(w.Clients.set i d)[j]?=some e:=he;rw[List.getElem?_set]at he
 by_cases V8:i=j
 ·subst V8;rw[if_pos rfl,if_pos (List.getElem?_eq_some_iff.1 hc).1]at he;cases he;exact⟨h1,h2.trans q2,λp hp=>h3.trans (q3 p hp)⟩
 ·rw[if_neg V8]at he;exact p.ci j e he
def zjB{w:Ab}{s:Ac}{ns:List Ae}(h:oB w=true)(h1:fC s=true)(h2:s.Psks=w.S.Psks)(h4:FC ns):oB ⟨w.Now,w.Clients,s,w.D,w.Seen,w.Known,w.Notes++ns⟩=true:=by
 have p:=vF.1 h;exact vF.2 ⟨p.now,p.cl,h1,by show s.Psks.length=2;rw[h2];exact p.psl,p.dice,p.seen,p.kl,λi c hc=>by have:=p.ci i c hc;rw[←h2]at this;exact this,p.kn,nF.2 ⟨p.notes,h4⟩⟩
def zvR{w:Ab}(h:oB w=true)(h1:w.Now≠1000000):oB ⟨iA .i64 w.Now 1,w.Clients,w.S,w.D,w.Seen,w.Known,w.Notes⟩=true:=by
 have p:=vF.1 h;have hn:=pC.1 p.now;exact vF.2 ⟨by rw[pC];show 0≤iA .i64 w.Now 1∧iA .i64 w.Now 1≤1000000;rw[DA (by omega) (by omega)];omega,p.cl,p.srv,p.psl,p.dice,p.seen,p.kl,p.ci,p.kn,p.notes⟩
def zuZ{w:Ab}{l:List Am}(h:oB w=true)(h1:WD l=true):oB ⟨w.Now,w.Clients,w.S,w.D,l,w.Known,w.Notes⟩=true:=by
 have p:=vF.1 h;exact vF.2 ⟨p.now,p.cl,p.srv,p.psl,p.dice,h1,p.kl,p.ci,p.kn,p.notes⟩
def zvN{w:Ab}{c:Ad}(h:oB w=true)(hc:c∈w.Clients):aC c=true:=by
 obtain⟨i,hi,rfl⟩:=List.getElem_of_mem hc;exact((vF.1 h).ci i _ (List.getElem?_eq_getElem hi)).1
def zlW{c:Ad}(h:aC c=true):MA c.At=true:=by grind [aC]
def zyF{c:Ad}(h:aC c=true)(k:c.St=1):CC c.Psk=true∧c.Cn.length=12∧yF c.R=true∧c.Last=0∧1≤c.Id∧c.Id≤9∧MA c.At=true:=by grind [aC,oA,eA]
def zwu{c:Ad}(h:aC c=true)(k:c.St=2∨c.St=3):xC c.C=true∧c.C.Role=0∧c.Cn.length=12∧qD c.R=true∧1≤c.Id∧c.Id≤9:=by grind [aC,UJ,oA,eA,qD,yF]
end Go.D

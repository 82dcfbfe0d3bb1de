/-
 The program's machine: what its parts' steps come to.
-/
import Derived.Test.YtmhnaidnoljllaaGreatN8g
import Derived.Test.YtmhnaidnoljllaaGreatN11
set_option linter.all false
namespace Go.D
def RJ{b:List UInt8}(h:mA b=true):b.length=12:=by
 simp only[mA,beq_iff_eq]at h;omega
def gI:∀l:List (List UInt8),l.flatten.length+l.length=wt l
 | []=>rfl
 | x :: l=>by
  have:=gI l;rw[List.flatten_cons,List.length_append,List.length_cons,VC,FA];omega
def zrp{l:List (List UInt8)}(h:wt l≤bA):Ok (XC l) λr=>r.length+l.length≤wt l:=LF h (by rw[gI];exact Nat.le_refl _)
def WF(w:Aa):Prop:=wt w.Clients≤702∧wt w.S≤3300∧wt w.Seen≤18090∧wt w.Known≤396∧w.D.Seed.length≤32∧TW w∧0≤w.Now∧w.Now≤1000000∧w.S.T.L.length≤12
def zbA{l:List Ak}(h:fE l=true):wt l≤18090∧l.length≤90:=by
 simp only[fE,Bool.and_eq_true,Bool.not_eq_true',decide_eq_true_eq]at h;obtain⟨h1,h2⟩:=h
 have:wt l≤(200+1) *l.length:=mM 200 l λx hx=>by
  have:=List.any_eq_false.1 h1 x hx;simp only[lE,Bool.not_eq_true',Bool.not_eq_false,Bool.and_eq_true,decide_eq_true_eq]at this;rw[zcA,FA,zE,zE];omega
 omega
def zuR{α:Type}:∀{l:List α},l.length=2→∃a b,l=[a,b]
 | [a,b],_=>⟨a,b,rfl⟩
def UJ{w:Aa}(h:ZA w=true):WF w:=by
 simp only[ZA,Bool.and_eq_true,uB,beq_iff_eq,decide_eq_true_eq,Bool.not_eq_true']at h;obtain⟨⟨⟨⟨⟨⟨⟨⟨⟨h1,h2⟩,h3⟩,h4⟩,h5⟩,h6⟩,h7⟩,h8⟩,h9⟩,_⟩:=h;have s:=oF h3;have d:=zfa h5;have se:=zbA h6
 have kn:wt w.Known≤(32+1) *w.Known.length:=mM 32 w.Known λx hx=>by
  have:=List.any_eq_false.1 h9 x hx;simp only[bne_iff_ne,ne_eq,Decidable.not_not]at this;rw[FA];omega
 have hl:w.Clients.length=2:=by omega
 have hp:w.S.Psks.length=2:=by omega
 obtain⟨a,b,e⟩:=zuR hl;have c0:=ZR (n:=2) (p:=GI w) (i:=0) (by rw[h8];rfl) (by omega);have c1:=ZR (n:=2) (p:=GI w) (i:=1) (by rw[h8];rfl) (by omega);unfold GI at c0 c1;rw[e,List.getElem?_eq_getElem (l:=w.S.Psks) (by omega)]at c0 c1;simp only[List.getElem?_cons_zero,List.getElem?_cons_succ,Option.any_some,Bool.or_eq_false_iff,Bool.not_eq_false',bne_eq_false_iff_eq]at c0 c1;have f0:=ID c0.1.1;have f1:=ID c1.1.1;have g0:=f0.1;have g1:=f1.1;refine⟨?_,s.1,se.1,by omega,d,⟨hl,?_,?_⟩,h1.1,h1.2,s.2.1⟩
 ·rw[e,VC,VC,zF];omega
 ·rw[e];exact c0.1.2
 ·rw[e];exact c1.1.2
def TO:∀w,WF w↔(wt w.Clients≤702∧wt w.S≤3300∧wt w.Seen≤18090∧wt w.Known≤396∧w.D.Seed.length≤32∧TW w∧0≤w.Now∧w.Now≤1000000∧w.S.T.L.length≤12):=λ_=>Iff.rfl
def Ok.we{α:Type}{o:Option α}{P:α→Prop}(h:Ok o P):Ok o λr=>P r∧o=some r:=by
 obtain⟨x,h1,h2⟩:=h;exact⟨x,h1,h2,h1⟩
def zfG(a b:Int):(sD a b≤a∧sD a b≤b)∧(sD a b=a∨sD a b=b):=by
 unfold sD;split<;>omega
def zts(a b:Int):(a≤pG a b∧b≤pG a b)∧(pG a b=a∨pG a b=b):=by
 unfold pG;split<;>omega
def zk7(k b:List UInt8):(IC k b).length=32∨(IC k b).length=0:=by
 unfold IC;cases h:decide ((k.length:Int)>1048576)||decide ((b.length:Int)>1048512)
 ·rw[Bool.or_eq_false_iff,decide_eq_false_iff_not,decide_eq_false_iff_not]at h;have:=aI (k:=k) (b:=b) (by omega) (by omega);unfold IC at this;rw[show(decide ((k.length:Int)>1048576)||decide ((b.length:Int)>1048512))=false by simp;omega]at this;exact .inl this
 ·exact .inr rfl
def zn9{a0 a1 a2}(ha:wt a1≤1000000000):Ok (Hz a0 a1 a2) λr=>r.length≤32∧(0≤a2∧a2≤6∧a1.length≤100∧a0.length≤1048576→r.length=32):=by
 have hL:=mB;unfold Hz;simp only[N]at ha;refine Ok.join (λy1:Bool=>(y1=true∧¬(0≤a2∧a2≤6∧a1.length≤100))∨(y1=false∧a1.length≤100)) (λy1 ZV=>?_) (λk2 IV=>?_)
 ·rcases ZV with⟨rfl,h⟩ | ⟨rfl,h⟩
  ·exact Ok.some' ⟨Nat.zero_le _,λk=>absurd ⟨k.1,k.2.1,k.2.2.1⟩ h⟩
  ·refine Ok.bind (zrp ?_) (λr3 pW=>?_)
   ·simp only[N];omega
   simp only[N]at pW;refine Ok.bind (yG ?_) (λr4 SV=>?_)
   ·simp only[N];omega
   exact Ok.some' ⟨XK _ _,λk=>aI k.2.2.2 (by omega)⟩
 refine Ok.cond' (λh2=>?_) (λh2=>?_)
 ·simp only[B]at h2;exact IV _ (.inl ⟨rfl,λk=>h2 ⟨k.1,k.2.1⟩⟩)
 ·simp only[B]at h2;refine IV _ ?_
  by_cases h:(a1.length:Int)>100
  ·exact .inl ⟨decide_eq_true h,λk=>by omega⟩
  ·exact .inr ⟨decide_eq_false h,by omega⟩
def zoq{a0 a1 a2}(ha:wt a1≤1000000000):Ok (Ia a0 a1 a2) λr=>r.length≤200∧((r.length:Int)=0∨(r.length:Int)=a2):=by
 have hL:=mB;unfold Ia;refine Ok.join (λy1:Bool=>y1=false→(0≤a2∧a2≤200∧a1.length≤100∧a0.length≤1048576)) (λy1 ZV=> .cond' (λ_=> .some' ⟨Nat.zero_le _, .inl rfl⟩) λe=>?_) (λk2 IV=>?_)
 ·have ZV:=ZV e;refine Ok.join (λy3:List UInt8=>a2≤(y3.length:Int)∧y3.length≤1000) (λy3 z6=>?_) (λk4 iW=>?_)
  ·refine Ok.chk ?_ ?_
   ·simp only[B];omega
   refine Ok.same (oA ?_) (Ok.some' ?_)<;>(simp only[N];omega)
  refine Ok.loop (λx5:(List UInt8)×Int=>0≤x5.2∧x5.2≤7∧(x5.1.length:Int)=32 *x5.2) (λx5=>(7 - x5.2).toNat) (λx5 V4 k6 EW=>?_) ?_ ?_
  ·refine Ok.cond' (λh1=>?_) (λh1=>?_)
   ·simp only[B]at h1;refine Ok.bind (zn9 ha) (λr7 FW=>?_);have h7:r7.length=32:=FW.2 (by omega);refine Ok.guard ?_ ?_
    ·simp only[N];omega
    have:=DA (a:=x5.2) (b:=1) (by omega) (by omega);refine EW _ ?_ ?_<;>(simp only[N];omega)
   ·simp only[B]at h1;refine iW _ ?_;omega
  ·simp only[N];omega
  ·simp only[N];omega
 refine Ok.cond' (λ_=>IV _ nofun) (λh2=>?_);simp only[B]at h2;refine Ok.cond' (λ_=>IV _ nofun) (λh3=>?_);simp only[B]at h3;refine IV _ λh=>?_;simp only[B]at h;omega
end Go.D
namespace Go.D
namespace Ok
variable {α β:Type} {P:β→Prop}
def kt{x y:Option β}(h:Ok x P):Ok (cond true x y) P:=h
def kf{x y:Option β}(h:Ok y P):Ok (cond false x y) P:=h
def j0{F:α→Option β}{G:(α→Option β)→Option β}(h:Ok (G F) P):Ok (aA F G) P:=h
def bm{γ:Type}[Wt γ]{l:List γ}{i:Int}{f:γ→Option β}(h0:0≤i)(h1:i<(l.length:Int))(k:∀x,x∈l→wt x+1≤wt l→Ok (f x) P):Ok (Option.bind (nA l i) f) P:= .bi h0 h1 λx h=>k x (List.mem_of_getElem? h)
end Ok
def TB(l:List Ad):Prop:=∀n∈l,nC n=true
theorem qC:TB []:=λ_ h=>nomatch h
theorem kD{n:Ad}{l:List Ad}:TB (n :: l)↔nC n=true∧TB l:=by simp[TB]
theorem jE{l m:List Ad}:TB (l++m)↔TB l∧TB m:=by
 simp only[TB,List.mem_append];exact⟨λh=>⟨λn k=>h n (.inl k),λn k=>h n (.inr k)⟩,λh n k=>k.elim (h.1 n) (h.2 n)⟩
def AS{n:Ad}(h:nC n=true):wt n≤156:=by
 simp only[nC,LC,tE,Bool.and_eq_true,Bool.or_eq_true,beq_iff_eq,decide_eq_true_eq]at h;simp only[N];omega
def kE{l:List Ad}(h:TB l):wt l≤157 *l.length:=mM 156 l λ_ k=>AS (h _ k)
theorem CG(b:List UInt8)(n k:Int):(rD b n k).length≤b.length+6∧(rD b n k).length=b.length+(if k<1 then 0 else if k>6 then 0 else k.toNat):=by
 unfold rD
 by_cases h1:k<1
 ·simp[h1]
 ·by_cases h2:k>6
  ·simp[h1,h2]
  ·simp[h1,h2,sN];omega
def PI(d:As):wt (QC d).1=wt d∧(QC d).2.length≤12∧(YB d=true→YB (QC d).1=true)∧(YB d=true→d.N≠10000→(QC d).2.length=12):=by
 unfold QC;cases h:YB d
 ·simp
 ·have h':=h;simp only[YB,Bool.and_eq_true,uB]at h'
  by_cases k:d.N=10000
  ·simp[k,h]
  ·have e:(d.N==10000)=false:=beq_false_of_ne k;rw[e];refine⟨rfl,qU _ _,λ_=>?_,λ_ _=>?_⟩
   ·show(eA (d.Seed.length:Int) 1 32&&eA (gA .i64 d.N 1) 0 10000)=true
    rw[DA (by omega) (by omega),Bool.and_eq_true,uB,uB];omega
   ·show(mE d.Seed d.N).length=12
    rw[mE,uB.2 h'.1,uB.2 h'.2];show(List.take 12 _).length=12
    rw[List.length_take,aI (by omega) (by
     rw[zbZ];omega)];rfl
def zbF(b:List UInt8):wt (xE b)=b.length:=by simp only[xE,dK,zE,FA,List.length_nil];omega
def za0{b:List UInt8}(h:b.length≤100):nC (xE b)=true:=by
 unfold xE;grind [nC,LC,tE,eA,GA]
def zji(p:Ah)(a:Af): -1≤qE p a∧qE p a<(p.Cands.length:Int):=by
 unfold qE
 rcases AJ p.Cands.length (qO p a)with⟨_,h⟩ | ⟨m,h1,_,_,h⟩<;>rw[h]<;>omega
def hM{k l:List UInt8}(h:k.length≤100)(hl:l.length≤100):(CM k l).length=32:=zqN (by omega) (by omega)
theorem GC{c:Am}(h:XB c=true):wt c≤172∧c.Sn.length=12∧c.Cur.Key.length=32∧c.Cur.Win.Bits.length=32∧0≤c.Cur.N∧c.Cur.N≤4294967295∧c.Next.length≤32∧0≤c.Cur.Seq∧c.Cur.Seq≤281474976710656:=by
 have h1:=(CU h).1;simp only[XB,JC,mA,Bool.and_eq_true,beq_iff_eq,uB]at h;have h2:=zfi h.1.1.2.2;simp only[fI]at h1;have:c.Next.length≤32:=by grind
 simp only[fI];omega
def epF{e:Av}(h:JC e=true):e.Key.length=32∧e.Win.Bits.length=32∧0≤e.N∧e.N≤4294967295∧0≤e.Seq∧e.Seq≤281474976710656:=by
 have h1:=PU h;simp only[JC,Bool.and_eq_true,beq_iff_eq,uB]at h;omega
def gH(f:Ab)(sn:List UInt8):Prop:=(f.Sn=[]∨f.Sn=sn)∧0≤f.Epoch∧f.Epoch≤4294967295∧0≤f.Seq∧f.Seq≤281474976710655
def sI(l:List Ak)(f:Af):Prop:=∀x∈l,lE x=true∧x.From=f
def SO(l:List Ak):Prop:=∀x∈l,x.To=LD
def zkT:GA LD=true:=rfl
theorem zbi(a b:Af):cond (a.Host==b.Host) (cond (a.Port==b.Port) (true) false) false=vB a b:=by
 unfold vB;cases a.Host==b.Host<;>cases a.Port==b.Port<;>rfl
end Go.D
namespace Go.D
def JG{a b:Bool}:(a&&b)=true↔a=true∧b=true:=Bool.and_eq_true_iff
def zfx{α:Type}{l:List α}{bad:α→Bool}{r:α→α→Bool}:
  wB l.length (λi=>(l[i]?).any λe=>bad e||wB i λj=>(l[j]?).any λd=>r d e)=false↔(∀e∈l,bad e=false)∧l.Pairwise (λd e=>r d e=false):=by
 rw[TG,List.pairwise_iff_getElem];constructor
 ·intro h;refine⟨λe he=>?_,λi j hi hj J4=>?_⟩
  ·obtain⟨i,hi,rfl⟩:=List.getElem_of_mem he;have:=h i hi;rw[List.getElem?_eq_getElem hi,Option.any_some,Bool.or_eq_false_iff]at this;exact this.1
  ·have:=h j hj;rw[List.getElem?_eq_getElem hj,Option.any_some,Bool.or_eq_false_iff,TG]at this;have:=this.2 i J4;rwa [List.getElem?_eq_getElem hi,Option.any_some]at this
 ·rintro⟨h1,h2⟩ i hi;rw[List.getElem?_eq_getElem hi,Option.any_some,Bool.or_eq_false_iff,TG];refine⟨h1 _ (List.getElem_mem hi),λj hj=>?_⟩;rw[List.getElem?_eq_getElem (by omega),Option.any_some];exact h2 j i (by omega) hi hj
structure zvp(p:Ah):Prop where
 at_:GA p.At=true
 len:p.Cands.length≤3
 el:∀e∈p.Cands,GA e.A=true∧mA e.Draw=true∧eA e.Until 0 1000006=true∧vB e.A p.At=false
 two:p.Cands.Pairwise λd e=>vB d.A e.A=false
def CJ{p:Ah}:gC p=true↔zvp p:=by
 unfold gC mO;rw[JG,JG,Bool.not_eq_true',zfx,decide_eq_true_eq];constructor
 ·rintro⟨⟨a,b⟩,c,d⟩;refine⟨a,by omega,λe he=>?_,d⟩;have:=c e he;simp only[Bool.or_eq_false_iff,Bool.not_eq_false']at this;exact⟨this.1.1.1,this.1.1.2,this.1.2,this.2⟩
 ·rintro⟨a,b,c,d⟩;refine⟨⟨a,by omega⟩,λe he=>?_,d⟩;obtain⟨h1,h2,h3,h4⟩:=c e he;rw[h1,h2,h3,h4];rfl
structure CrP(l:List Al):Prop where
 len:l.length≤8
 el:∀c∈l,GA c.A=true∧(0≤c.Got∧c.Got≤1000000)∧(0≤c.Sent∧c.Sent≤3 *c.Got)
 two:l.Pairwise λd e=>vB d.A e.A=false
def zf6{n:Int}(h:0≤n∧n≤1000000):KB .i64 3 n=3 *n:=by unfold KB;rw[IB (by omega) (by omega)]
def xT{l:List Al}:UC l=true↔CrP l:=by
 unfold UC ER HG;rw[JG,Bool.not_eq_true',zfx,decide_eq_true_eq];constructor
 ·rintro⟨b,c,d⟩;refine⟨by omega,λe he=>?_,d⟩;have:=c e he;simp only[Bool.or_eq_false_iff,Bool.not_eq_false']at this;have h2:=yD.1 this.1.2;have h3:=yD.1 this.2;rw[zf6 h2]at h3;exact⟨this.1.1,h2,h3⟩
 ·rintro⟨b,c,d⟩;refine⟨by omega,λe he=>?_,d⟩;obtain⟨h1,h2,h3⟩:=c e he;rw[h1,yD.2 h2,zf6 h2,yD.2 h3];rfl
def zkP{α:Type}{l:List α}{R:α→α→Prop}(h:l.Pairwise R){i:Nat}{x y:α}(hi:l[i]?=some y)(h1:∀z,R z y→R z x)(h2:∀z,R y z→R x z):(l.set i x).Pairwise R:=by
 obtain⟨hl,hy⟩:=List.getElem?_eq_some_iff.1 hi;rw[List.pairwise_iff_getElem]at h⊢;intro j k hj hk FY;rw[List.length_set]at hj hk;rw[List.getElem_set,List.getElem_set]
 by_cases e1:i=j
 ·have e2:i≠k:=by omega
  rw[if_pos e1,if_neg e2];refine h2 _ ?_;have:=h j k hj hk FY;subst e1;rwa [hy]at this
 ·rw[if_neg e1]
  by_cases e2:i=k
  ·rw[if_pos e2];refine h1 _ ?_;have:=h j k hj hk FY;subst e2;rwa [hy]at this
  ·rw[if_neg e2];exact h j k hj hk FY
def zfl{α:Type}{l:List α}{R:α→α→Prop}(h:l.Pairwise R){x:α}(hx:∀y∈l,R y x):(l++[x]).Pairwise R:=
 List.pairwise_append.2 ⟨h,List.pairwise_singleton _ _,λy hy z hz=>by rw[List.mem_singleton.1 hz];exact hx y hy⟩
theorem zfe{α:Type}{l:List α}{i:Nat}{x y:α}(h:y∈l.set i x):y∈l∨y=x:=List.mem_or_eq_of_mem_set h
def zrJ(l:List Al)(a:Af):(fB l a= -1∧∀c∈l,vB c.A a=false)∨∃(i:Nat) (c:Al),fB l a=(i:Int)∧l[i]?=some c∧vB c.A a=true:=by
 unfold fB
 rcases AJ l.length (HG l a)with⟨h,e⟩ | ⟨m,h1,h2,_,e⟩
 ·refine .inl ⟨e,λc hc=>?_⟩;obtain⟨i,hi,rfl⟩:=List.getElem_of_mem hc;have:=TG.1 h i hi;unfold HG at this;rwa [List.getElem?_eq_getElem hi,Option.any_some]at this
 ·refine .inr ⟨m,l[m],e,List.getElem?_eq_getElem h1,?_⟩;unfold HG at h2;rwa [List.getElem?_eq_getElem h1,Option.any_some]at h2
def lU{a b:Af}:vB a b=true↔a=b:=by
 unfold vB;rw[JG,beq_iff_eq,beq_iff_eq];obtain⟨_,_⟩:=a;obtain⟨_,_⟩:=b;simp
def GE(a d:Ai):Prop:=kC d=true∧d.Id=a.Id∧d.Sn=a.Sn∧d.Cn=a.Cn∧(a.Dead=true→d.Dead=true)
def NN{a:Ai}(h:kC a=true):GE a a:=⟨h,rfl,rfl,rfl,id⟩
def zfp(t:Ao)(h:t.L.length≤1000000):live t=(t.L.countP (λe=>!e.Dead):Int):=by
 unfold live
 have:∀(l:List Ai) (k:Nat),k+l.length≤1000000→l.foldl (λs e=>bif e.Dead then s else gA .i64 s 1) (k:Int)=((k+l.countP λe=>!e.Dead:Nat):Int):=λl=>by
  induction l with
  | nil=>intro k _;rfl
  | cons e l ih=>
   intro k hk;rw[List.foldl_cons];simp only[List.length_cons]at hk;cases h:e.Dead
   ·rw[cond_false,DA (by omega) (by omega),show(k:Int)+1=((k+1:Nat):Int) by omega,ih (k+1) (by omega),List.countP_cons_of_pos (by rw[h];rfl)];congr 1;omega
   ·rw[cond_true,ih k (by omega),List.countP_cons_of_neg (by rw[h];decide)]
 have:=this t.L 0 (by omega);rw[Nat.zero_add]at this;exact this
structure zxe(t:Ao):Prop where
 cap:1≤t.Cap∧t.Cap≤6
 len:t.L.length≤12
 live:(t.L.countP (λe=>!e.Dead):Int)≤t.Cap
 el:∀e∈t.L,kC e=true
 two:t.L.Pairwise λd e=>(d.Sn==e.Sn)=false
def KE{t:Ao}:OC t=true↔zxe t:=by
 unfold OC bL mG;rw[JG,JG,JG,Bool.not_eq_true',zfx,decide_eq_true_eq,decide_eq_true_eq,yD];constructor
 ·rintro⟨⟨⟨a,b⟩,l⟩,c,d⟩;exact⟨a,by omega,by rw[zfp t (by omega)]at l;exact l,λe he=>by have:=c e he;simpa using this,d⟩
 ·rintro⟨a,b,l,c,d⟩;exact⟨⟨⟨a,by omega⟩,by rw[zfp t (by omega)];exact l⟩,λe he=>by rw[c e he];rfl,d⟩
def zi8{α:Type}{p:α→Bool}{x y:α}(h:p x=true→p y=true):∀{l:List α} {i:Nat},l[i]?=some y→(l.set i x).countP p≤l.countP p
 | [],_,e=>by simp at e
 | z :: l,0,e=>by
  rw[List.getElem?_cons_zero,Option.some.injEq]at e;subst e;rw[List.set_cons_zero,List.countP_cons,List.countP_cons];cases hx:p x
  ·simp
  ·rw[h hx];simp
 | z :: l,i+1,e=>by
  rw[List.getElem?_cons_succ]at e;rw[List.set_cons_succ,List.countP_cons,List.countP_cons];have:=zi8 h e;omega
def ztm{t:Ao}{i:Nat}{a d:Ai}(h:OC t=true)(hi:t.L[i]?=some a)(k:GE a d):OC ⟨t.Cap,t.L.set i d⟩=true:=by
 have hp:=KE.1 h;refine KE.2 ⟨hp.cap,by show(t.L.set i d).length≤12;rw[List.length_set];exact hp.len,?_,λe he=>(zfe he).elim (hp.el e) λe=>by rw[e];exact k.1,zkP hp.two hi (λz hz=>by rw[k.2.2.1];exact hz) λz hz=>by rw[k.2.2.1];exact hz⟩
 have:=zi8 (p:=λe:Ai=>!e.Dead) (x:=d) (y:=a) (λhd=>by
  cases ha:a.Dead
  ·rfl
  ·rw[k.2.2.2.2 ha]at hd;exact hd) hi
 have:=hp.live;show((t.L.set i d).countP _:Int)≤t.Cap
 omega
def zpv{t:Ao}{b:List UInt8}(h:AE t b<0):∀e∈t.L,(e.Sn==b)=false:=by
 unfold AE at h
 rcases AJ t.L.length (mG t b)with⟨k,_⟩ | ⟨m,_,_,_,e⟩
 ·intro e he;obtain⟨i,hi,rfl⟩:=List.getElem_of_mem he;have:=TG.1 k i hi;unfold mG at this;rwa [List.getElem?_eq_getElem hi,Option.any_some]at this
 ·omega
def zsL{p:Ah}{l:List Aw}(h:gC p=true)(k:l.Sublist p.Cands):gC ⟨p.At,l⟩=true:=by
 have hp:=CJ.1 h;exact CJ.2 ⟨hp.at_,Nat.le_trans k.length_le hp.len,λe he=>hp.el e (k.subset he),hp.two.sublist k⟩
def zaz(p:Ah)(a:Af):(qE p a= -1∧∀c∈p.Cands,vB c.A a=false)∨∃(i:Nat) (c:Aw),qE p a=(i:Int)∧p.Cands[i]?=some c∧vB c.A a=true:=by
 unfold qE
 rcases AJ p.Cands.length (qO p a)with⟨h,e⟩ | ⟨m,h1,h2,_,e⟩
 ·refine .inl ⟨e,λc hc=>?_⟩;obtain⟨i,hi,rfl⟩:=List.getElem_of_mem hc;have:=TG.1 h i hi;unfold qO at this;rwa [List.getElem?_eq_getElem hi,Option.any_some]at this
 ·refine .inr ⟨m,p.Cands[m],e,List.getElem?_eq_getElem h1,?_⟩;unfold qO at h2;rwa [List.getElem?_eq_getElem h1,Option.any_some]at h2
def zsi{p:Ah}{a:Af}{d:List UInt8}{n:Int}(h:gC p=true)(h1:GA a=true)(h2:d.length=12)(h3:eA n 0 1000000=true)(h4:vB a p.At=false)(h5:qE p a<0)(h6:p.Cands.length≠3):
  gC ⟨p.At,p.Cands++[⟨a,d,gA .i64 n 6⟩]⟩=true:=by
 have hp:=CJ.1 h;have hn:=uB.1 h3;have hl:=hp.len
 rcases zaz p a with⟨_,k⟩ | ⟨i,_,e,_⟩
 ·refine CJ.2 ⟨hp.at_,by show(p.Cands++[_]).length≤3;rw[List.length_append];simp only[List.length_cons,List.length_nil];omega,λe he=>?_,zfl hp.two k⟩
  rcases List.mem_append.1 he with he | he
  ·exact hp.el e he
  ·rw[List.mem_singleton.1 he];exact⟨h1,by unfold mA;rw[beq_iff_eq];show(d.length:Int)=12;omega,by rw[uB];show 0≤gA .i64 n 6∧gA .i64 n 6≤_;rw[DA (by omega) (by omega)];omega,h4⟩
 ·omega
def zqd{p:Ah}{a:Af}(h:gC p=true)(k:0≤qE p a):
  gC ⟨a,List.take ((qE p a - 0).toNat) p.Cands++List.take (((p.Cands.length:Int) - gA .i64 (qE p a) 1).toNat) (List.drop ((gA .i64 (qE p a) 1).toNat) p.Cands)⟩=true:=by
 have hp:=CJ.1 h;have hl:=hp.len
 rcases zaz p a with⟨e,_⟩ | ⟨i,c,e,hi,hs⟩
 ·omega
 ·have E2:=(List.getElem?_eq_some_iff.1 hi).1;rw[e,DA (by omega) (by omega),show((i:Int) - 0).toNat=i by omega,show((i:Int)+1).toNat=i+1 by omega,List.take_of_length_le (l:=List.drop (i+1) p.Cands) (by rw[List.length_drop];omega), ←List.eraseIdx_eq_take_drop_succ];have sub:=List.eraseIdx_sublist p.Cands i;obtain⟨c1,c2,c3,c4⟩:=hp.el c (List.mem_of_getElem? hi);have hA:=lU.1 hs;refine CJ.2 ⟨hA▸c1,Nat.le_trans sub.length_le hl,λd hd=>?_,hp.two.sublist sub⟩;obtain⟨d1,d2,d3,_⟩:=hp.el d (sub.subset hd);refine⟨d1,d2,d3,?_⟩;obtain⟨j,hj,e2⟩:=List.mem_eraseIdx_iff_getElem.1 hd;obtain⟨hji,e3⟩:=e2;have two:=List.pairwise_iff_getElem.1 hp.two;have ec:=(List.getElem?_eq_some_iff.1 hi).2;show vB d.A a=false
  rw[←hA, ←e3, ←ec]
  rcases Nat.lt_or_ge j i with q | q
  ·exact two j i hj E2 q
  ·have:=two i j E2 hj (by omega);cases hx:vB (p.Cands[j]).A (p.Cands[i]).A
   ·rfl
   ·rw[lU.1 hx]at this;rw[lU.2 rfl]at this;exact this
def zk5{l:List Al}{i:Nat}{c:Al}{g s:Int}(h:UC l=true)(hi:l[i]?=some c)(hg:0≤g∧g≤1000000)(hs:0≤s∧s≤3 *g):UC (l.set i ⟨c.A,g,s⟩)=true:=by
 have hp:=xT.1 h;obtain⟨c1,c2,c3⟩:=hp.el c (List.mem_of_getElem? hi);exact xT.2 ⟨by rw[List.length_set];exact hp.len,λd hd=>(zfe hd).elim (hp.el d) λhd=>by rw[hd];exact⟨c1,hg,hs⟩,zkP hp.two hi (λ_ h=>h) λ_ h=>h⟩
def zfS{l:List Al}{i:Nat}{c:Al}(h:UC l=true)(hi:l[i]?=some c):(0≤c.Got∧c.Got≤1000000)∧(0≤c.Sent∧c.Sent≤3 *c.Got):=((xT.1 h).el c (List.mem_of_getElem? hi)).2
theorem zuV{l:List Al}{a:Af}{n:Int}(h:UC l=true)(h1:fB l a<0)(h2:l.length<8)(h3:GA a=true)(h4:eA n 0 1000000=true):UC (l++[⟨a,n,0⟩])=true:=by
 have hp:=xT.1 h;have hn:=uB.1 h4
 rcases zrJ l a with⟨_,k⟩ | ⟨i,_,e,_⟩
 ·refine xT.2 ⟨by rw[List.length_append];simp only[List.length_cons,List.length_nil];omega,λc hc=>?_,zfl hp.two k⟩
  rcases List.mem_append.1 hc with hc | hc
  ·exact hp.el c hc
  ·rw[List.mem_singleton.1 hc];exact⟨h3,hn,by show(0:Int)≤0∧0≤3 *n;omega⟩
 ·omega
theorem ztr{t:Ao}{s:Ai}(h:OC t=true)(h1:kC s=true)(h2:AE t s.Sn<0)(h3:live t≠t.Cap)(h4:t.L.length≠12):OC ⟨t.Cap,t.L++[s]⟩=true:=by
 have hp:=KE.1 h;have hl:=hp.live;have hn:=hp.len;rw[zfp t (by omega)]at h3;refine KE.2 ⟨hp.cap,?_,?_,λe he=>?_,zfl hp.two (zpv h2)⟩
 ·show(t.L++[s]).length≤12
  rw[List.length_append];simp only[List.length_cons,List.length_nil];omega
 ·show((t.L++[s]).countP _:Int)≤t.Cap
  rw[List.countP_append];have:[s].countP (λe=>!e.Dead)≤1:=List.countP_le_length;omega
 ·rcases List.mem_append.1 he with he | he
  ·exact hp.el e he
  ·rw[List.mem_singleton.1 he];exact h1
inductive F2:List Ai→List Ai→Prop
 | nil:F2 [] []
 | cons {a b:Ai} {l m:List Ai}:GE a b→F2 l m→F2 (a :: l) (b :: m)
def Tk(l m:List Ai):Prop:=∃l',l'.Sublist l∧F2 l' m
def zuZ:Tk [] []:=⟨[], .slnil, .nil⟩
def zt5{l m:List Ai}(e:Ai)(h:Tk l m):Tk (l++[e]) m:=by
 obtain⟨l',h1,h2⟩:=h;exact⟨l',h1.trans (List.sublist_append_left _ _),h2⟩
def zuG{l m:List Ai}{e d:Ai}(h:Tk l m)(k:GE e d):Tk (l++[e]) (m++[d]):=by
 obtain⟨l',h1,h2⟩:=h
 have f2:∀{a b:List Ai},F2 a b→F2 (a++[e]) (b++[d]):=λh=>by
  induction h with
  | nil=>exact .cons k .nil
  | cons x _ ih=>exact .cons x ih
 exact⟨l'++[e],h1.append (List.Sublist.refl _),f2 h2⟩
def zlc{l m:List Ai}{d:Ai}(h:Tk l m)(hd:d∈m):∃e∈l,GE e d:=by
 obtain⟨l',h1,h2⟩:=h
 have f2:∀{a b:List Ai},F2 a b→d∈b→∃e∈a,GE e d:=λh=>by
  induction h with
  | nil=>intro h;cases h
  | cons x _ ih=>
   intro h
   rcases List.mem_cons.1 h with rfl | h
   ·exact⟨_,List.mem_cons_self,x⟩
   ·obtain⟨e,he,k⟩:=ih h;exact⟨e,List.mem_cons_of_mem _ he,k⟩
 obtain⟨e,he,k⟩:=f2 h2 hd;exact⟨e,h1.subset he,k⟩
def zvo{t:Ao}{m:List Ai}(h:OC t=true)(k:Tk t.L m):OC ⟨t.Cap,m⟩=true:=by
 have hp:=KE.1 h;have hm:∀e∈m,kC e=true:=λe he=>by obtain⟨_,_,x⟩:=zlc k he;exact x.1
 obtain⟨l',h1,h2⟩:=k;have two:=hp.two.sublist h1;have cnt:=h1.countP_le (p:=λe=>!e.Dead);have len:=h1.length_le
 have f2:∀{a b:List Ai},F2 a b→a.length=b.length∧b.countP (λe=>!e.Dead)≤a.countP (λe=>!e.Dead)∧((∀s,(∀x∈a,(s==x.Sn)=false)→∀y∈b,(s==y.Sn)=false))∧(a.Pairwise (λd e=>(d.Sn==e.Sn)=false)→b.Pairwise λd e=>(d.Sn==e.Sn)=false):=λh=>by
  induction h with
  | nil=>exact⟨rfl,Nat.le_refl _,λ_ _ _ h=>(nomatch h),λ_=> .nil⟩
  | @cons x y a b hx _ ih=>
   obtain⟨i1,i2,i3,i4⟩:=ih;refine⟨by simp[i1],?_,λs hs z hz=>?_,λhp=>?_⟩
   ·rw[List.countP_cons,List.countP_cons];have:=hx.2.2.2.2;cases hxd:x.Dead<;>cases hyd:y.Dead<;>simp_all<;>omega
   ·rcases List.mem_cons.1 hz with rfl | hz
    ·rw[hx.2.2.1];exact hs _ List.mem_cons_self
    ·exact i3 s (λw hw=>hs w (List.mem_cons_of_mem _ hw)) z hz
   ·obtain⟨p1,p2⟩:=List.pairwise_cons.1 hp;refine List.pairwise_cons.2 ⟨λz hz=>?_,i4 p2⟩;rw[hx.2.2.1];exact i3 _ p1 z hz
 obtain⟨e1,e2,_,e4⟩:=f2 h2;have:=hp.len;have:=hp.live;refine KE.2 ⟨hp.cap,by show m.length≤12;omega,by show(m.countP _:Int)≤t.Cap;omega,hm,e4 two⟩
def take_succ{α:Type}{l:List α}{i:Nat}{e:α}(h:l[i]?=some e):l.take (i+1)=l.take i++[e]:=by
 rw[List.take_add_one,h];rfl
end Go.D
namespace Go.D
def zsq{m n:Nat}(hm:m<2^63):zB .i64 (m:Int) (n:Int)=((m&&&(n % 2^64):Nat):Int):=by
 unfold zB;show IntKind.wrap .i64 (((BitVec.ofInt 64 (m:Int)&&&BitVec.ofInt 64 (n:Int)).toNat:Nat):Int)=_
 rw[BitVec.ofInt_natCast,BitVec.ofInt_natCast,BitVec.toNat_and,BitVec.toNat_ofNat,BitVec.toNat_ofNat,Nat.mod_eq_of_lt (by omega)];have:=Nat.and_le_left (n:=m) (m:=n % 2^64);exact IB (by omega) (by omega)
def zr7{m k:Nat}(hk:k<32):uE .i64 (m:Int) (k:Int)=((m / 2^k:Nat):Int):=by
 unfold uE;show Int.fdiv (m:Int) (2^(min ((k:Int)).toNat 64))=_
 rw[Int.toNat_natCast,Nat.min_eq_left (by omega),Int.fdiv_eq_ediv_of_nonneg _ (by exact_mod_cast Nat.zero_le _)]
 norm_cast
def zjU{k:Nat}(hk:k<32):jJ .i64 1 (k:Int)=((2^k:Nat):Int):=by
 unfold jJ;show IntKind.wrap .i64 (1 *2^(min ((k:Int)).toNat 64))=_
 rw[Int.toNat_natCast,Nat.min_eq_left (by omega),Int.one_mul];have h:(2:Nat)^k≤2^32:=Nat.pow_le_pow_right (by omega) (by omega);have e:((2:Int)^k)=((2^k:Nat):Int):=by norm_cast
 rw[e];generalize (2:Nat)^k=p at h⊢;exact IB (by omega) (by omega)
def zsE{m k:Nat}(hm:m<2^32)(hk:k<32):(zB .i64 (uE .i64 (m:Int) (k:Int)) 1==1)=Nat.testBit m k:=by
 have hd:m / 2^k≤m:=Nat.div_le_self _ _;rw[zr7 hk,show(1:Int)=((1:Nat):Int)from rfl,zsq (by omega),Nat.testBit_eq_decide_div_mod_eq];rw[show(1 % 2^64:Nat)=1 from rfl,Nat.and_one_is_mod,Bool.eq_iff_iff,beq_iff_eq,decide_eq_true_eq];omega
def aV{m k:Nat}(hm:m<2^32)(hk:k<32):sK .i64 (m:Int) (jJ .i64 1 (k:Int))=((m|||2^k:Nat):Int)∧m|||2^k<2^32:=by
 have h:(2:Nat)^k<2^32:=Nat.pow_lt_pow_right (by omega) hk;have h2:m|||2^k<2^32:=Nat.or_lt_two_pow hm h
 refine⟨?_,h2⟩;rw[zjU hk];unfold sK;show IntKind.wrap .i64 (((BitVec.ofInt 64 (m:Int)|||BitVec.ofInt 64 ((2^k:Nat):Int)).toNat:Nat):Int)=_
 rw[BitVec.ofInt_natCast,BitVec.ofInt_natCast,BitVec.toNat_or,BitVec.toNat_ofNat,BitVec.toNat_ofNat,Nat.mod_eq_of_lt (by omega),Nat.mod_eq_of_lt (by omega)];exact IB (by omega) (by omega)
def FF(l:List Int):Prop:=l.length=32∧∀e∈l,0≤e∧e≤4294967295
def zo1{l:List Int}:uC l 32=true↔FF l:=by
 unfold uC FF;rw[Bool.and_eq_true,List.all_eq_true,beq_iff_eq];exact⟨λ⟨a,b⟩=>⟨by omega,λe he=>yD.1 (a e he)⟩,λ⟨a,b⟩=>⟨λe he=>yD.2 (b e he),by omega⟩⟩
def FF.get{l:List Int}(h:FF l){j:Nat}(hj:j<32):∃m:Nat,m<2^32∧l[j]?=some (m:Int):=by
 have hl:j<l.length:=by rw[h.1];exact hj
 have:=h.2 _ (List.getElem_mem hl);exact⟨(l[j]).toNat,by omega,by rw[List.getElem?_eq_getElem hl];congr 1;omega⟩
def FF.set{l:List Int}(h:FF l)(j:Nat){m:Nat}(hm:m<2^32):FF (l.set j (m:Int)):=by
 refine⟨by rw[List.length_set];exact h.1,λe he=>?_⟩
 rcases List.mem_or_eq_of_mem_set he with he | rfl
 ·exact h.2 e he
 ·omega
def WJ{w:Ap}(h:FF w.Bits){i m:Nat}(hi:w.Bits[i % 1024 / 32]?=some (m:Int))(hm:m<2^32):PC w i=Nat.testBit m (i % 32):=by
 unfold PC;rw[hi,Option.any_some];exact zsE hm (Nat.mod_lt _ (by omega))
def zjC{w:Ap}{t:Int}(h:FF w.Bits){n m:Nat}(hm:m<2^32)(hn:w.Bits[n % 1024 / 32]?=some (m:Int))(i:Nat):
  PC ⟨t,w.Bits.set (n % 1024 / 32) ((m|||2^(n % 1024 % 32):Nat):Int)⟩ i=(PC w i||decide (i % 1024=n % 1024)):=by
 have hk:n % 1024 % 32<32:=Nat.mod_lt _ (by omega);have ho:=(aV hm hk).2;have hj:n % 1024 / 32<32:=by omega
 by_cases e:i % 1024 / 32=n % 1024 / 32
 ·rw[WJ (w:=⟨t,_⟩) (h.set _ ho) (by show(w.Bits.set _ _)[i % 1024 / 32]?=_;rw[e,List.getElem?_set_self (by rw[h.1];exact hj)]) ho,Nat.testBit_or,WJ h (by rw[e];exact hn) hm,Nat.testBit_two_pow];congr 1;rw[decide_eq_decide];omega
 ·obtain⟨q,hq,O1⟩:=h.get (j:=i % 1024 / 32) (by omega);rw[WJ (w:=⟨t,_⟩) (h.set _ ho) (by show(w.Bits.set _ _)[i % 1024 / 32]?=_;rw[List.getElem?_set_ne (λx=>e x.symm)];exact O1) hq,WJ h O1 hq,decide_eq_false (by omega),Bool.or_false]
structure zxw(w:Ap):Prop where
 top: -1≤w.Top∧w.Top≤281474976710655
 words:FF w.Bits
 none:∀i:Nat,i<1024→w.Top<(i:Int)→PC w i=false
 bit:w.Top= -1∨PC w w.Top.toNat=true
def zbz{w:Ap}:RC w=true↔zxw w:=by
 unfold RC;rw[JG,JG,JG,yD,zo1,Bool.not_eq_true',TG,Bool.or_eq_true,beq_iff_eq];constructor
 ·rintro⟨⟨⟨a,b⟩,c⟩,d⟩;refine⟨a,b,λi hi ht=>?_,d⟩;have:=c i hi;rw[decide_eq_true ht,Bool.true_and]at this;exact this
 ·rintro⟨a,b,c,d⟩;refine⟨⟨⟨a,b⟩,λi hi=>?_⟩,d⟩
  by_cases ht:w.Top<(i:Int)
  ·rw[c i hi ht,Bool.and_false]
  ·rw[decide_eq_false ht,Bool.false_and]
def ziU{m k:Nat}(hm:m<2^32)(hk:k<32):∃c:Nat,zcg .i64 (m:Int) (jJ .i64 1 (k:Int))=(c:Int)∧c<2^32∧∀i,Nat.testBit c i=(Nat.testBit m i&&!decide (i=k)):=by
 have hp:(2:Nat)^k<2^32:=Nat.pow_lt_pow_right (by omega) hk;refine⟨(BitVec.ofNat 64 m&&& ~~~ BitVec.ofNat 64 (2^k)).toNat,?_,?_,λi=>?_⟩
 ·rw[zjU hk];unfold zcg;show IntKind.wrap .i64 (((BitVec.ofInt 64 (m:Int)&&& ~~~ BitVec.ofInt 64 ((2^k:Nat):Int)).toNat:Nat):Int)=_
  rw[BitVec.ofInt_natCast,BitVec.ofInt_natCast]
  have h1:(BitVec.ofNat 64 m&&& ~~~ BitVec.ofNat 64 (2^k)).toNat≤m:=by
   rw[BitVec.toNat_and,BitVec.toNat_ofNat,Nat.mod_eq_of_lt (by omega)];exact Nat.and_le_left
  exact IB (by omega) (by omega)
 ·rw[BitVec.toNat_and,BitVec.toNat_ofNat,Nat.mod_eq_of_lt (by omega)];exact Nat.lt_of_le_of_lt Nat.and_le_left hm
 ·rw[BitVec.toNat_and,BitVec.toNat_ofNat,Nat.mod_eq_of_lt (by omega),Nat.testBit_and]
  by_cases hi:i<64
  ·rw[BitVec.testBit_toNat,BitVec.getLsbD_not,decide_eq_true hi,Bool.true_and, ←BitVec.testBit_toNat,BitVec.toNat_ofNat,Nat.mod_eq_of_lt (by omega),Nat.testBit_two_pow];congr 2;rw[decide_eq_decide];exact eq_comm
  ·have:Nat.testBit m i=false:=Nat.testBit_lt_two_pow (Nat.lt_of_lt_of_le hm (Nat.pow_le_pow_right (by omega) (by omega)));rw[this,Bool.false_and,Bool.false_and]
def ziZ{w:Ap}{t:Int}(h:FF w.Bits){n c m:Nat}(hm:m<2^32)(hn:w.Bits[n % 1024 / 32]?=some (m:Int))(hc:c<2^32)(hs:∀i,Nat.testBit c i=(Nat.testBit m i&&!decide (i=n % 1024 % 32)))(i:Nat):
  PC ⟨t,w.Bits.set (n % 1024 / 32) (c:Int)⟩ i=(PC w i&&!decide (i % 1024=n % 1024)):=by
 have hj:n % 1024 / 32<32:=by omega
 by_cases e:i % 1024 / 32=n % 1024 / 32
 ·rw[WJ (w:=⟨t,_⟩) (h.set _ hc) (by show(w.Bits.set _ _)[i % 1024 / 32]?=_;rw[e,List.getElem?_set_self (by rw[h.1];exact hj)]) hc,hs,WJ h (by rw[e];exact hn) hm];congr 2;rw[decide_eq_decide];omega
 ·obtain⟨q,hq,O1⟩:=h.get (j:=i % 1024 / 32) (by omega);rw[WJ (w:=⟨t,_⟩) (h.set _ hc) (by show(w.Bits.set _ _)[i % 1024 / 32]?=_;rw[List.getElem?_set_ne (λx=>e x.symm)];exact O1) hq,WJ h O1 hq,decide_eq_false (by omega),Bool.not_false,Bool.and_true]
def ztT{v w:Ap}(hv:FF v.Bits)(hw:FF w.Bits)(ht:v.Top=w.Top)(h:∀i,i<1024→(PC v i=true↔PC w i=true)):v=w:=by
 obtain⟨t,l⟩:=v;obtain⟨t',l'⟩:=w;cases ht;congr 1;refine List.ext_getElem? λj=>?_
 by_cases hj:j<32
 ·obtain⟨a,a1,a2⟩:=hv.get hj;obtain⟨b,b1,b2⟩:=hw.get hj;rw[a2,b2];congr 2;refine Nat.eq_of_testBit_eq λk=>?_
  by_cases hk:k<32
  ·have e:=h (32 *j+k) (by omega);have q:(32 *j+k) % 1024 / 32=j:=by omega
   rw[WJ hv (by rw[q];exact a2) a1,WJ hw (by rw[q];exact b2) b1,show(32 *j+k) % 32=k by omega]at e;exact Bool.eq_iff_iff.2 e
  ·rw[Nat.testBit_lt_two_pow (Nat.lt_of_lt_of_le a1 (Nat.pow_le_pow_right (by omega) (by omega))),Nat.testBit_lt_two_pow (Nat.lt_of_lt_of_le b1 (Nat.pow_le_pow_right (by omega) (by omega)))]
 ·rw[List.getElem?_eq_none (by rw[hv.1];omega),List.getElem?_eq_none (by rw[hw.1];omega)]
def MH(a b:Int)(i:Nat):Prop:=∃q:Int,a≤q∧q<b∧q % 1024=(i:Int) % 1024
def dO{a b:Int}{i:Nat}(h:b≤a):¬MH a b i:=λ⟨q,h1,h2,_⟩=>by omega
def zjY{a b:Int}{i:Nat}(h:a≤b):MH a (b+1) i↔MH a b i∨b % 1024=(i:Int) % 1024:=by
 constructor
 ·rintro⟨q,h1,h2,h3⟩
  by_cases e:q=b
  ·exact .inr (e▸h3)
  ·exact .inl ⟨q,h1,by omega,h3⟩
 ·rintro(⟨q,h1,h2,h3⟩ | h3)
  ·exact⟨q,h1,by omega,h3⟩
  ·exact⟨b,h,by omega,h3⟩
def zkz{a b:Int}{i:Nat}(h:a+1024≤b):MH a b i:=⟨a+((i:Int) - a) % 1024,by omega,by omega,by omega⟩
def zrF{a n:Int}{i:Nat}(hi:(i:Int) % 1024≠n % 1024){s:Int}(hs:s=a∧n - 1023≤a∨s=n - 1023∧a≤n - 1023):MH s n i↔MH a (n+1) i:=by
 constructor
 ·rintro⟨q,h1,h2,h3⟩;exact⟨q,by omega,by omega,h3⟩
 ·rintro⟨q,h1,h2,h3⟩;exact⟨n - (n - q) % 1024,by omega,by omega,by omega⟩
structure nL(a:Ap)(n:Nat)(w:Ap):Prop where
 top:w.Top=pG a.Top (n:Int)
 words:FF w.Bits
 bits:∀i,PC w i=true↔(PC a i=true∧¬MH (a.Top+1) ((n:Int)+1) i)∨(i:Int) % 1024=(n:Int) % 1024
def nL.same{a v w:Ap}{n:Nat}(h:nL a n v)(k:nL a n w):v=w:=ztT h.words k.words (h.top.trans k.top.symm) λi _=>(h.bits i).trans (k.bits i).symm
def zcD{i n:Nat}:decide (i % 1024=n % 1024)=true↔(i:Int) % 1024=(n:Int) % 1024:=by rw[decide_eq_true_eq];omega
def fK(w:Ap)(n:Int):Bool:=eA n 0 281474976710655&&(decide (n>w.Top)||(decide (n≥w.Top - 1023)&&!PC w n.toNat))
def zdT{a0 a1}(h:RC a0=true):Ok (Ck a0 a1) λr=>r=fK a0 a1:=by
 have hw:=zfi h;unfold Ck fK;rw[h,SA (a:=a0.Top) (b:=1024) (by omega) (by omega),DA (a:=a0.Top - 1024) (b:=1) (by omega) (by omega),show a0.Top - 1024+1=a0.Top - 1023 by omega];refine .j0 (.c nofun λ_=>?_);cases hi:eA a1 0 281474976710655
 ·exact .s rfl
 ·have:=uB.1 hi;refine .kf (.j0 (.c (λh=> .s (by rw[h];rfl)) λh=> .c (λk=> .m (oA ⟨by omega,hw.1⟩) (.s (by rw[h,k];rfl))) λk=> .s (by rw[h,k];rfl)))
def zsh{a w:Ap}{n:Int}(h:RC a=true)(m:fK a n=true)(k:nL a n.toNat w):RC w=true:=by
 have hp:=zbz.1 h;simp only[fK,Bool.and_eq_true,uB]at m;obtain⟨i,rfl⟩:=Int.eq_ofNat_of_zero_le m.1.1;have hx:=zts a.Top (i:Int);have ht:=k.top;have hb:=k.bits;rw[Int.toNat_natCast]at ht hb;have T4:=hp.top;refine zbz.2 ⟨by rw[ht];omega,k.words,λj hj hjt=>?_, .inr ?_⟩
 ·cases nY:PC w j
  ·rfl
  ·rcases(hb j).1 nY with⟨b1,_⟩ | b1
   ·have:=hp.none j hj (by omega);rw[b1]at this;exact this
   ·omega
 ·rcases hx.2 with e | e
  ·rcases hp.bit with q | q
   ·rw[hb];right;rw[ht,e];omega
   ·rw[hb]
    by_cases e2:a.Top=(i:Int)
    ·right;rw[ht,e];omega
    ·left;rw[ht,e];exact⟨q,dO (by omega)⟩
  ·rw[hb];right;rw[ht,e];omega
def zdV{a0 a1}(h:RC a0=true):Ok (De a0 a1) λr=>r.2=fK a0 a1∧(r.2=false→r.1=a0)∧(r.2=true→nL a0 a1.toNat r.1)∧RC r.1=true:=by
 suffices key:Ok (De a0 a1) λr=>r.2=fK a0 a1∧(r.2=false→r.1=a0)∧(r.2=true→nL a0 a1.toNat r.1)from key.mono λr ⟨k1,k2,k3⟩=>⟨k1,k2,k3,by
  cases e:r.2
  ·rw[k2 e];exact h
  ·exact zsh h (by rw[←k1];exact e) (k3 e)⟩
 have hL:=mB;have hw:=zbz.1 h;have hwt:wt a0=32:=by have:=hw.words.1;simp only[N];exact this
 unfold De;refine Ok.same (oA (p:=wt a0≤bA) (by omega)) ?_;refine Ok.bind (zdT h) (λr2 DW=>?_);rw[←DW];refine Ok.cond' (λe=>Ok.some' ⟨(by simpa using e:r2=false).symm,λ_=>rfl,nofun⟩) (λh'=>?_);simp only[B]at h';have ht:=hw.top
 have hm:True∧0≤a1∧a1≤281474976710655:=by
  rw[DW]at h';simp only[fK,Bool.and_eq_true,uB]at h';exact⟨trivial,h'.1⟩
 rw[h'];clear DW;obtain⟨n,rfl⟩:=Int.eq_ofNat_of_zero_le hm.2.1;have e1:=MS (n:=(n:Int)) (by omega);have e2:=JS (n:=(n:Int) % 1024) (by omega) (by omega);have e3:=pO (a:=(n:Int)) (b:=32) (by omega);rw[e1,e2,e3];have q1:((n:Int) % 1024 / 32).toNat=n % 1024 / 32:=by omega
 have q2:(n:Int) % 32=((n % 1024 % 32:Nat):Int):=by omega
 have s1:=DA (a:=a0.Top) (b:=1) (by omega) (by omega);have s2:=SA (a:=(n:Int)) (b:=1024) (by omega) (by omega);have s3:=DA (a:=(n:Int) - 1024) (b:=1) (by omega) (by omega)
 have hs:(pG (gA .i64 a0.Top 1) (gA .i64 (qA .i64 (n:Int) 1024) 1)=a0.Top+1∧(n:Int) - 1023≤a0.Top+1)∨(pG (gA .i64 a0.Top 1) (gA .i64 (qA .i64 (n:Int) 1024) 1)=(n:Int) - 1023∧a0.Top+1≤(n:Int) - 1023):=by
  rw[s2,s3,s1];unfold pG;split<;>omega
 generalize pG (gA .i64 a0.Top 1) (gA .i64 (qA .i64 (n:Int) 1024) 1)=s at hs⊢;refine Ok.join (λy:Ap=>FF y.Bits∧y.Top=a0.Top∧∀i,PC y i=true↔PC a0 i=true∧¬MH s (n:Int) i) (λy hy=>?_) (λk hk=>?_)
 ·obtain⟨w1,w2,w3⟩:=hy;obtain⟨m,m1,m2⟩:=w1.get (j:=n % 1024 / 32) (by omega);have hl:=w1.1;refine Ok.chk ?_ ?_
  ·simp only[B];omega
  rw[q1,m2,Option.bind_some];refine Ok.chkn ?_ ?_
  ·simp only[B];omega
  refine Ok.chk ?_ ?_
  ·simp only[B];omega
  rw[Option.bind_some,q2,(aV m1 (by omega)).1];refine Ok.some' ⟨rfl,nofun,λ_=>⟨rfl,w1.set _ (aV m1 (by omega)).2,λi=>?_⟩⟩;rw[Int.toNat_natCast,zjC (w:=y) (t:=pG a0.Top (n:Int)) w1 m1 m2,Bool.or_eq_true,w3,zcD]
  by_cases e:(i:Int) % 1024=(n:Int) % 1024
  ·simp only[e,or_true]
  ·rw[zrF e hs]
 ·refine Ok.loop (λx:Int×Ap=>(0≤x.1∧s≤x.1∧(x.1=s∨x.1≤(n:Int)))∧FF x.2.Bits∧x.2.Top=a0.Top∧∀i,PC x.2 i=true↔PC a0 i=true∧¬MH s x.1 i)
   (λx=>((n:Int) - x.1).toNat) (λx hx k' NW=>?_) ?_ ?_
  ·obtain⟨x0,x1,x2,x3⟩:=hx;obtain⟨p,hp⟩:=Int.eq_ofNat_of_zero_le x0.1;have f1:=MS x0.1;have f2:=JS (n:=x.1 % 1024) (by omega) (by omega);have f3:=pO (a:=x.1) (b:=32) (by omega);rw[f1,f2,f3];have p1:(x.1 % 1024 / 32).toNat=p % 1024 / 32:=by omega
   have p2:x.1 % 32=((p % 1024 % 32:Nat):Int):=by omega
   refine Ok.cond' (λhy=>?_) (λhy=>hk _ ⟨x1,x2,λi=>?_⟩)
   ·simp only[B]at hy;obtain⟨m,m1,m2⟩:=x1.get (j:=p % 1024 / 32) (by omega);have hl:=x1.1;refine Ok.chk ?_ ?_
    ·simp only[B];omega
    rw[p1,m2,Option.bind_some];refine Ok.chkn ?_ ?_
    ·simp only[B];omega
    refine Ok.chk ?_ ?_
    ·simp only[B];omega
    rw[Option.bind_some,p2];obtain⟨c,c1,c2,c3⟩:=ziU (k:=p % 1024 % 32) m1 (by omega);rw[c1];have g1:=DA (a:=x.1) (b:=1) (by omega) (by omega);refine NW _ ?_ ?_
    ·refine⟨by simp only;omega,x1.set _ c2,x2,λi=>?_⟩;show PC ⟨x.2.Top,_⟩ i=true↔_∧¬MH _ (gA .i64 x.1 1) i
     rw[g1,ziZ x1 m1 m2 c2 c3,Bool.and_eq_true,x3,zjY (by omega),Bool.not_eq_true', ←Bool.not_eq_true,zcD,hp,not_or,and_assoc,eq_comm (a:=(i:Int) % 1024)]
    ·simp only;omega
   ·simp only[B]at hy;rw[x3]
    rcases x0.2.2 with e | e
    ·exact and_congr_right λ_=>not_congr ⟨λc=>absurd c (dO (by omega)),λc=>absurd c (dO (by omega))⟩
    ·rw[show x.1=(n:Int) by omega]
  ·have ht:=hw.top;exact⟨⟨by simp only;omega,by simp only;omega, .inl rfl⟩,hw.words,rfl,λi=>⟨λh=>⟨h,dO (Int.le_refl _)⟩,λh=>h.1⟩⟩
  ·simp only;omega
end Go.D
namespace Go.D
structure SvP(s:Ac):Prop where
 len:1≤s.Psks.length∧s.Psks.length≤9
 jar:UE s.J=true
 dice:YB s.D=true
 tab:OC s.T=true
 cr:UC s.Cr=true
 psk:∀b∈s.Psks,vC b=true
 id:∀e∈s.T.L,e.Id≤(s.Psks.length:Int)
def IE{s:Ac}:BB s=true↔SvP s:=by
 unfold BB;simp only[JG,uB,Bool.not_eq_true',List.any_eq_false,Bool.not_eq_true,Bool.not_eq_false',decide_eq_false_iff_not,Bool.not_eq_false];constructor
 ·rintro⟨⟨⟨⟨⟨⟨a,b⟩,c⟩,d⟩,e⟩,f⟩,g⟩;exact⟨by omega,b,c,d,e,λx hx=>by simpa using f x hx,λx hx=>by have:=g x hx;simp at this;omega⟩
 ·rintro⟨a,b,c,d,e,f,g⟩;exact⟨⟨⟨⟨⟨⟨by omega,b⟩,c⟩,d⟩,e⟩,λx hx=>by simpa using f x hx⟩,λx hx=>by have:=g x hx;simp;omega⟩
def cJ{a d:Ac}(h:BB a=true)(hp:d.Psks=a.Psks)(hj:UE d.J=true)(hd:YB d.D=true)(ht:OC d.T=true)(hc:UC d.Cr=true)(hi:∀e∈d.T.L,e.Id≤(a.Psks.length:Int)):BB d=true:=by
 have s:=IE.1 h;exact IE.2 ⟨by rw[hp];exact s.len,hj,hd,ht,hc,by rw[hp];exact s.psk,by rw[hp];exact hi⟩
def vE(l:List Aq):Prop:=∀o∈l,GA o.To=true
theorem UG:vE []:=λ_ h=>nomatch h
theorem fO{o:Aq}{l:List Aq}:vE (o :: l)↔GA o.To=true∧vE l:=by simp[vE]
theorem zfw{l m:List Aq}:vE (l++m)↔vE l∧vE m:=by
 simp only[vE,List.mem_append];exact⟨λh=>⟨λn k=>h n (.inl k),λn k=>h n (.inr k)⟩,λh n k=>k.elim (h.1 n) (h.2 n)⟩
theorem TE{s:Ai}(h:kC s=true):wt s≤235∧1≤s.Id∧s.Id≤9∧s.Cn.length=12∧s.Sn.length=12:=by
 have h1:=(SK h).1;simp only[kC,mA,Bool.and_eq_true,beq_iff_eq,uB]at h;omega
theorem GM{s:Ai}(h:kC s=true)(k:s.Dead=false):XB s.C=true∧s.C.Role=1∧s.C.Sn=s.Sn∧gC s.P=true∧GA s.P.At=true∧eA s.Last 0 1000000=true:=by
 simp only[kC,k,cond_false,Bool.and_eq_true,beq_iff_eq]at h;exact⟨h.2.1.1.1.1,h.2.1.1.1.2,h.2.1.1.2,h.2.1.2,(CJ.1 h.2.1.2).at_,h.2.2⟩
theorem uM{a:Ai}{c:Am}{p:Ah}{l:Int}(h:kC a=true)(hc:XB c=true)(hr:c.Role=1)(hs:c.Sn=a.Sn)(hp:gC p=true)(hl:eA l 0 1000000=true)(k:a.Dead=false):
  GE a ⟨a.Id,a.Cn,a.Sn,c,p,a.Tick,l,a.Dead⟩:=by
 refine⟨?_,rfl,rfl,rfl,id⟩;simp only[kC,k,cond_false,Bool.and_eq_true,beq_iff_eq]at h⊢;exact⟨h.1,⟨⟨⟨hc,hr⟩,hs⟩,hp⟩,hl⟩
def ziA{a b c:Ai}(h:GE a b)(k:GE b c):GE a c:=⟨k.1,k.2.1.trans h.2.1,k.2.2.1.trans h.2.2.1,k.2.2.2.1.trans h.2.2.2.1,λd=>k.2.2.2.2 (h.2.2.2.2 d)⟩
def zkK{f:Ab}(h:oB f=true)(k:f.Kind=3):f.Cn.length=12∧f.Sn.length=12∧1≤f.Id∧f.Id≤9∧0≤f.Tick∧f.Tick≤1000000∧f.Cookie.length=16:=by
 unfold oB at h;rw[k]at h;have h:(f.Epoch==0&&f.Seq==0&&(f.Body.length:Int)==0&&(f.Tag.length:Int)==0&&(f.Cn.length:Int)==12&&(true&&eA f.Id 1 9&&(f.Sn.length:Int)==12&&eA f.Tick 0 1000000&&(f.Cookie.length:Int)==16&&(f.Proof.length:Int)==16))=true:=h;simp only[JG,beq_iff_eq,uB,true_and]at h;omega
theorem UU{f:Ab}(h:oB f=true)(k:f.Kind=2):f.Cn.length=12∧f.Sn.length=12∧0≤f.Tick∧f.Tick≤1000000∧f.Cookie.length=16∧f.Epoch=0∧f.Seq=0∧f.Body.length=0∧f.Tag.length=0:=by
 unfold oB at h;rw[k]at h;have h:(f.Epoch==0&&f.Seq==0&&(f.Body.length:Int)==0&&(f.Tag.length:Int)==0&&(f.Cn.length:Int)==12&&(f.Id==0&&(f.Sn.length:Int)==12&&eA f.Tick 0 1000000&&(f.Cookie.length:Int)==16&&(f.Proof.length:Int)==0))=true:=h;simp only[JG,beq_iff_eq,uB]at h;omega
def zfN{f:Ab}(h:oB f=true)(k:PB f.Kind=true):f.Sn.length=12∧0≤f.Epoch∧f.Epoch≤4294967295∧0≤f.Seq∧f.Seq≤281474976710655∧f.Body.length≤40:=by
 have hb:=jD h;unfold oB at h;rw[k,cond_true]at h;simp only[JG,beq_iff_eq,uB]at h;omega
def zsp{c:Int}{l:List Ai}{s:Ai}:0≤AE ⟨c,l++[s]⟩ s.Sn:=by
 unfold AE
 rcases AJ (l++[s]).length (mG ⟨c,l++[s]⟩ s.Sn)with⟨h3,h4⟩ | ⟨m,_,_,_,h4⟩
 ·have:=ZR (i:=l.length) (by rw[h3];rfl) (by simp);simp[mG]at this
 ·rw[h4];omega
def zrY{a:Af}(h:GA a=true):gC ⟨a,[]⟩=true:=CJ.2 ⟨h,Nat.zero_le _,λ_ h=>(nomatch h), .nil⟩
def zvl{n:Int}(h:0≤n∧n≤1000000):KB .i64 2 n=2 *n:=by unfold KB;rw[IB (by omega) (by omega)]
def zmk{c:Ae}(h:dB c=true)(k:c.St=3):XB c.C=true∧c.C.Role=0∧NC c.R=true∧c.R.On=decide ((c.C.Next.length:Int)>0)∧c.Cn.length=12:=by grind [dB,mA]
def zva{t:Au}(h:NC t=true):t.On=true→(t.Wait=1∨t.Wait=2∨t.Wait=4∨t.Wait=8)∧(1≤t.Tries∧t.Tries≤5)∧0≤t.Due∧t.Due≤1000008:=by grind [NC,eA]
def zoQ:Ok Jo λr=>RC r=true∧wt r=32∧r.Top= -1:=⟨_,rfl,by decide+kernel,rfl,rfl⟩
end Go.D
namespace Go.D
def zkh{f:Af}:sI [] f:=λ_ h=>nomatch h
def ztF:SO []:=λ_ h=>nomatch h
structure WoP(w:Aa):Prop where
 now:eA w.Now 0 1000000=true
 cl:w.Clients.length=2
 srv:BB w.S=true
 psl:w.S.Psks.length=2
 dice:YB w.D=true
 seen:fE w.Seen=true
 kl:w.Known.length≤12
 ci:∀(i:Nat) (c:Ae),w.Clients[i]?=some c→dB c=true∧c.Id=(i:Int)+1∧∀p,w.S.Psks[i]?=some p→c.Psk=p
 kn:∀b∈w.Known,b.length=32
 notes:TB w.Notes
def SB{w:Aa}:ZA w=true↔WoP w:=by
 unfold ZA GI;simp only[JG,Bool.not_eq_true',beq_iff_eq,decide_eq_true_eq,List.any_eq_false,TG];constructor
 ·rintro⟨⟨⟨⟨⟨⟨⟨⟨⟨h1,h2⟩,h3⟩,h4⟩,h5⟩,h6⟩,h7⟩,h8⟩,h9⟩,mW⟩;refine⟨h1,by omega,h3,by omega,h5,h6,by omega,λi c hc=>?_,λb hb=>by have:=h9 b hb;simp at this;omega,λn hn=>by simpa using mW n hn⟩;have hi:=(List.getElem?_eq_some_iff.1 hc).1;have:=h8 i (by omega);rw[hc,List.getElem?_eq_getElem (l:=w.S.Psks) (by omega)]at this;simp only[Option.any_some,Bool.or_eq_false_iff,Bool.not_eq_false',bne_eq_false_iff_eq,beq_iff_eq]at this;refine⟨this.1.1,by have:=this.1.2;omega,λp hp=>?_⟩;rw[List.getElem?_eq_getElem (by omega)]at hp;cases hp;exact this.2
 ·rintro⟨h1,h2,h3,h4,h5,h6,h7,h8,h9,mW⟩;refine⟨⟨⟨⟨⟨⟨⟨⟨⟨h1,by omega⟩,h3⟩,by omega⟩,h5⟩,h6⟩,by omega⟩,λi hi=>?_⟩,λb hb=>by have:=h9 b hb;simp;omega⟩,λn hn=>by simpa using mW n hn⟩;rw[List.getElem?_eq_getElem (l:=w.Clients) (by omega),List.getElem?_eq_getElem (l:=w.S.Psks) (by omega)];obtain⟨a,b,c⟩:=h8 i _ (List.getElem?_eq_getElem (by omega));have e:=c _ (List.getElem?_eq_getElem (by omega));simp only[Option.any_some,Bool.or_eq_false_iff,Bool.not_eq_false',bne_eq_false_iff_eq,beq_iff_eq];exact⟨⟨a,by omega⟩,e⟩
def zeI{w:Aa}{i:Nat}{c d:Ae}{ns:List Ad}(h:ZA w=true)(hc:w.Clients[i]?=some c)(h1:dB d=true)(h2:d.Id=c.Id)(h3:d.Psk=c.Psk)(h4:TB ns):
  ZA ⟨w.Now,w.Clients.set i d,w.S,w.D,w.Seen,w.Known,w.Notes++ns⟩=true:=by
 have p:=SB.1 h;obtain⟨_,q2,q3⟩:=p.ci i c hc;refine SB.2 ⟨p.now,by show(w.Clients.set i d).length=2;rw[List.length_set];exact p.cl,p.srv,p.psl,p.dice,p.seen,p.kl,λj e he=>?_,p.kn,jE.2 ⟨p.notes,h4⟩⟩;have he:(w.Clients.set i d)[j]?=some e:=he;rw[List.getElem?_set]at he
 by_cases J4:i=j
 ·subst J4;rw[if_pos rfl,if_pos (List.getElem?_eq_some_iff.1 hc).1]at he;cases he;exact⟨h1,h2.trans q2,λp hp=>h3.trans (q3 p hp)⟩
 ·rw[if_neg J4]at he;exact p.ci j e he
def zeF{w:Aa}{s:Ac}{ns:List Ad}(h:ZA w=true)(h1:BB s=true)(h2:s.Psks=w.S.Psks)(h4:TB ns):ZA ⟨w.Now,w.Clients,s,w.D,w.Seen,w.Known,w.Notes++ns⟩=true:=by
 have p:=SB.1 h;exact SB.2 ⟨p.now,p.cl,h1,by show s.Psks.length=2;rw[h2];exact p.psl,p.dice,p.seen,p.kl,λi c hc=>by have:=p.ci i c hc;rw[←h2]at this;exact this,p.kn,jE.2 ⟨p.notes,h4⟩⟩
def ztu{w:Aa}{d:As}(h:ZA w=true)(h1:YB d=true):ZA ⟨w.Now,w.Clients,w.S,d,w.Seen,w.Known,w.Notes⟩=true:=by
 have p:=SB.1 h;exact SB.2 ⟨p.now,p.cl,p.srv,p.psl,h1,p.seen,p.kl,p.ci,p.kn,p.notes⟩
def zuO{w:Aa}(h:ZA w=true)(h1:w.Now≠1000000):ZA ⟨gA .i64 w.Now 1,w.Clients,w.S,w.D,w.Seen,w.Known,w.Notes⟩=true:=by
 have p:=SB.1 h;have hn:=uB.1 p.now;exact SB.2 ⟨by rw[uB];show 0≤gA .i64 w.Now 1∧gA .i64 w.Now 1≤1000000;rw[DA (by omega) (by omega)];omega,p.cl,p.srv,p.psl,p.dice,p.seen,p.kl,p.ci,p.kn,p.notes⟩
def ztR{w:Aa}{l:List Ak}(h:ZA w=true)(h1:fE l=true):ZA ⟨w.Now,w.Clients,w.S,w.D,l,w.Known,w.Notes⟩=true:=by
 have p:=SB.1 h;exact SB.2 ⟨p.now,p.cl,p.srv,p.psl,p.dice,h1,p.kl,p.ci,p.kn,p.notes⟩
def zta{w:Aa}{l:List (List UInt8)}{ns:List Ad}(h:ZA w=true)(h1:∀b∈l,b.length=32)(h2:w.Known.length+l.length≤12)(h4:TB ns):ZA ⟨w.Now,w.Clients,w.S,w.D,w.Seen,w.Known++l,w.Notes++ns⟩=true:=by
 have p:=SB.1 h;exact SB.2 ⟨p.now,p.cl,p.srv,p.psl,p.dice,p.seen,by show(w.Known++l).length≤12;rw[List.length_append];exact h2,p.ci,λb hb=>(List.mem_append.1 hb).elim (p.kn b) (h1 b),jE.2 ⟨p.notes,h4⟩⟩
def AH{w:Aa}{c:Ae}(h:ZA w=true)(hc:c∈w.Clients):dB c=true:=by
 obtain⟨i,hi,rfl⟩:=List.getElem_of_mem hc;exact((SB.1 h).ci i _ (List.getElem?_eq_getElem hi)).1
def zc9{c:Ae}(h:dB c=true):GA c.At=true:=by grind [dB]
def zj4{r:List UInt8}(h:r.length=12):UE (BH r)=true:=by
 rw[BH,show mA r=true by rw[mA,h];rfl];show(((CM r [106,97,114]).length:Int)==32)=true
 rw[hM (by omega) (by decide)];rfl
def zkg{n:Int}(h:1≤n∧n≤6):OC (dF n)=true:=by
 unfold dF;rw[uB.2 h];exact KE.2 ⟨h,Nat.zero_le _,by show((0:Nat):Int)≤n;omega,λ_ h=>(nomatch h), .nil⟩
def zhT{n:Int}(h:1≤n∧n≤6):(dF n).L=[]:=by unfold dF;rw[uB.2 h];rfl
def zvh(b:List UInt8)(f n:Int):(cut b f n).1.length≤b.length:=by
 unfold cut;cases decide (f<0)||(decide (n<0)||(decide (f>(b.length:Int))||decide (n>(b.length:Int) - f)))
 ·simp[List.length_take];omega
 ·simp
def zxc{c:Ae}(h:dB c=true)(k:c.St=1):vC c.Psk=true∧c.Cn.length=12∧vF c.R=true∧c.Last=0∧1≤c.Id∧c.Id≤9∧GA c.At=true:=by grind [dB,mA,eA]
def zli{c:Ae}(h:dB c=true)(k:c.St=2∨c.St=3):XB c.C=true∧c.C.Role=0∧c.Cn.length=12∧NC c.R=true∧1≤c.Id∧c.Id≤9:=by grind [dB,MI,mA,eA,NC,vF]
end Go.D

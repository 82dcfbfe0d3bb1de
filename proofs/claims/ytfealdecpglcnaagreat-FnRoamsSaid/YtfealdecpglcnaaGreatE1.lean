/-
 The program's machine: what its parts' steps come to.
-/
import Derived.Test.YtfealdecpglcnaaGreatN8g
import Derived.Test.YtfealdecpglcnaaGreatN11
set_option linter.all false
namespace Go.D
def lK{b:List UInt8}(h:mA b=true):b.length=12:=by
 simp only[mA,beq_iff_eq]at h;omega
def BI:∀l:List (List UInt8),l.flatten.length+l.length=wt l
 | []=>rfl
 | x :: l=>by
  have:=BI l;rw[List.flatten_cons,List.length_append,List.length_cons,TD,FA];omega
def zs8{l:List (List UInt8)}(h:wt l≤bA):Ok (aD l) λr=>r.length+l.length≤wt l:=XF h (by rw[BI];exact Nat.le_refl _)
def WF(w:Aa):Prop:=wt w.Clients≤702∧wt w.S≤3300∧wt w.Seen≤18090∧wt w.Known≤396∧w.D.Seed.length≤32∧TW w∧0≤w.Now∧w.Now≤1000000∧w.S.T.L.length≤12
def zci{l:List Al}(h:DD l=true):wt l≤18090∧l.length≤90:=by
 simp only[DD,Bool.and_eq_true,Bool.not_eq_true',decide_eq_true_eq]at h;obtain⟨h1,h2⟩:=h
 have:wt l≤(200+1) *l.length:=OM 200 l λx hx=>by
  have:=List.any_eq_false.1 h1 x hx;simp only[tD,Bool.not_eq_true',Bool.not_eq_false,Bool.and_eq_true,decide_eq_true_eq]at this;rw[zdh,FA,GE,GE];omega
 omega
def zwP{α:Type}:∀{l:List α},l.length=2→∃a b,l=[a,b]
 | [a,b],_=>⟨a,b,rfl⟩
def tL{w:Aa}(h:NA w=true):WF w:=by
 simp only[NA,Bool.and_eq_true,YA,beq_iff_eq,decide_eq_true_eq,Bool.not_eq_true']at h;obtain⟨⟨⟨⟨⟨⟨⟨⟨⟨h1,h2⟩,h3⟩,h4⟩,h5⟩,h6⟩,h7⟩,h8⟩,h9⟩,_⟩:=h;have s:=BF h3;have d:=zf4 h5;have se:=zci h6
 have kn:wt w.Known≤(32+1) *w.Known.length:=OM 32 w.Known λx hx=>by
  have:=List.any_eq_false.1 h9 x hx;simp only[bne_iff_ne,ne_eq,Decidable.not_not]at this;rw[FA];omega
 have hl:w.Clients.length=2:=by omega
 have hp:w.S.Psks.length=2:=by omega
 obtain⟨a,b,e⟩:=zwP hl;have c0:=uO (n:=2) (p:=pI w) (i:=0) (by rw[h8];rfl) (by omega);have c1:=uO (n:=2) (p:=pI w) (i:=1) (by rw[h8];rfl) (by omega);unfold pI at c0 c1;rw[e,List.getElem?_eq_getElem (l:=w.S.Psks) (by omega)]at c0 c1;simp only[List.getElem?_cons_zero,List.getElem?_cons_succ,Option.any_some,Bool.or_eq_false_iff,Bool.not_eq_false',bne_eq_false_iff_eq]at c0 c1;have f0:=RD c0.1.1;have f1:=RD c1.1.1;have g0:=f0.1;have g1:=f1.1;refine⟨?_,s.1,se.1,by omega,d,⟨hl,?_,?_⟩,h1.1,h1.2,s.2.1⟩
 ·rw[e,TD,TD,SG];omega
 ·rw[e];exact c0.1.2
 ·rw[e];exact c1.1.2
def pP:∀w,WF w↔(wt w.Clients≤702∧wt w.S≤3300∧wt w.Seen≤18090∧wt w.Known≤396∧w.D.Seed.length≤32∧TW w∧0≤w.Now∧w.Now≤1000000∧w.S.T.L.length≤12):=λ_=>Iff.rfl
def Ok.we{α:Type}{o:Option α}{P:α→Prop}(h:Ok o P):Ok o λr=>P r∧o=some r:=by
 obtain⟨x,h1,h2⟩:=h;exact⟨x,h1,h2,h1⟩
def zgF(a b:Int):(HD a b≤a∧HD a b≤b)∧(HD a b=a∨HD a b=b):=by
 unfold HD;split<;>omega
def zvl(a b:Int):(a≤AE a b∧b≤AE a b)∧(AE a b=a∨AE a b=b):=by
 unfold AE;split<;>omega
def zmm(k b:List UInt8):(TC k b).length=32∨(TC k b).length=0:=by
 unfold TC;cases h:decide ((k.length:Int)>1048576)||decide ((b.length:Int)>1048512)
 ·rw[Bool.or_eq_false_iff,decide_eq_false_iff_not,decide_eq_false_iff_not]at h;have:=wI (k:=k) (b:=b) (by omega) (by omega);unfold TC at this;rw[show(decide ((k.length:Int)>1048576)||decide ((b.length:Int)>1048512))=false by simp;omega]at this;exact .inl this
 ·exact .inr rfl
def zps{a0 a1 a2}(ha:wt a1≤1000000000):Ok (Ih a0 a1 a2) λr=>r.length≤32∧(0≤a2∧a2≤6∧a1.length≤100∧a0.length≤1048576→r.length=32):=by
 have hL:=yB;unfold Ih;simp only[N]at ha;refine Ok.join (λy1:Bool=>(y1=true∧¬(0≤a2∧a2≤6∧a1.length≤100))∨(y1=false∧a1.length≤100)) (λy1 XV=>?_) (λk2 BV=>?_)
 ·rcases XV with⟨rfl,h⟩ | ⟨rfl,h⟩
  ·exact Ok.some' ⟨Nat.zero_le _,λk=>absurd ⟨k.1,k.2.1,k.2.2.1⟩ h⟩
  ·refine Ok.bind (zs8 ?_) (λr3 sW=>?_)
   ·simp only[N];omega
   simp only[N]at sW;refine Ok.bind (RG ?_) (λr4 NV=>?_)
   ·simp only[N];omega
   exact Ok.some' ⟨FL _ _,λk=>wI k.2.2.2 (by omega)⟩
 refine Ok.cond' (λh2=>?_) (λh2=>?_)
 ·simp only[B]at h2;exact BV _ (.inl ⟨rfl,λk=>h2 ⟨k.1,k.2.1⟩⟩)
 ·simp only[B]at h2;refine BV _ ?_
  by_cases h:(a1.length:Int)>100
  ·exact .inl ⟨decide_eq_true h,λk=>by omega⟩
  ·exact .inr ⟨decide_eq_false h,by omega⟩
def zpK{a0 a1 a2}(ha:wt a1≤1000000000):Ok (Eb a0 a1 a2) λr=>r.length≤200∧((r.length:Int)=0∨(r.length:Int)=a2):=by
 have hL:=yB;unfold Eb;refine Ok.join (λy1:Bool=>y1=false→(0≤a2∧a2≤200∧a1.length≤100∧a0.length≤1048576)) (λy1 XV=> .cond' (λ_=> .some' ⟨Nat.zero_le _, .inl rfl⟩) λe=>?_) (λk2 BV=>?_)
 ·have XV:=XV e;refine Ok.join (λy3:List UInt8=>a2≤(y3.length:Int)∧y3.length≤1000) (λy3 Y4=>?_) (λk4 bW=>?_)
  ·refine Ok.chk ?_ ?_
   ·simp only[B];omega
   refine Ok.same (nA ?_) (Ok.some' ?_)<;>(simp only[N];omega)
  refine Ok.loop (λx5:(List UInt8)×Int=>0≤x5.2∧x5.2≤7∧(x5.1.length:Int)=32 *x5.2) (λx5=>(7 - x5.2).toNat) (λx5 hx5 k6 pW=>?_) ?_ ?_
  ·refine Ok.cond' (λh1=>?_) (λh1=>?_)
   ·simp only[B]at h1;refine Ok.bind (zps ha) (λr7 IW=>?_);have h7:r7.length=32:=IW.2 (by omega);refine Ok.guard ?_ ?_
    ·simp only[N];omega
    have:=DA (a:=x5.2) (b:=1) (by omega) (by omega);refine pW _ ?_ ?_<;>(simp only[N];omega)
   ·simp only[B]at h1;refine bW _ ?_;omega
  ·simp only[N];omega
  ·simp only[N];omega
 refine Ok.cond' (λ_=>BV _ nofun) (λh2=>?_);simp only[B]at h2;refine Ok.cond' (λ_=>BV _ nofun) (λh3=>?_);simp only[B]at h3;refine BV _ λh=>?_;simp only[B]at h;omega
end Go.D
namespace Go.D
namespace Ok
variable {α β:Type} {P:β→Prop}
def kt{x y:Option β}(h:Ok x P):Ok (cond true x y) P:=h
def kf{x y:Option β}(h:Ok y P):Ok (cond false x y) P:=h
def j0{F:α→Option β}{G:(α→Option β)→Option β}(h:Ok (G F) P):Ok (aA F G) P:=h
def bm{γ:Type}[Wt γ]{l:List γ}{i:Int}{f:γ→Option β}(h0:0≤i)(h1:i<(l.length:Int))(k:∀x,x∈l→wt x+1≤wt l→Ok (f x) P):Ok (Option.bind (jA l i) f) P:= .bi h0 h1 λx h=>k x (List.mem_of_getElem? h)
end Ok
def WB(l:List Ad):Prop:=∀n∈l,gC n=true
theorem rC:WB []:=λ_ h=>nomatch h
theorem lD{n:Ad}{l:List Ad}:WB (n :: l)↔gC n=true∧WB l:=by simp[WB]
theorem sE{l m:List Ad}:WB (l++m)↔WB l∧WB m:=by
 simp only[WB,List.mem_append];exact⟨λh=>⟨λn k=>h n (.inl k),λn k=>h n (.inr k)⟩,λh n k=>k.elim (h.1 n) (h.2 n)⟩
def jT{n:Ad}(h:gC n=true):wt n≤156:=by
 simp only[gC,RC,ND,Bool.and_eq_true,Bool.or_eq_true,beq_iff_eq,decide_eq_true_eq]at h;simp only[N];omega
def eE{l:List Ad}(h:WB l):wt l≤157 *l.length:=OM 156 l λ_ k=>jT (h _ k)
theorem gG(b:List UInt8)(n k:Int):(xD b n k).length≤b.length+6∧(xD b n k).length=b.length+(if k<1 then 0 else if k>6 then 0 else k.toNat):=by
 unfold xD
 by_cases h1:k<1
 ·simp[h1]
 ·by_cases h2:k>6
  ·simp[h1,h2]
  ·simp[h1,h2,jI];omega
def SH(d:Ar):wt (uC d).1=wt d∧(uC d).2.length≤12∧(YB d=true→YB (uC d).1=true)∧(YB d=true→d.N≠10000→(uC d).2.length=12):=by
 unfold uC;cases h:YB d
 ·simp
 ·have h':=h;simp only[YB,Bool.and_eq_true,YA]at h'
  by_cases k:d.N=10000
  ·simp[k,h]
  ·have e:(d.N==10000)=false:=beq_false_of_ne k;rw[e];refine⟨rfl,zcn _ _,λ_=>?_,λ_ _=>?_⟩
   ·show(eA (d.Seed.length:Int) 1 32&&eA (fA .i64 d.N 1) 0 10000)=true
    rw[DA (by omega) (by omega),Bool.and_eq_true,YA,YA];omega
   ·show(HE d.Seed d.N).length=12
    rw[HE,YA.2 h'.1,YA.2 h'.2];show(List.take 12 _).length=12
    rw[List.length_take,wI (by omega) (by
     rw[zcH];omega)];rfl
def zcm(b:List UInt8):wt (VE b)=b.length:=by simp only[VE,KL,GE,FA,List.length_nil];omega
def zbI{b:List UInt8}(h:b.length≤100):gC (VE b)=true:=by
 unfold VE;grind [gC,RC,ND,eA,EA]
def zko(p:Ai)(a:Af): -1≤uD p a∧uD p a<(p.Cands.length:Int):=by
 unfold uD
 rcases KG p.Cands.length (zG p a)with⟨_,h⟩|⟨m,h1,_,_,h⟩<;>rw[h]<;>omega
def xL{k l:List UInt8}(h:k.length≤100)(hl:l.length≤100):(fN k l).length=32:=zsn (by omega) (by omega)
theorem SC{c:Aj}(h:rB c=true):wt c≤172∧c.Sn.length=12∧c.Cur.Key.length=32∧c.Cur.Win.Bits.length=32∧0≤c.Cur.N∧c.Cur.N≤4294967295∧c.Next.length≤32∧0≤c.Cur.Seq∧c.Cur.Seq≤281474976710656:=by
 have h1:=(aT h).1;simp only[rB,cC,mA,Bool.and_eq_true,beq_iff_eq,YA]at h;have h2:=zgd h.1.1.2.2;simp only[QH]at h1;have:c.Next.length≤32:=by grind
 simp only[QH];omega
def epF{e:Av}(h:cC e=true):e.Key.length=32∧e.Win.Bits.length=32∧0≤e.N∧e.N≤4294967295∧0≤e.Seq∧e.Seq≤281474976710656:=by
 have h1:=lT h;simp only[cC,Bool.and_eq_true,beq_iff_eq,YA]at h;omega
def uH(f:Ab)(sn:List UInt8):Prop:=(f.Sn=[]∨f.Sn=sn)∧0≤f.Epoch∧f.Epoch≤4294967295∧0≤f.Seq∧f.Seq≤281474976710655
def SI(l:List Al)(f:Af):Prop:=∀x∈l,tD x=true∧x.From=f
def oP(l:List Al):Prop:=∀x∈l,x.To=SB
def zl8:EA SB=true:=rfl
theorem cS(a b:Af):cond (a.Host==b.Host) (cond (a.Port==b.Port) (true) false) false=IA a b:=by
 unfold IA;cases a.Host==b.Host<;>cases a.Port==b.Port<;>rfl
end Go.D
namespace Go.D
def ZG{a b:Bool}:(a&&b)=true↔a=true∧b=true:=Bool.and_eq_true_iff
def zgr{α:Type}{l:List α}{bad:α→Bool}{r:α→α→Bool}:
  qB l.length (λi=>(l[i]?).any λe=>bad e||qB i λj=>(l[j]?).any λd=>r d e)=false↔(∀e∈l,bad e=false)∧l.Pairwise (λd e=>r d e=false):=by
 rw[uG,List.pairwise_iff_getElem];constructor
 ·intro h;refine⟨λe he=>?_,λi j hi hj C5=>?_⟩
  ·obtain⟨i,hi,rfl⟩:=List.getElem_of_mem he;have:=h i hi;rw[List.getElem?_eq_getElem hi,Option.any_some,Bool.or_eq_false_iff]at this;exact this.1
  ·have:=h j hj;rw[List.getElem?_eq_getElem hj,Option.any_some,Bool.or_eq_false_iff,uG]at this;have:=this.2 i C5;rwa [List.getElem?_eq_getElem hi,Option.any_some]at this
 ·rintro⟨h1,h2⟩ i hi;rw[List.getElem?_eq_getElem hi,Option.any_some,Bool.or_eq_false_iff,uG];refine⟨h1 _ (List.getElem_mem hi),λj hj=>?_⟩;rw[List.getElem?_eq_getElem (by omega),Option.any_some];exact h2 j i (by omega) hi hj
structure zxn(p:Ai):Prop where
 at_:EA p.At=true
 len:p.Cands.length≤3
 el:∀e∈p.Cands,EA e.A=true∧mA e.Draw=true∧eA e.Until 0 1000006=true∧IA e.A p.At=false
 two:p.Cands.Pairwise λd e=>IA d.A e.A=false
def XJ{p:Ai}:VB p=true↔zxn p:=by
 unfold VB KO;rw[ZG,ZG,Bool.not_eq_true',zgr,decide_eq_true_eq];constructor
 ·rintro⟨⟨a,b⟩,c,d⟩;refine⟨a,by omega,λe he=>?_,d⟩;have:=c e he;simp only[Bool.or_eq_false_iff,Bool.not_eq_false']at this;exact⟨this.1.1.1,this.1.1.2,this.1.2,this.2⟩
 ·rintro⟨a,b,c,d⟩;refine⟨⟨a,by omega⟩,λe he=>?_,d⟩;obtain⟨h1,h2,h3,h4⟩:=c e he;rw[h1,h2,h3,h4];rfl
structure CrP(l:List Ak):Prop where
 len:l.length≤8
 el:∀c∈l,EA c.A=true∧(0≤c.Got∧c.Got≤1000000)∧(0≤c.Sent∧c.Sent≤3 *c.Got)
 two:l.Pairwise λd e=>IA d.A e.A=false
def zdW{n:Int}(h:0≤n∧n≤1000000):GB .i64 3 n=3 *n:=by unfold GB;rw[FB (by omega) (by omega)]
def HN{l:List Ak}:pC l=true↔CrP l:=by
 unfold pC gS uF;rw[ZG,Bool.not_eq_true',zgr,decide_eq_true_eq];constructor
 ·rintro⟨b,c,d⟩;refine⟨by omega,λe he=>?_,d⟩;have:=c e he;simp only[Bool.or_eq_false_iff,Bool.not_eq_false']at this;have h2:=rD.1 this.1.2;have h3:=rD.1 this.2;rw[zdW h2]at h3;exact⟨this.1.1,h2,h3⟩
 ·rintro⟨b,c,d⟩;refine⟨by omega,λe he=>?_,d⟩;obtain⟨h1,h2,h3⟩:=c e he;rw[h1,rD.2 h2,zdW h2,rD.2 h3];rfl
def zl6{α:Type}{l:List α}{R:α→α→Prop}(h:l.Pairwise R){i:Nat}{x y:α}(hi:l[i]?=some y)(h1:∀z,R z y→R z x)(h2:∀z,R y z→R x z):(l.set i x).Pairwise R:=by
 obtain⟨hl,hy⟩:=List.getElem?_eq_some_iff.1 hi;rw[List.pairwise_iff_getElem]at h⊢;intro j k hj hk KY;rw[List.length_set]at hj hk;rw[List.getElem_set,List.getElem_set]
 by_cases e1:i=j
 ·have e2:i≠k:=by omega
  rw[if_pos e1,if_neg e2];refine h2 _ ?_;have:=h j k hj hk KY;subst e1;rwa [hy]at this
 ·rw[if_neg e1]
  by_cases e2:i=k
  ·rw[if_pos e2];refine h1 _ ?_;have:=h j k hj hk KY;subst e2;rwa [hy]at this
  ·rw[if_neg e2];exact h j k hj hk KY
def zgg{α:Type}{l:List α}{R:α→α→Prop}(h:l.Pairwise R){x:α}(hx:∀y∈l,R y x):(l++[x]).Pairwise R:=
 List.pairwise_append.2 ⟨h,List.pairwise_singleton _ _,λy hy z hz=>by rw[List.mem_singleton.1 hz];exact hx y hy⟩
theorem zga{α:Type}{l:List α}{i:Nat}{x y:α}(h:y∈l.set i x):y∈l∨y=x:=List.mem_or_eq_of_mem_set h
def zkf(l:List Ak)(a:Af):(VA l a= -1∧∀c∈l,IA c.A a=false)∨∃(i:Nat) (c:Ak),VA l a=(i:Int)∧l[i]?=some c∧IA c.A a=true:=by
 unfold VA
 rcases KG l.length (uF l a)with⟨h,e⟩|⟨m,h1,h2,_,e⟩
 ·refine .inl ⟨e,λc hc=>?_⟩;obtain⟨i,hi,rfl⟩:=List.getElem_of_mem hc;have:=uG.1 h i hi;unfold uF at this;rwa [List.getElem?_eq_getElem hi,Option.any_some]at this
 ·refine .inr ⟨m,l[m],e,List.getElem?_eq_getElem h1,?_⟩;unfold uF at h2;rwa [List.getElem?_eq_getElem h1,Option.any_some]at h2
def qL{a b:Af}:IA a b=true↔a=b:=by
 unfold IA;rw[ZG,beq_iff_eq,beq_iff_eq];obtain⟨_,_⟩:=a;obtain⟨_,_⟩:=b;simp
def BE(a d:Ah):Prop:=TB d=true∧d.Id=a.Id∧d.Sn=a.Sn∧d.Cn=a.Cn∧(a.Dead=true→d.Dead=true)
def pO{a:Ah}(h:TB a=true):BE a a:=⟨h,rfl,rfl,rfl,id⟩
def zgj(t:Ao)(h:t.L.length≤1000000):live t=(t.L.countP (λe=>!e.Dead):Int):=by
 unfold live
 have:∀(l:List Ah) (k:Nat),k+l.length≤1000000→l.foldl (λs e=>bif e.Dead then s else fA .i64 s 1) (k:Int)=((k+l.countP λe=>!e.Dead:Nat):Int):=λl=>by
  induction l with
  | nil=>intro k _;rfl
  | cons e l ih=>
   intro k hk;rw[List.foldl_cons];simp only[List.length_cons]at hk;cases h:e.Dead
   ·rw[cond_false,DA (by omega) (by omega),show(k:Int)+1=((k+1:Nat):Int)by omega,ih (k+1) (by omega),List.countP_cons_of_pos (by rw[h];rfl)];congr 1;omega
   ·rw[cond_true,ih k (by omega),List.countP_cons_of_neg (by rw[h];decide)]
 have:=this t.L 0 (by omega);rw[Nat.zero_add]at this;exact this
structure zzs(t:Ao):Prop where
 cap:1≤t.Cap∧t.Cap≤6
 len:t.L.length≤12
 live:(t.L.countP (λe=>!e.Dead):Int)≤t.Cap
 el:∀e∈t.L,TB e=true
 two:t.L.Pairwise λd e=>(d.Sn==e.Sn)=false
def JE{t:Ao}:GC t=true↔zzs t:=by
 unfold GC xK eF;rw[ZG,ZG,ZG,Bool.not_eq_true',zgr,decide_eq_true_eq,decide_eq_true_eq,rD];constructor
 ·rintro⟨⟨⟨a,b⟩,l⟩,c,d⟩;exact⟨a,by omega,by rw[zgj t (by omega)]at l;exact l,λe he=>by have:=c e he;simpa using this,d⟩
 ·rintro⟨a,b,l,c,d⟩;exact⟨⟨⟨a,by omega⟩,by rw[zgj t (by omega)];exact l⟩,λe he=>by rw[c e he];rfl,d⟩
def zkb{α:Type}{p:α→Bool}{x y:α}(h:p x=true→p y=true):∀{l:List α} {i:Nat},l[i]?=some y→(l.set i x).countP p≤l.countP p
 | [],_,e=>by simp at e
 | z :: l,0,e=>by
  rw[List.getElem?_cons_zero,Option.some.injEq]at e;subst e;rw[List.set_cons_zero,List.countP_cons,List.countP_cons];cases hx:p x
  ·simp
  ·rw[h hx];simp
 | z :: l,i+1,e=>by
  rw[List.getElem?_cons_succ]at e;rw[List.set_cons_succ,List.countP_cons,List.countP_cons];have:=zkb h e;omega
def zvf{t:Ao}{i:Nat}{a d:Ah}(h:GC t=true)(hi:t.L[i]?=some a)(k:BE a d):GC ⟨t.Cap,t.L.set i d⟩=true:=by
 have hp:=JE.1 h;refine JE.2 ⟨hp.cap,by show(t.L.set i d).length≤12;rw[List.length_set];exact hp.len,?_,λe he=>(zga he).elim (hp.el e) λe=>by rw[e];exact k.1,zl6 hp.two hi (λz hz=>by rw[k.2.2.1];exact hz) λz hz=>by rw[k.2.2.1];exact hz⟩
 have:=zkb (p:=λe:Ah=>!e.Dead) (x:=d) (y:=a) (λhd=>by
  cases ha:a.Dead
  ·rfl
  ·rw[k.2.2.2.2 ha]at hd;exact hd) hi
 have:=hp.live;show((t.L.set i d).countP _:Int)≤t.Cap
 omega
def zqX{t:Ao}{b:List UInt8}(h:XB t b<0):∀e∈t.L,(e.Sn==b)=false:=by
 unfold XB at h
 rcases KG t.L.length (eF t b)with⟨k,_⟩|⟨m,_,_,_,e⟩
 ·intro e he;obtain⟨i,hi,rfl⟩:=List.getElem_of_mem he;have:=uG.1 k i hi;unfold eF at this;rwa [List.getElem?_eq_getElem hi,Option.any_some]at this
 ·omega
def zuD{p:Ai}{l:List Aw}(h:VB p=true)(k:l.Sublist p.Cands):VB ⟨p.At,l⟩=true:=by
 have hp:=XJ.1 h;exact XJ.2 ⟨hp.at_,Nat.le_trans k.length_le hp.len,λe he=>hp.el e (k.subset he),hp.two.sublist k⟩
def zbe(p:Ai)(a:Af):(uD p a= -1∧∀c∈p.Cands,IA c.A a=false)∨∃(i:Nat) (c:Aw),uD p a=(i:Int)∧p.Cands[i]?=some c∧IA c.A a=true:=by
 unfold uD
 rcases KG p.Cands.length (zG p a)with⟨h,e⟩|⟨m,h1,h2,_,e⟩
 ·refine .inl ⟨e,λc hc=>?_⟩;obtain⟨i,hi,rfl⟩:=List.getElem_of_mem hc;have:=uG.1 h i hi;unfold zG at this;rwa [List.getElem?_eq_getElem hi,Option.any_some]at this
 ·refine .inr ⟨m,p.Cands[m],e,List.getElem?_eq_getElem h1,?_⟩;unfold zG at h2;rwa [List.getElem?_eq_getElem h1,Option.any_some]at h2
def zt9{p:Ai}{a:Af}{d:List UInt8}{n:Int}(h:VB p=true)(h1:EA a=true)(h2:d.length=12)(h3:eA n 0 1000000=true)(h4:IA a p.At=false)(h5:uD p a<0)(h6:p.Cands.length≠3):
  VB ⟨p.At,p.Cands++[⟨a,d,fA .i64 n 6⟩]⟩=true:=by
 have hp:=XJ.1 h;have hn:=YA.1 h3;have hl:=hp.len
 rcases zbe p a with⟨_,k⟩|⟨i,_,e,_⟩
 ·refine XJ.2 ⟨hp.at_,by show(p.Cands++[_]).length≤3;rw[List.length_append];simp only[List.length_cons,List.length_nil];omega,λe he=>?_,zgg hp.two k⟩
  rcases List.mem_append.1 he with he|he
  ·exact hp.el e he
  ·rw[List.mem_singleton.1 he];exact⟨h1,by unfold mA;rw[beq_iff_eq];show(d.length:Int)=12;omega,by rw[YA];show 0≤fA .i64 n 6∧fA .i64 n 6≤_;rw[DA (by omega) (by omega)];omega,h4⟩
 ·omega
def zrK{p:Ai}{a:Af}(h:VB p=true)(k:0≤uD p a):
  VB ⟨a,List.take ((uD p a - 0).toNat) p.Cands++List.take (((p.Cands.length:Int) - fA .i64 (uD p a) 1).toNat) (List.drop ((fA .i64 (uD p a) 1).toNat) p.Cands)⟩=true:=by
 have hp:=XJ.1 h;have hl:=hp.len
 rcases zbe p a with⟨e,_⟩|⟨i,c,e,hi,hs⟩
 ·omega
 ·have PY:=(List.getElem?_eq_some_iff.1 hi).1;rw[e,DA (by omega) (by omega),show((i:Int) - 0).toNat=i by omega,show((i:Int)+1).toNat=i+1 by omega,List.take_of_length_le (l:=List.drop (i+1) p.Cands) (by rw[List.length_drop];omega), ←List.eraseIdx_eq_take_drop_succ];have sub:=List.eraseIdx_sublist p.Cands i;obtain⟨c1,c2,c3,c4⟩:=hp.el c (List.mem_of_getElem? hi);have hA:=qL.1 hs;refine XJ.2 ⟨hA▸c1,Nat.le_trans sub.length_le hl,λd hd=>?_,hp.two.sublist sub⟩;obtain⟨d1,d2,d3,_⟩:=hp.el d (sub.subset hd);refine⟨d1,d2,d3,?_⟩;obtain⟨j,hj,e2⟩:=List.mem_eraseIdx_iff_getElem.1 hd;obtain⟨hji,e3⟩:=e2;have two:=List.pairwise_iff_getElem.1 hp.two;have ec:=(List.getElem?_eq_some_iff.1 hi).2;show IA d.A a=false
  rw[←hA, ←e3, ←ec]
  rcases Nat.lt_or_ge j i with q|q
  ·exact two j i hj PY q
  ·have:=two i j PY hj (by omega);cases hx:IA (p.Cands[j]).A (p.Cands[i]).A
   ·rfl
   ·rw[qL.1 hx]at this;rw[qL.2 rfl]at this;exact this
def zmk{l:List Ak}{i:Nat}{c:Ak}{g s:Int}(h:pC l=true)(hi:l[i]?=some c)(hg:0≤g∧g≤1000000)(hs:0≤s∧s≤3 *g):pC (l.set i ⟨c.A,g,s⟩)=true:=by
 have hp:=HN.1 h;obtain⟨c1,c2,c3⟩:=hp.el c (List.mem_of_getElem? hi);exact HN.2 ⟨by rw[List.length_set];exact hp.len,λd hd=>(zga hd).elim (hp.el d) λhd=>by rw[hd];exact⟨c1,hg,hs⟩,zl6 hp.two hi (λ_ h=>h) λ_ h=>h⟩
def zgR{l:List Ak}{i:Nat}{c:Ak}(h:pC l=true)(hi:l[i]?=some c):(0≤c.Got∧c.Got≤1000000)∧(0≤c.Sent∧c.Sent≤3 *c.Got):=((HN.1 h).el c (List.mem_of_getElem? hi)).2
theorem zwT{l:List Ak}{a:Af}{n:Int}(h:pC l=true)(h1:VA l a<0)(h2:l.length<8)(h3:EA a=true)(h4:eA n 0 1000000=true):pC (l++[⟨a,n,0⟩])=true:=by
 have hp:=HN.1 h;have hn:=YA.1 h4
 rcases zkf l a with⟨_,k⟩|⟨i,_,e,_⟩
 ·refine HN.2 ⟨by rw[List.length_append];simp only[List.length_cons,List.length_nil];omega,λc hc=>?_,zgg hp.two k⟩
  rcases List.mem_append.1 hc with hc|hc
  ·exact hp.el c hc
  ·rw[List.mem_singleton.1 hc];exact⟨h3,hn,by show(0:Int)≤0∧0≤3 *n;omega⟩
 ·omega
theorem zvk{t:Ao}{s:Ah}(h:GC t=true)(h1:TB s=true)(h2:XB t s.Sn<0)(h3:live t≠t.Cap)(h4:t.L.length≠12):GC ⟨t.Cap,t.L++[s]⟩=true:=by
 have hp:=JE.1 h;have hl:=hp.live;have hn:=hp.len;rw[zgj t (by omega)]at h3;refine JE.2 ⟨hp.cap,?_,?_,λe he=>?_,zgg hp.two (zqX h2)⟩
 ·show(t.L++[s]).length≤12
  rw[List.length_append];simp only[List.length_cons,List.length_nil];omega
 ·show((t.L++[s]).countP _:Int)≤t.Cap
  rw[List.countP_append];have:[s].countP (λe=>!e.Dead)≤1:=List.countP_le_length;omega
 ·rcases List.mem_append.1 he with he | he
  ·exact hp.el e he
  ·rw[List.mem_singleton.1 he];exact h1
inductive F2:List Ah→List Ah→Prop
 | nil:F2 [] []
 | cons {a b:Ah} {l m:List Ah}:BE a b→F2 l m→F2 (a :: l) (b :: m)
def Tk(l m:List Ah):Prop:=∃l',l'.Sublist l∧F2 l' m
def zwX:Tk [] []:=⟨[], .slnil, .nil⟩
def zv2{l m:List Ah}(e:Ah)(h:Tk l m):Tk (l++[e]) m:=by
 obtain⟨l',h1,h2⟩:=h;exact⟨l',h1.trans (List.sublist_append_left _ _),h2⟩
def zwE{l m:List Ah}{e d:Ah}(h:Tk l m)(k:BE e d):Tk (l++[e]) (m++[d]):=by
 obtain⟨l',h1,h2⟩:=h
 have f2:∀{a b:List Ah},F2 a b→F2 (a++[e]) (b++[d]):=λh=>by
  induction h with
  | nil=>exact .cons k .nil
  | cons x _ ih=>exact .cons x ih
 exact⟨l'++[e],h1.append (List.Sublist.refl _),f2 h2⟩
def zmr{l m:List Ah}{d:Ah}(h:Tk l m)(hd:d∈m):∃e∈l,BE e d:=by
 obtain⟨l',h1,h2⟩:=h
 have f2:∀{a b:List Ah},F2 a b→d∈b→∃e∈a,BE e d:=λh=>by
  induction h with
  | nil=>intro h;cases h
  | cons x _ ih=>
   intro h
   rcases List.mem_cons.1 h with rfl|h
   ·exact⟨_,List.mem_cons_self,x⟩
   ·obtain⟨e,he,k⟩:=ih h;exact⟨e,List.mem_cons_of_mem _ he,k⟩
 obtain⟨e,he,k⟩:=f2 h2 hd;exact⟨e,h1.subset he,k⟩
def zxl{t:Ao}{m:List Ah}(h:GC t=true)(k:Tk t.L m):GC ⟨t.Cap,m⟩=true:=by
 have hp:=JE.1 h;have hm:∀e∈m,TB e=true:=λe he=>by obtain⟨_,_,x⟩:=zmr k he;exact x.1
 obtain⟨l',h1,h2⟩:=k;have two:=hp.two.sublist h1;have cnt:=h1.countP_le (p:=λe=>!e.Dead);have len:=h1.length_le
 have f2:∀{a b:List Ah},F2 a b→a.length=b.length∧b.countP (λe=>!e.Dead)≤a.countP (λe=>!e.Dead)∧((∀s,(∀x∈a,(s==x.Sn)=false)→∀y∈b,(s==y.Sn)=false))∧(a.Pairwise (λd e=>(d.Sn==e.Sn)=false)→b.Pairwise λd e=>(d.Sn==e.Sn)=false):=λh=>by
  induction h with
  | nil=>exact⟨rfl,Nat.le_refl _,λ_ _ _ h=>(nomatch h),λ_=> .nil⟩
  | @cons x y a b hx _ ih=>
   obtain⟨i1,i2,i3,i4⟩:=ih;refine⟨by simp[i1],?_,λs hs z hz=>?_,λhp=>?_⟩
   ·rw[List.countP_cons,List.countP_cons];have:=hx.2.2.2.2;cases hxd:x.Dead<;>cases hyd:y.Dead<;>simp_all<;>omega
   ·rcases List.mem_cons.1 hz with rfl | hz
    ·rw[hx.2.2.1];exact hs _ List.mem_cons_self
    ·exact i3 s (λw hw=>hs w (List.mem_cons_of_mem _ hw)) z hz
   ·obtain⟨p1,p2⟩:=List.pairwise_cons.1 hp;refine List.pairwise_cons.2 ⟨λz hz=>?_,i4 p2⟩;rw[hx.2.2.1];exact i3 _ p1 z hz
 obtain⟨e1,e2,_,e4⟩:=f2 h2;have:=hp.len;have:=hp.live;refine JE.2 ⟨hp.cap,by show m.length≤12;omega,by show(m.countP _:Int)≤t.Cap;omega,hm,e4 two⟩
def take_succ{α:Type}{l:List α}{i:Nat}{e:α}(h:l[i]?=some e):l.take (i+1)=l.take i++[e]:=by
 rw[List.take_add_one,h];rfl
end Go.D
namespace Go.D
def zkL{m n:Nat}(hm:m<2^63):HB .i64 (m:Int) (n:Int)=((m&&&(n % 2^64):Nat):Int):=by
 unfold HB;show IntKind.wrap .i64 (((BitVec.ofInt 64 (m:Int)&&&BitVec.ofInt 64 (n:Int)).toNat:Nat):Int)=_
 rw[BitVec.ofInt_natCast,BitVec.ofInt_natCast,BitVec.toNat_and,BitVec.toNat_ofNat,BitVec.toNat_ofNat,Nat.mod_eq_of_lt (by omega)];have:=Nat.and_le_left (n:=m) (m:=n % 2^64);exact FB (by omega) (by omega)
def ztW{m k:Nat}(hk:k<32):iE .i64 (m:Int) (k:Int)=((m / 2^k:Nat):Int):=by
 unfold iE;show Int.fdiv (m:Int) (2^(min ((k:Int)).toNat 64))=_
 rw[Int.toNat_natCast,Nat.min_eq_left (by omega),Int.fdiv_eq_ediv_of_nonneg _ (by exact_mod_cast Nat.zero_le _)]
 norm_cast
def zk9{k:Nat}(hk:k<32):HJ .i64 1 (k:Int)=((2^k:Nat):Int):=by
 unfold HJ;show IntKind.wrap .i64 (1 *2^(min ((k:Int)).toNat 64))=_
 rw[Int.toNat_natCast,Nat.min_eq_left (by omega),Int.one_mul];have h:(2:Nat)^k≤2^32:=Nat.pow_le_pow_right (by omega) (by omega);have e:((2:Int)^k)=((2^k:Nat):Int):=by norm_cast
 rw[e];generalize (2:Nat)^k=p at h⊢;exact FB (by omega) (by omega)
def zuv{m k:Nat}(hm:m<2^32)(hk:k<32):(HB .i64 (iE .i64 (m:Int) (k:Int)) 1==1)=Nat.testBit m k:=by
 have hd:m / 2^k≤m:=Nat.div_le_self _ _;rw[ztW hk,show(1:Int)=((1:Nat):Int)from rfl,zkL (by omega),Nat.testBit_eq_decide_div_mod_eq];rw[show(1 % 2^64:Nat)=1 from rfl,Nat.and_one_is_mod,Bool.eq_iff_iff,beq_iff_eq,decide_eq_true_eq];omega
def zal{m k:Nat}(hm:m<2^32)(hk:k<32):OK .i64 (m:Int) (HJ .i64 1 (k:Int))=((m|||2^k:Nat):Int)∧m|||2^k<2^32:=by
 have h:(2:Nat)^k<2^32:=Nat.pow_lt_pow_right (by omega) hk;have h2:m|||2^k<2^32:=Nat.or_lt_two_pow hm h
 refine⟨?_,h2⟩;rw[zk9 hk];unfold OK;show IntKind.wrap .i64 (((BitVec.ofInt 64 (m:Int)|||BitVec.ofInt 64 ((2^k:Nat):Int)).toNat:Nat):Int)=_
 rw[BitVec.ofInt_natCast,BitVec.ofInt_natCast,BitVec.toNat_or,BitVec.toNat_ofNat,BitVec.toNat_ofNat,Nat.mod_eq_of_lt (by omega),Nat.mod_eq_of_lt (by omega)];exact FB (by omega) (by omega)
def OF(l:List Int):Prop:=l.length=32∧∀e∈l,0≤e∧e≤4294967295
def zqs{l:List Int}:tC l 32=true↔OF l:=by
 unfold tC OF;rw[Bool.and_eq_true,List.all_eq_true,beq_iff_eq];exact⟨λ⟨a,b⟩=>⟨by omega,λe he=>rD.1 (a e he)⟩,λ⟨a,b⟩=>⟨λe he=>rD.2 (b e he),by omega⟩⟩
def OF.get{l:List Int}(h:OF l){j:Nat}(hj:j<32):∃m:Nat,m<2^32∧l[j]?=some (m:Int):=by
 have hl:j<l.length:=by rw[h.1];exact hj
 have:=h.2 _ (List.getElem_mem hl);exact⟨(l[j]).toNat,by omega,by rw[List.getElem?_eq_getElem hl];congr 1;omega⟩
def OF.set{l:List Int}(h:OF l)(j:Nat){m:Nat}(hm:m<2^32):OF (l.set j (m:Int)):=by
 refine⟨by rw[List.length_set];exact h.1,λe he=>?_⟩
 rcases List.mem_or_eq_of_mem_set he with he|rfl
 ·exact h.2 e he
 ·omega
def oK{w:Ap}(h:OF w.Bits){i m:Nat}(hi:w.Bits[i % 1024 / 32]?=some (m:Int))(hm:m<2^32):WC w i=Nat.testBit m (i % 32):=by
 unfold WC;rw[hi,Option.any_some];exact zuv hm (Nat.mod_lt _ (by omega))
def zkK{w:Ap}{t:Int}(h:OF w.Bits){n m:Nat}(hm:m<2^32)(hn:w.Bits[n % 1024 / 32]?=some (m:Int))(i:Nat):
  WC ⟨t,w.Bits.set (n % 1024 / 32) ((m|||2^(n % 1024 % 32):Nat):Int)⟩ i=(WC w i||decide (i % 1024=n % 1024)):=by
 have hk:n % 1024 % 32<32:=Nat.mod_lt _ (by omega);have ho:=(zal hm hk).2;have hj:n % 1024 / 32<32:=by omega
 by_cases e:i % 1024 / 32=n % 1024 / 32
 ·rw[oK (w:=⟨t,_⟩) (h.set _ ho) (by show(w.Bits.set _ _)[i % 1024 / 32]?=_;rw[e,List.getElem?_set_self (by rw[h.1];exact hj)]) ho,Nat.testBit_or,oK h (by rw[e];exact hn) hm,Nat.testBit_two_pow];congr 1;rw[decide_eq_decide];omega
 ·obtain⟨q,hq,L2⟩:=h.get (j:=i % 1024 / 32) (by omega);rw[oK (w:=⟨t,_⟩) (h.set _ ho) (by show(w.Bits.set _ _)[i % 1024 / 32]?=_;rw[List.getElem?_set_ne (λx=>e x.symm)];exact L2) hq,oK h L2 hq,decide_eq_false (by omega),Bool.or_false]
structure zzI(w:Ap):Prop where
 top: -1≤w.Top∧w.Top≤281474976710655
 words:OF w.Bits
 none:∀i:Nat,i<1024→w.Top<(i:Int)→WC w i=false
 bit:w.Top= -1∨WC w w.Top.toNat=true
def zch{w:Ap}:IC w=true↔zzI w:=by
 unfold IC;rw[ZG,ZG,ZG,rD,zqs,Bool.not_eq_true',uG,Bool.or_eq_true,beq_iff_eq];constructor
 ·rintro⟨⟨⟨a,b⟩,c⟩,d⟩;refine⟨a,b,λi hi ht=>?_,d⟩;have:=c i hi;rw[decide_eq_true ht,Bool.true_and]at this;exact this
 ·rintro⟨a,b,c,d⟩;refine⟨⟨⟨a,b⟩,λi hi=>?_⟩,d⟩
  by_cases ht:w.Top<(i:Int)
  ·rw[c i hi ht,Bool.and_false]
  ·rw[decide_eq_false ht,Bool.false_and]
def zjW{m k:Nat}(hm:m<2^32)(hk:k<32):∃c:Nat,zcX .i64 (m:Int) (HJ .i64 1 (k:Int))=(c:Int)∧c<2^32∧∀i,Nat.testBit c i=(Nat.testBit m i&&!decide (i=k)):=by
 have hp:(2:Nat)^k<2^32:=Nat.pow_lt_pow_right (by omega) hk;refine⟨(BitVec.ofNat 64 m&&& ~~~ BitVec.ofNat 64 (2^k)).toNat,?_,?_,λi=>?_⟩
 ·rw[zk9 hk];unfold zcX;show IntKind.wrap .i64 (((BitVec.ofInt 64 (m:Int)&&& ~~~ BitVec.ofInt 64 ((2^k:Nat):Int)).toNat:Nat):Int)=_
  rw[BitVec.ofInt_natCast,BitVec.ofInt_natCast]
  have h1:(BitVec.ofNat 64 m&&& ~~~ BitVec.ofNat 64 (2^k)).toNat≤m:=by
   rw[BitVec.toNat_and,BitVec.toNat_ofNat,Nat.mod_eq_of_lt (by omega)];exact Nat.and_le_left
  exact FB (by omega) (by omega)
 ·rw[BitVec.toNat_and,BitVec.toNat_ofNat,Nat.mod_eq_of_lt (by omega)];exact Nat.lt_of_le_of_lt Nat.and_le_left hm
 ·rw[BitVec.toNat_and,BitVec.toNat_ofNat,Nat.mod_eq_of_lt (by omega),Nat.testBit_and]
  by_cases hi:i<64
  ·rw[BitVec.testBit_toNat,BitVec.getLsbD_not,decide_eq_true hi,Bool.true_and, ←BitVec.testBit_toNat,BitVec.toNat_ofNat,Nat.mod_eq_of_lt (by omega),Nat.testBit_two_pow];congr 2;rw[decide_eq_decide];exact eq_comm
  ·have:Nat.testBit m i=false:=Nat.testBit_lt_two_pow (Nat.lt_of_lt_of_le hm (Nat.pow_le_pow_right (by omega) (by omega)));rw[this,Bool.false_and,Bool.false_and]
def zj2{w:Ap}{t:Int}(h:OF w.Bits){n c m:Nat}(hm:m<2^32)(hn:w.Bits[n % 1024 / 32]?=some (m:Int))(hc:c<2^32)(hs:∀i,Nat.testBit c i=(Nat.testBit m i&&!decide (i=n % 1024 % 32)))(i:Nat):
  WC ⟨t,w.Bits.set (n % 1024 / 32) (c:Int)⟩ i=(WC w i&&!decide (i % 1024=n % 1024)):=by
 have hj:n % 1024 / 32<32:=by omega
 by_cases e:i % 1024 / 32=n % 1024 / 32
 ·rw[oK (w:=⟨t,_⟩) (h.set _ hc) (by show(w.Bits.set _ _)[i % 1024 / 32]?=_;rw[e,List.getElem?_set_self (by rw[h.1];exact hj)]) hc,hs,oK h (by rw[e];exact hn) hm];congr 2;rw[decide_eq_decide];omega
 ·obtain⟨q,hq,L2⟩:=h.get (j:=i % 1024 / 32) (by omega);rw[oK (w:=⟨t,_⟩) (h.set _ hc) (by show(w.Bits.set _ _)[i % 1024 / 32]?=_;rw[List.getElem?_set_ne (λx=>e x.symm)];exact L2) hq,oK h L2 hq,decide_eq_false (by omega),Bool.not_false,Bool.and_true]
def zvO{v w:Ap}(hv:OF v.Bits)(hw:OF w.Bits)(ht:v.Top=w.Top)(h:∀i,i<1024→(WC v i=true↔WC w i=true)):v=w:=by
 obtain⟨t,l⟩:=v;obtain⟨t',l'⟩:=w;cases ht;congr 1;refine List.ext_getElem? λj=>?_
 by_cases hj:j<32
 ·obtain⟨a,a1,a2⟩:=hv.get hj;obtain⟨b,b1,b2⟩:=hw.get hj;rw[a2,b2];congr 2;refine Nat.eq_of_testBit_eq λk=>?_
  by_cases hk:k<32
  ·have e:=h (32 *j+k) (by omega);have q:(32 *j+k) % 1024 / 32=j:=by omega
   rw[oK hv (by rw[q];exact a2) a1,oK hw (by rw[q];exact b2) b1,show(32 *j+k) % 32=k by omega]at e;exact Bool.eq_iff_iff.2 e
  ·rw[Nat.testBit_lt_two_pow (Nat.lt_of_lt_of_le a1 (Nat.pow_le_pow_right (by omega) (by omega))),Nat.testBit_lt_two_pow (Nat.lt_of_lt_of_le b1 (Nat.pow_le_pow_right (by omega) (by omega)))]
 ·rw[List.getElem?_eq_none (by rw[hv.1];omega),List.getElem?_eq_none (by rw[hw.1];omega)]
def aI(a b:Int)(i:Nat):Prop:=∃q:Int,a≤q∧q<b∧q % 1024=(i:Int) % 1024
def AO{a b:Int}{i:Nat}(h:b≤a):¬aI a b i:=λ⟨q,h1,h2,_⟩=>by omega
def zld{a b:Int}{i:Nat}(h:a≤b):aI a (b+1) i↔aI a b i∨b % 1024=(i:Int) % 1024:=by
 constructor
 ·rintro⟨q,h1,h2,h3⟩
  by_cases e:q=b
  ·exact .inr (e▸h3)
  ·exact .inl ⟨q,h1,by omega,h3⟩
 ·rintro(⟨q,h1,h2,h3⟩ | h3)
  ·exact⟨q,h1,by omega,h3⟩
  ·exact⟨b,h,by omega,h3⟩
def zlL{a b:Int}{i:Nat}(h:a+1024≤b):aI a b i:=⟨a+((i:Int) - a) % 1024,by omega,by omega,by omega⟩
def ztr{a n:Int}{i:Nat}(hi:(i:Int) % 1024≠n % 1024){s:Int}(hs:s=a∧n - 1023≤a∨s=n - 1023∧a≤n - 1023):aI s n i↔aI a (n+1) i:=by
 constructor
 ·rintro⟨q,h1,h2,h3⟩;exact⟨q,by omega,by omega,h3⟩
 ·rintro⟨q,h1,h2,h3⟩;exact⟨n - (n - q) % 1024,by omega,by omega,by omega⟩
structure SL(a:Ap)(n:Nat)(w:Ap):Prop where
 top:w.Top=AE a.Top (n:Int)
 words:OF w.Bits
 bits:∀i,WC w i=true↔(WC a i=true∧¬aI (a.Top+1) ((n:Int)+1) i)∨(i:Int) % 1024=(n:Int) % 1024
def SL.same{a v w:Ap}{n:Nat}(h:SL a n v)(k:SL a n w):v=w:=zvO h.words k.words (h.top.trans k.top.symm) λi _=>(h.bits i).trans (k.bits i).symm
def zdk{i n:Nat}:decide (i % 1024=n % 1024)=true↔(i:Int) % 1024=(n:Int) % 1024:=by rw[decide_eq_true_eq];omega
def EI(w:Ap)(n:Int):Bool:=eA n 0 281474976710655&&(decide (n>w.Top)||(decide (n≥w.Top - 1023)&&!WC w n.toNat))
def zeJ{a0 a1}(h:IC a0=true):Ok (Cs a0 a1) λr=>r=EI a0 a1:=by
 have hw:=zgd h;unfold Cs EI;rw[h,RA (a:=a0.Top) (b:=1024) (by omega) (by omega),DA (a:=a0.Top - 1024) (b:=1) (by omega) (by omega),show a0.Top - 1024+1=a0.Top - 1023 by omega];refine .j0 (.c nofun λ_=>?_);cases hi:eA a1 0 281474976710655
 ·exact .s rfl
 ·have:=YA.1 hi;refine .kf (.j0 (.c (λh=> .s (by rw[h];rfl)) λh=> .c (λk=> .m (nA ⟨by omega,hw.1⟩) (.s (by rw[h,k];rfl))) λk=> .s (by rw[h,k];rfl)))
def zt8{a w:Ap}{n:Int}(h:IC a=true)(m:EI a n=true)(k:SL a n.toNat w):IC w=true:=by
 have hp:=zch.1 h;simp only[EI,Bool.and_eq_true,YA]at m;obtain⟨i,rfl⟩:=Int.eq_ofNat_of_zero_le m.1.1;have hx:=zvl a.Top (i:Int);have ht:=k.top;have hb:=k.bits;rw[Int.toNat_natCast]at ht hb;have GZ:=hp.top;refine zch.2 ⟨by rw[ht];omega,k.words,λj hj hjt=>?_, .inr ?_⟩
 ·cases nZ:WC w j
  ·rfl
  ·rcases(hb j).1 nZ with⟨b1,_⟩ | b1
   ·have:=hp.none j hj (by omega);rw[b1]at this;exact this
   ·omega
 ·rcases hx.2 with e | e
  ·rcases hp.bit with q | q
   ·rw[hb];right;rw[ht,e];omega
   ·rw[hb]
    by_cases e2:a.Top=(i:Int)
    ·right;rw[ht,e];omega
    ·left;rw[ht,e];exact⟨q,AO (by omega)⟩
  ·rw[hb];right;rw[ht,e];omega
def za0{a0 a1}(h:IC a0=true):Ok (Ct a0 a1) λr=>r.2=EI a0 a1∧(r.2=false→r.1=a0)∧(r.2=true→SL a0 a1.toNat r.1)∧IC r.1=true:=by
 suffices key:Ok (Ct a0 a1) λr=>r.2=EI a0 a1∧(r.2=false→r.1=a0)∧(r.2=true→SL a0 a1.toNat r.1)from key.mono λr ⟨k1,k2,k3⟩=>⟨k1,k2,k3,by
  cases e:r.2
  ·rw[k2 e];exact h
  ·exact zt8 h (by rw[←k1];exact e) (k3 e)⟩
 have hL:=yB;have hw:=zch.1 h;have hwt:wt a0=32:=by have:=hw.words.1;simp only[N];exact this
 unfold Ct;refine Ok.same (nA (p:=wt a0≤bA) (by omega)) ?_;refine Ok.bind (zeJ h) (λr2 jW=>?_);rw[←jW];refine Ok.cond' (λe=>Ok.some' ⟨(by simpa using e:r2=false).symm,λ_=>rfl,nofun⟩) (λh'=>?_);simp only[B]at h';have ht:=hw.top
 have hm:True∧0≤a1∧a1≤281474976710655:=by
  rw[jW]at h';simp only[EI,Bool.and_eq_true,YA]at h';exact⟨trivial,h'.1⟩
 rw[h'];clear jW;obtain⟨n,rfl⟩:=Int.eq_ofNat_of_zero_le hm.2.1;have e1:=vT (n:=(n:Int)) (by omega);have e2:=sT (n:=(n:Int) % 1024) (by omega) (by omega);have e3:=NO (a:=(n:Int)) (b:=32) (by omega);rw[e1,e2,e3];have q1:((n:Int) % 1024 / 32).toNat=n % 1024 / 32:=by omega
 have q2:(n:Int) % 32=((n % 1024 % 32:Nat):Int):=by omega
 have s1:=DA (a:=a0.Top) (b:=1) (by omega) (by omega);have s2:=RA (a:=(n:Int)) (b:=1024) (by omega) (by omega);have s3:=DA (a:=(n:Int) - 1024) (b:=1) (by omega) (by omega)
 have hs:(AE (fA .i64 a0.Top 1) (fA .i64 (oA .i64 (n:Int) 1024) 1)=a0.Top+1∧(n:Int) - 1023≤a0.Top+1)∨(AE (fA .i64 a0.Top 1) (fA .i64 (oA .i64 (n:Int) 1024) 1)=(n:Int) - 1023∧a0.Top+1≤(n:Int) - 1023):=by
  rw[s2,s3,s1];unfold AE;split<;>omega
 generalize AE (fA .i64 a0.Top 1) (fA .i64 (oA .i64 (n:Int) 1024) 1)=s at hs⊢;refine Ok.join (λy:Ap=>OF y.Bits∧y.Top=a0.Top∧∀i,WC y i=true↔WC a0 i=true∧¬aI s (n:Int) i) (λy hy=>?_) (λk hk=>?_)
 ·obtain⟨w1,w2,w3⟩:=hy;obtain⟨m,m1,m2⟩:=w1.get (j:=n % 1024 / 32) (by omega);have hl:=w1.1;refine Ok.chk ?_ ?_
  ·simp only[B];omega
  rw[q1,m2,Option.bind_some];refine Ok.chkn ?_ ?_
  ·simp only[B];omega
  refine Ok.chk ?_ ?_
  ·simp only[B];omega
  rw[Option.bind_some,q2,(zal m1 (by omega)).1];refine Ok.some' ⟨rfl,nofun,λ_=>⟨rfl,w1.set _ (zal m1 (by omega)).2,λi=>?_⟩⟩;rw[Int.toNat_natCast,zkK (w:=y) (t:=AE a0.Top (n:Int)) w1 m1 m2,Bool.or_eq_true,w3,zdk]
  by_cases e:(i:Int) % 1024=(n:Int) % 1024
  ·simp only[e,or_true]
  ·rw[ztr e hs]
 ·refine Ok.loop (λx:Int×Ap=>(0≤x.1∧s≤x.1∧(x.1=s∨x.1≤(n:Int)))∧OF x.2.Bits∧x.2.Top=a0.Top∧∀i,WC x.2 i=true↔WC a0 i=true∧¬aI s x.1 i)
   (λx=>((n:Int) - x.1).toNat) (λx hx k' vW=>?_) ?_ ?_
  ·obtain⟨x0,x1,x2,x3⟩:=hx;obtain⟨p,hp⟩:=Int.eq_ofNat_of_zero_le x0.1;have f1:=vT x0.1;have f2:=sT (n:=x.1 % 1024) (by omega) (by omega);have f3:=NO (a:=x.1) (b:=32) (by omega);rw[f1,f2,f3];have p1:(x.1 % 1024 / 32).toNat=p % 1024 / 32:=by omega
   have p2:x.1 % 32=((p % 1024 % 32:Nat):Int):=by omega
   refine Ok.cond' (λhy=>?_) (λhy=>hk _ ⟨x1,x2,λi=>?_⟩)
   ·simp only[B]at hy;obtain⟨m,m1,m2⟩:=x1.get (j:=p % 1024 / 32) (by omega);have hl:=x1.1;refine Ok.chk ?_ ?_
    ·simp only[B];omega
    rw[p1,m2,Option.bind_some];refine Ok.chkn ?_ ?_
    ·simp only[B];omega
    refine Ok.chk ?_ ?_
    ·simp only[B];omega
    rw[Option.bind_some,p2];obtain⟨c,c1,c2,c3⟩:=zjW (k:=p % 1024 % 32) m1 (by omega);rw[c1];have g1:=DA (a:=x.1) (b:=1) (by omega) (by omega);refine vW _ ?_ ?_
    ·refine⟨by simp only;omega,x1.set _ c2,x2,λi=>?_⟩;show WC ⟨x.2.Top,_⟩ i=true↔_∧¬aI _ (fA .i64 x.1 1) i
     rw[g1,zj2 x1 m1 m2 c2 c3,Bool.and_eq_true,x3,zld (by omega),Bool.not_eq_true', ←Bool.not_eq_true,zdk,hp,not_or,and_assoc,eq_comm (a:=(i:Int) % 1024)]
    ·simp only;omega
   ·simp only[B]at hy;rw[x3]
    rcases x0.2.2 with e|e
    ·exact and_congr_right λ_=>not_congr ⟨λc=>absurd c (AO (by omega)),λc=>absurd c (AO (by omega))⟩
    ·rw[show x.1=(n:Int)by omega]
  ·have ht:=hw.top;exact⟨⟨by simp only;omega,by simp only;omega, .inl rfl⟩,hw.words,rfl,λi=>⟨λh=>⟨h,AO (Int.le_refl _)⟩,λh=>h.1⟩⟩
  ·simp only;omega
end Go.D
namespace Go.D
structure SvP(s:Ac):Prop where
 len:1≤s.Psks.length∧s.Psks.length≤9
 jar:gF s.J=true
 dice:YB s.D=true
 tab:GC s.T=true
 cr:pC s.Cr=true
 psk:∀b∈s.Psks,JC b=true
 id:∀e∈s.T.L,e.Id≤(s.Psks.length:Int)
def nE{s:Ac}:wB s=true↔SvP s:=by
 unfold wB;simp only[ZG,YA,Bool.not_eq_true',List.any_eq_false,Bool.not_eq_true,Bool.not_eq_false',decide_eq_false_iff_not,Bool.not_eq_false];constructor
 ·rintro⟨⟨⟨⟨⟨⟨a,b⟩,c⟩,d⟩,e⟩,f⟩,g⟩;exact⟨by omega,b,c,d,e,λx hx=>by simpa using f x hx,λx hx=>by have:=g x hx;simp at this;omega⟩
 ·rintro⟨a,b,c,d,e,f,g⟩;exact⟨⟨⟨⟨⟨⟨by omega,b⟩,c⟩,d⟩,e⟩,λx hx=>by simpa using f x hx⟩,λx hx=>by have:=g x hx;simp;omega⟩
def VH{a d:Ac}(h:wB a=true)(hp:d.Psks=a.Psks)(hj:gF d.J=true)(hd:YB d.D=true)(ht:GC d.T=true)(hc:pC d.Cr=true)(hi:∀e∈d.T.L,e.Id≤(a.Psks.length:Int)):wB d=true:=by
 have s:=nE.1 h;exact nE.2 ⟨by rw[hp];exact s.len,hj,hd,ht,hc,by rw[hp];exact s.psk,by rw[hp];exact hi⟩
def CE(l:List Aq):Prop:=∀o∈l,EA o.To=true
theorem iH:CE []:=λ_ h=>nomatch h
theorem CO{o:Aq}{l:List Aq}:CE (o :: l)↔EA o.To=true∧CE l:=by simp[CE]
theorem zgq{l m:List Aq}:CE (l++m)↔CE l∧CE m:=by
 simp only[CE,List.mem_append];exact⟨λh=>⟨λn k=>h n (.inl k),λn k=>h n (.inr k)⟩,λh n k=>k.elim (h.1 n) (h.2 n)⟩
theorem fF{s:Ah}(h:TB s=true):wt s≤235∧1≤s.Id∧s.Id≤9∧s.Cn.length=12∧s.Sn.length=12:=by
 have h1:=(BL h).1;simp only[TB,mA,Bool.and_eq_true,beq_iff_eq,YA]at h;omega
theorem kN{s:Ah}(h:TB s=true)(k:s.Dead=false):rB s.C=true∧s.C.Role=1∧s.C.Sn=s.Sn∧VB s.P=true∧EA s.P.At=true∧eA s.Last 0 1000000=true:=by
 simp only[TB,k,cond_false,Bool.and_eq_true,beq_iff_eq]at h;exact⟨h.2.1.1.1.1,h.2.1.1.1.2,h.2.1.1.2,h.2.1.2,(XJ.1 h.2.1.2).at_,h.2.2⟩
theorem TM{a:Ah}{c:Aj}{p:Ai}{l:Int}(h:TB a=true)(hc:rB c=true)(hr:c.Role=1)(hs:c.Sn=a.Sn)(hp:VB p=true)(hl:eA l 0 1000000=true)(k:a.Dead=false):
  BE a ⟨a.Id,a.Cn,a.Sn,c,p,a.Tick,l,a.Dead⟩:=by
 refine⟨?_,rfl,rfl,rfl,id⟩;simp only[TB,k,cond_false,Bool.and_eq_true,beq_iff_eq]at h⊢;exact⟨h.1,⟨⟨⟨hc,hr⟩,hs⟩,hp⟩,hl⟩
def zjw{a b c:Ah}(h:BE a b)(k:BE b c):BE a c:=⟨k.1,k.2.1.trans h.2.1,k.2.2.1.trans h.2.2.1,k.2.2.2.1.trans h.2.2.2.1,λd=>k.2.2.2.2 (h.2.2.2.2 d)⟩
def zlZ{f:Ab}(h:TA f=true)(k:f.Kind=3):f.Cn.length=12∧f.Sn.length=12∧1≤f.Id∧f.Id≤9∧0≤f.Tick∧f.Tick≤1000000∧f.Cookie.length=16:=by
 unfold TA at h;rw[k]at h;have h:(f.Epoch==0&&f.Seq==0&&(f.Body.length:Int)==0&&(f.Tag.length:Int)==0&&(f.Cn.length:Int)==12&&(true&&eA f.Id 1 9&&(f.Sn.length:Int)==12&&eA f.Tick 0 1000000&&(f.Cookie.length:Int)==16&&(f.Proof.length:Int)==16))=true:=h;simp only[ZG,beq_iff_eq,YA,true_and]at h;omega
theorem zaf{f:Ab}(h:TA f=true)(k:f.Kind=2):f.Cn.length=12∧f.Sn.length=12∧0≤f.Tick∧f.Tick≤1000000∧f.Cookie.length=16∧f.Epoch=0∧f.Seq=0∧f.Body.length=0∧f.Tag.length=0:=by
 unfold TA at h;rw[k]at h;have h:(f.Epoch==0&&f.Seq==0&&(f.Body.length:Int)==0&&(f.Tag.length:Int)==0&&(f.Cn.length:Int)==12&&(f.Id==0&&(f.Sn.length:Int)==12&&eA f.Tick 0 1000000&&(f.Cookie.length:Int)==16&&(f.Proof.length:Int)==0))=true:=h;simp only[ZG,beq_iff_eq,YA]at h;omega
def zgL{f:Ab}(h:TA f=true)(k:nB f.Kind=true):f.Sn.length=12∧0≤f.Epoch∧f.Epoch≤4294967295∧0≤f.Seq∧f.Seq≤281474976710655∧f.Body.length≤40:=by
 have hb:=LC h;unfold TA at h;rw[k,cond_true]at h;simp only[ZG,beq_iff_eq,YA]at h;omega
def zuh{c:Int}{l:List Ah}{s:Ah}:0≤XB ⟨c,l++[s]⟩ s.Sn:=by
 unfold XB
 rcases KG (l++[s]).length (eF ⟨c,l++[s]⟩ s.Sn)with⟨h3,h4⟩|⟨m,_,_,_,h4⟩
 ·have:=uO (i:=l.length) (by rw[h3];rfl) (by simp);simp[eF]at this
 ·rw[h4];omega
def zjH{t:Ao}{b:List UInt8}{e:Ah}(h:0≤XB t b)(k:t.L[(XB t b).toNat]?=some e):e.Sn=b:=by
 unfold XB at h k
 rcases KG t.L.length (eF t b)with⟨_,h4⟩|⟨m,h1,h2,_,h4⟩
 ·omega
 ·rw[h4,Int.toNat_natCast]at k;unfold eF at h2;rw[k,Option.any_some]at h2;exact eq_of_beq h2
def ztK{a:Af}(h:EA a=true):VB ⟨a,[]⟩=true:=XJ.2 ⟨h,Nat.zero_le _,λ_ h=>(nomatch h), .nil⟩
def zxi{n:Int}(h:0≤n∧n≤1000000):GB .i64 2 n=2 *n:=by unfold GB;rw[FB (by omega) (by omega)]
def HT{c:Ae}(h:fB c=true)(k:c.St=3):rB c.C=true∧c.C.Role=0∧mD c.R=true∧c.R.On=decide ((c.C.Next.length:Int)>0)∧c.Cn.length=12:=by grind [fB,mA]
def zw8{t:Au}(h:mD t=true):t.On=true→(t.Wait=1∨t.Wait=2∨t.Wait=4∨t.Wait=8)∧(1≤t.Tries∧t.Tries≤5)∧0≤t.Due∧t.Due≤1000008:=by grind [mD,eA]
def zqf:Ok Jo λr=>IC r=true∧wt r=32∧r.Top= -1:=⟨_,rfl,by decide+kernel,rfl,rfl⟩
end Go.D
namespace Go.D
def zlv{f:Af}:SI [] f:=λ_ h=>nomatch h
def zvy:oP []:=λ_ h=>nomatch h
structure WoP(w:Aa):Prop where
 now:eA w.Now 0 1000000=true
 cl:w.Clients.length=2
 srv:wB w.S=true
 psl:w.S.Psks.length=2
 dice:YB w.D=true
 seen:DD w.Seen=true
 kl:w.Known.length≤12
 ci:∀(i:Nat) (c:Ae),w.Clients[i]?=some c→fB c=true∧c.Id=(i:Int)+1∧∀p,w.S.Psks[i]?=some p→c.Psk=p
 kn:∀b∈w.Known,b.length=32
 notes:WB w.Notes
def UB{w:Aa}:NA w=true↔WoP w:=by
 unfold NA pI;simp only[ZG,Bool.not_eq_true',beq_iff_eq,decide_eq_true_eq,List.any_eq_false,uG];constructor
 ·rintro⟨⟨⟨⟨⟨⟨⟨⟨⟨h1,h2⟩,h3⟩,h4⟩,h5⟩,h6⟩,h7⟩,h8⟩,h9⟩,gW⟩;refine⟨h1,by omega,h3,by omega,h5,h6,by omega,λi c hc=>?_,λb hb=>by have:=h9 b hb;simp at this;omega,λn hn=>by simpa using gW n hn⟩;have hi:=(List.getElem?_eq_some_iff.1 hc).1;have:=h8 i (by omega);rw[hc,List.getElem?_eq_getElem (l:=w.S.Psks) (by omega)]at this;simp only[Option.any_some,Bool.or_eq_false_iff,Bool.not_eq_false',bne_eq_false_iff_eq,beq_iff_eq]at this;refine⟨this.1.1,by have:=this.1.2;omega,λp hp=>?_⟩;rw[List.getElem?_eq_getElem (by omega)]at hp;cases hp;exact this.2
 ·rintro⟨h1,h2,h3,h4,h5,h6,h7,h8,h9,gW⟩;refine⟨⟨⟨⟨⟨⟨⟨⟨⟨h1,by omega⟩,h3⟩,by omega⟩,h5⟩,h6⟩,by omega⟩,λi hi=>?_⟩,λb hb=>by have:=h9 b hb;simp;omega⟩,λn hn=>by simpa using gW n hn⟩;rw[List.getElem?_eq_getElem (l:=w.Clients) (by omega),List.getElem?_eq_getElem (l:=w.S.Psks) (by omega)];obtain⟨a,b,c⟩:=h8 i _ (List.getElem?_eq_getElem (by omega));have e:=c _ (List.getElem?_eq_getElem (by omega));simp only[Option.any_some,Bool.or_eq_false_iff,Bool.not_eq_false',bne_eq_false_iff_eq,beq_iff_eq];exact⟨⟨a,by omega⟩,e⟩
def zb9{w:Aa}{i:Nat}{c d:Ae}{ns:List Ad}(h:NA w=true)(hc:w.Clients[i]?=some c)(h1:fB d=true)(h2:d.Id=c.Id)(h3:d.Psk=c.Psk)(h4:WB ns):
  NA ⟨w.Now,w.Clients.set i d,w.S,w.D,w.Seen,w.Known,w.Notes++ns⟩=true:=by
 have p:=UB.1 h;obtain⟨_,q2,q3⟩:=p.ci i c hc;refine UB.2 ⟨p.now,by show(w.Clients.set i d).length=2;rw[List.length_set];exact p.cl,p.srv,p.psl,p.dice,p.seen,p.kl,λj e he=>?_,p.kn,sE.2 ⟨p.notes,h4⟩⟩;have he:(w.Clients.set i d)[j]?=some e:=he;rw[List.getElem?_set]at he
 by_cases C5:i=j
 ·subst C5;rw[if_pos rfl,if_pos (List.getElem?_eq_some_iff.1 hc).1]at he;cases he;exact⟨h1,h2.trans q2,λp hp=>h3.trans (q3 p hp)⟩
 ·rw[if_neg C5]at he;exact p.ci j e he
def zfy{w:Aa}{s:Ac}{ns:List Ad}(h:NA w=true)(h1:wB s=true)(h2:s.Psks=w.S.Psks)(h4:WB ns):NA ⟨w.Now,w.Clients,s,w.D,w.Seen,w.Known,w.Notes++ns⟩=true:=by
 have p:=UB.1 h;exact UB.2 ⟨p.now,p.cl,h1,by show s.Psks.length=2;rw[h2];exact p.psl,p.dice,p.seen,p.kl,λi c hc=>by have:=p.ci i c hc;rw[←h2]at this;exact this,p.kn,sE.2 ⟨p.notes,h4⟩⟩
def zvo{w:Aa}{d:Ar}(h:NA w=true)(h1:YB d=true):NA ⟨w.Now,w.Clients,w.S,d,w.Seen,w.Known,w.Notes⟩=true:=by
 have p:=UB.1 h;exact UB.2 ⟨p.now,p.cl,p.srv,p.psl,h1,p.seen,p.kl,p.ci,p.kn,p.notes⟩
def zwM{w:Aa}(h:NA w=true)(h1:w.Now≠1000000):NA ⟨fA .i64 w.Now 1,w.Clients,w.S,w.D,w.Seen,w.Known,w.Notes⟩=true:=by
 have p:=UB.1 h;have hn:=YA.1 p.now;exact UB.2 ⟨by rw[YA];show 0≤fA .i64 w.Now 1∧fA .i64 w.Now 1≤1000000;rw[DA (by omega) (by omega)];omega,p.cl,p.srv,p.psl,p.dice,p.seen,p.kl,p.ci,p.kn,p.notes⟩
def zvM{w:Aa}{l:List Al}(h:NA w=true)(h1:DD l=true):NA ⟨w.Now,w.Clients,w.S,w.D,l,w.Known,w.Notes⟩=true:=by
 have p:=UB.1 h;exact UB.2 ⟨p.now,p.cl,p.srv,p.psl,p.dice,h1,p.kl,p.ci,p.kn,p.notes⟩
def zu1{w:Aa}{l:List (List UInt8)}{ns:List Ad}(h:NA w=true)(h1:∀b∈l,b.length=32)(h2:w.Known.length+l.length≤12)(h4:WB ns):NA ⟨w.Now,w.Clients,w.S,w.D,w.Seen,w.Known++l,w.Notes++ns⟩=true:=by
 have p:=UB.1 h;exact UB.2 ⟨p.now,p.cl,p.srv,p.psl,p.dice,p.seen,by show(w.Known++l).length≤12;rw[List.length_append];exact h2,p.ci,λb hb=>(List.mem_append.1 hb).elim (p.kn b) (h1 b),sE.2 ⟨p.notes,h4⟩⟩
def zK{w:Aa}{c:Ae}(h:NA w=true)(hc:c∈w.Clients):fB c=true:=by
 obtain⟨i,hi,rfl⟩:=List.getElem_of_mem hc;exact((UB.1 h).ci i _ (List.getElem?_eq_getElem hi)).1
def zdO{c:Ae}(h:fB c=true):EA c.At=true:=by grind [fB]
def zlj{r:List UInt8}(h:r.length=12):gF (TH r)=true:=by
 rw[TH,show mA r=true by rw[mA,h];rfl];show(((fN r [106,97,114]).length:Int)==32)=true
 rw[xL (by omega) (by decide)];rfl
def zlu{n:Int}(h:1≤n∧n≤6):GC (OE n)=true:=by
 unfold OE;rw[YA.2 h];exact JE.2 ⟨h,Nat.zero_le _,by show((0:Nat):Int)≤n;omega,λ_ h=>(nomatch h), .nil⟩
def ziK{n:Int}(h:1≤n∧n≤6):(OE n).L=[]:=by unfold OE;rw[YA.2 h];rfl
def zxe(b:List UInt8)(f n:Int):(cut b f n).1.length≤b.length:=by
 unfold cut;cases decide (f<0)||(decide (n<0)||(decide (f>(b.length:Int))||decide (n>(b.length:Int) - f)))
 ·simp[List.length_take];omega
 ·simp
def zzn{c:Ae}(h:fB c=true)(k:c.St=1):JC c.Psk=true∧c.Cn.length=12∧GF c.R=true∧c.Last=0∧1≤c.Id∧c.Id≤9∧EA c.At=true:=by grind [fB,mA,eA]
def zmw{c:Ae}(h:fB c=true)(k:c.St=2∨c.St=3):rB c.C=true∧c.C.Role=0∧c.Cn.length=12∧mD c.R=true∧1≤c.Id∧c.Id≤9:=by grind [fB,oJ,mA,eA,mD,GF]
end Go.D

/-
 Sizes of the program's data.
-/
import Derived.Test.YtkpkommmdacjlaaGreatN7
import Derived.Test.YtkpkommmdacjlaaGreatN11
import Derived.Test.YtkpkommmdacjlaaGreatL0
set_option linter.all false
namespace Go.D
end Go.D
namespace Go.D
end Go.D
namespace Go.D
open Option renaming bind→ob
noncomputable section
def Ea(a0:List Ab)(a1:Ab):Option (List Ab):=
 ob (eA a0) λr1=>
 DA (λy2=>
 cond (y2)
 (some r1)
 (cond (decide (([]:List UInt8).length+a1.B.length≤nA)) (cond (decide (r1.length+[(⟨a1.From,a1.To,[]++a1.B⟩:Ab)].length≤nA)) (some (r1++[(⟨a1.From,a1.To,[]++a1.B⟩:Ab)])) none) none)) λk3=>
 cond (!(DD a0))
 (k3 true)
 (cond (!(KD a1))
 (k3 true)
 (k3 ((a0.length:Int)==90)))
def Es(a0:Aa)(a1:List Ab):Option Aa:=
 ob (eA a0) λr1=>
 DA (λ(y2:Aa)=>
 some y2) λk3=>
 KA FU (λ(x4:Int×Aa) k5=>
 cond (decide (x4.1<(a1.length:Int)))
 (ob (NA a1 x4.1) λe6=>
 ob (Ea x4.2.Seen e6) λr7=>
 k5 ((PA .i64 x4.1 1),(⟨x4.2.Now,x4.2.Clients,x4.2.S,x4.2.D,r7,x4.2.Known,x4.2.Notes⟩:Aa)))
 (k3 x4.2)) (0,r1)
def Av{R:Type}(x:Ao)(k:Int)(K:Ao→Int→Option R):Option R:=
 ob (rC .byte x.Secret k) λr1=>
 K (⟨r1.1⟩:Ao) r1.2
def vD.F(x:Ao)(k:Int):Option (Ao×Int):=Av x k λz k=>some (z,k)
def Aw{R:Type}(x:Ak)(k:Int)(K:Ak→Int→Option R):Option R:=
 ob (rC .byte x.Seed k) λr1=>
 K (⟨r1.1,x.N⟩:Ak) r1.2
def iD.F(x:Ak)(k:Int):Option (Ak×Int):=Aw x k λz k=>some (z,k)
def Ax{R:Type}(x:Am)(k:Int)(K:Am→Int→Option R):Option R:=
 ob (rC .Sess x.L k) λr1=>
 K (⟨x.Cap,r1.1⟩:Am) r1.2
def wD.F(x:Am)(k:Int):Option (Am×Int):=Ax x k λz k=>some (z,k)
def Ay{R:Type}(x:Ad)(k:Int)(K:Ad→Int→Option R):Option R:=
 ob (rC .bs x.Psks k) λr1=>
 ob (vD.F x.J r1.2) λr2=>
 ob (iD.F x.D r2.2) λr3=>
 ob (wD.F x.T r3.2) λr4=>
 ob (rC .Credit x.Cr r4.2) λr5=>
 K (⟨r1.1,r2.1,r3.1,r4.1,r5.1⟩:Ad) r5.2
def uD.F(x:Ad)(k:Int):Option (Ad×Int):=Ay x k λz k=>some (z,k)
def Az{R:Type}(x:Aa)(k:Int)(K:Aa→Int→Option R):Option R:=
 ob (rC .Client x.Clients k) λr1=>
 ob (uD.F x.S r1.2) λr2=>
 ob (iD.F x.D r2.2) λr3=>
 ob (rC .Wire x.Seen r3.2) λr4=>
 ob (rC .bs x.Known r4.2) λr5=>
 ob (rC .Note x.Notes r5.2) λr6=>
 K (⟨x.Now,r1.1,r2.1,r3.1,r4.1,r5.1,r6.1⟩:Aa) r6.2
def gD.F(x:Aa)(k:Int):Option (Aa×Int):=Az x k λz k=>some (z,k)
def Eb(a0:Ao)(a1:Int):Option Int:=
 ob (FC .byte a0.Secret a1) λr1=>
 cond (decide (r1<0))
 (some (-1))
 (some r1)
def Be(a0:Ak)(a1:Int):Option Int:=
 ob (FC .byte a0.Seed a1) λr1=>
 cond (decide (r1<0))
 (some (-1))
 (some r1)
def Ec(a0:Am)(a1:Int):Option Int:=
 ob (FC .Sess a0.L a1) λr1=>
 cond (decide (r1<0))
 (some (-1))
 (some r1)
def Ed(a0:Ad)(a1:Int):Option Int:=
 ob (FC .bs a0.Psks a1) λr1=>
 cond (decide (r1<0))
 (some (-1))
 (ob (Eb a0.J r1) λr2=>
 cond (decide (r2<0))
 (some (-1))
 (ob (Be a0.D r2) λr3=>
 cond (decide (r3<0))
 (some (-1))
 (ob (Ec a0.T r3) λr4=>
 cond (decide (r4<0))
 (some (-1))
 (ob (FC .Credit a0.Cr r4) λr5=>
 cond (decide (r5<0))
 (some (-1))
 (some r5)))))
def Bf(a0:Aa)(a1:Int):Option Int:=
 ob (FC .Client a0.Clients a1) λr1=>
 cond (decide (r1<0))
 (some (-1))
 (ob (Ed a0.S r1) λr2=>
 cond (decide (r2<0))
 (some (-1))
 (ob (Be a0.D r2) λr3=>
 cond (decide (r3<0))
 (some (-1))
 (ob (FC .Wire a0.Seen r3) λr4=>
 cond (decide (r4<0))
 (some (-1))
 (ob (FC .bs a0.Known r4) λr5=>
 cond (decide (r5<0))
 (some (-1))
 (ob (FC .Note a0.Notes r5) λr6=>
 cond (decide (r6<0))
 (some (-1))
 (some r6))))))
def Et(a0:Aa)(a1:List Ab):Option Bool:=
 ob (vA a0 1048576) λr1=>
 cond (decide (r1<0))
 (some true)
 (ob (vA a1 r1) λr2=>
 cond (decide (r2<0))
 (some true)
 (ob (eA a0) λr3=>
 ob (eA a1) λr4=>
 ob (Es r3 r4) λr5=>
 ob (eA a0) λr6=>
 ob (eA a1) λr7=>
 ob (Dz r6 r7) λr8=>
 cond (!(mA r8 r5))
 (some false)
 (ob (eA a0) λr9=>
 cond (!(mA r6 r9))
 (some false)
 (ob (eA a1) λr10=>
 cond (!(mA r7 r10))
 (some false)
 (ob (gD.F r6 1) λr11=>
 ob (rC .Wire r7 r11.2) λr12=>
 cond (decide (r12.2<0))
 (some false)
 (cond (!(mA r8 r5))
 (some false)
 (ob (gD.F r8 1) λr13=>
 ob (Bf r13.1 1) λr14=>
 cond (decide (r14<0))
 (some false)
 (cond (r14 !=r13.2)
 (some false)
 (ob (eA a0) λr15=>
 ob (eA a1) λr16=>
 ob (Dz r15 r16) λr17=>
 cond (!(mA r17 r5))
 (some false)
 (ob (Bf r13.1 1) λr18=>
 cond (decide (r18<0))
 (some false)
 (cond (r18 !=r13.2)
 (some false)
 (some true))))))))))))
end
end Go.D
namespace Go.D
open Option renaming bind→ob
noncomputable section
def VD{o:Option Int}{m:Int}(h:o=some m)(hm:0≤m)(K:Int→Option Int):(ob o λr=>cond (decide (r<0)) (some (-1)) (K r))=K m:=by
 have:decide (m<0)=false:=by simp;omega
 rw[h,WB,this];rfl
def UD{α β:Type}{o:Option α}{v:α}(h:o=some v)(K:α→Option β):ob o K=K v:=by rw[h];rfl
def gT{α:Type}[Wt α]:∀l:List α,wt l=DC (λx=>wt x+1) l
 | []=>rfl
 | x :: l=>by rw[sE,gT l];simp only[DC];omega
def NG:V→Nat
 | .sl t l=>(mf t).ms l
 | _=>0
def FF:List V→Nat
 | []=>0
 | c :: cs=>NG c+FF cs
def MS:∀cs:List V,SB mf cs=cs.length+FF cs
 | []=>rfl
 | c :: cs=>by
  have h:bC mf c=1+NG c:=by cases c<;>rfl
  rw[SB,MS cs,FF,h,List.length_cons];omega
def zdH(t:TN):sz t≤64:=by cases t<;>decide
def VF{t:TN}[Wt (El t)](h:∀x:El t,FF (enc t x)≤64 *wt x)(l:List (El t)):(mf t).ms l≤64 *wt l:=by
 rw[lH,gT];show DC (λx=>SB mf (enc t x)) l≤_
 induction l with
 | nil=>exact Nat.zero_le _
 | cons x l ih=>
  have:=h x;have:=zdH t;simp only[DC];rw[MS,WA];omega
def dC(l:List UInt8):(mf .byte).ms l≤64 *wt l:=VF (t:= .byte) (λx=>Nat.zero_le _) l
def aN(l:List Int):(mf .int).ms l≤64 *wt l:=VF (t:= .int) (λx=>Nat.zero_le _) l
def uT(l:List (List UInt8)):(mf .bs).ms l≤64 *wt l:=VF (t:= .bs) (λx=>dC x) l
def VB{a b:Nat}(h:a≤64 *b):∃n w,a=n∧b=w∧n≤64 *w:=⟨a,b,rfl,rfl,h⟩
def zdS(l:List Aj):(mf .Cand).ms l≤64 *wt l:=VF (t:= .Cand) (λx=>by
 obtain⟨n0,w0,e0,f0,h0⟩:=VB (dC x.Draw);simp only[uG,sB,enc,MM,FF,NG,Nat.zero_add,e0,f0];clear e0 f0;omega) l
def zdc(l:List Ag):(mf .Sess).ms l≤64 *wt l:=VF (t:= .Sess) (λx=>by
 obtain⟨n0,w0,e0,f0,h0⟩:=VB (dC x.Cn);obtain⟨n1,w1,e1,f1,h1⟩:=VB (dC x.Sn);obtain⟨n2,w2,e2,f2,h2⟩:=VB (dC x.C.Sn);obtain⟨n3,w3,e3,f3,h3⟩:=VB (dC x.C.Cur.Key);obtain⟨n4,w4,e4,f4,h4⟩:=VB (aN x.C.Cur.Win.Bits);obtain⟨n5,w5,e5,f5,h5⟩:=VB (dC x.C.Old.Key);obtain⟨n6,w6,e6,f6,h6⟩:=VB (aN x.C.Old.Win.Bits);obtain⟨n7,w7,e7,f7,h7⟩:=VB (dC x.C.Next);obtain⟨n8,w8,e8,f8,h8⟩:=VB (zdS x.P.Cands);simp only[PE,tE,YE,ZF,oG,sB,enc,QM,FF,NG,Nat.zero_add,e0,f0,e1,f1,e2,f2,e3,f3,e4,f4,e5,f5,e6,f6,e7,f7,e8,f8];clear e0 f0 e1 f1 e2 f2 e3 f3 e4 f4 e5 f5 e6 f6 e7 f7 e8 f8;omega) l
def zbH(l:List Af):(mf .Credit).ms l≤64 *wt l:=VF (t:= .Credit) (λx=>by
 simp only[ZQ,sB,enc,XI,FF,NG,Nat.zero_add];omega) l
def zby(l:List Ac):(mf .Client).ms l≤64 *wt l:=VF (t:= .Client) (λx=>by
 obtain⟨n0,w0,e0,f0,h0⟩:=VB (dC x.Psk);obtain⟨n1,w1,e1,f1,h1⟩:=VB (dC x.Cn);obtain⟨n2,w2,e2,f2,h2⟩:=VB (dC x.Fin.Cn);obtain⟨n3,w3,e3,f3,h3⟩:=VB (dC x.Fin.Sn);obtain⟨n4,w4,e4,f4,h4⟩:=VB (dC x.Fin.Cookie);obtain⟨n5,w5,e5,f5,h5⟩:=VB (dC x.Fin.Proof);obtain⟨n6,w6,e6,f6,h6⟩:=VB (dC x.Fin.Body);obtain⟨n7,w7,e7,f7,h7⟩:=VB (dC x.Fin.Tag);obtain⟨n8,w8,e8,f8,h8⟩:=VB (dC x.C.Sn);obtain⟨n9,w9,e9,f9,h9⟩:=VB (dC x.C.Cur.Key);obtain⟨n10,w10,e10,f10,tX⟩:=VB (aN x.C.Cur.Win.Bits);obtain⟨n11,w11,e11,f11,uX⟩:=VB (dC x.C.Old.Key);obtain⟨n12,w12,e12,f12,WX⟩:=VB (aN x.C.Old.Win.Bits);obtain⟨n13,w13,e13,f13,pY⟩:=VB (dC x.C.Next);simp only[KE,sB,dE,tE,YE,ZF,HD,enc,nM,FF,NG,Nat.zero_add,e0,f0,e1,f1,e2,f2,e3,f3,e4,f4,e5,f5,e6,f6,e7,f7,e8,f8,e9,f9,e10,f10,e11,f11,e12,f12,e13,f13];clear e0 f0 e1 f1 e2 f2 e3 f3 e4 f4 e5 f5 e6 f6 e7 f7 e8 f8 e9 f9 e10 f10 e11 f11 e12 f12 e13 f13;omega) l
def kS(l:List Ab):(mf .Wire).ms l≤64 *wt l:=VF (t:= .Wire) (λx=>by
 obtain⟨n0,w0,e0,f0,h0⟩:=VB (dC x.B);simp only[RF,sB,enc,GM,FF,NG,Nat.zero_add,e0,f0];clear e0 f0;omega) l
def zdR(l:List Ae):(mf .Note).ms l≤64 *wt l:=VF (t:= .Note) (λx=>by
 obtain⟨n0,w0,e0,f0,h0⟩:=VB (dC x.Cn);obtain⟨n1,w1,e1,f1,h1⟩:=VB (dC x.Sn);obtain⟨n2,w2,e2,f2,h2⟩:=VB (dC x.Body);obtain⟨n3,w3,e3,f3,h3⟩:=VB (dC x.Key);simp only[QE,sB,enc,UM,FF,NG,Nat.zero_add,e0,f0,e1,f1,e2,f2,e3,f3];clear e0 f0 e1 f1 e2 f2 e3 f3;omega) l
def tJ(x:Ao):Nat:=(mf .byte).ms x.Secret
def zci(x:Ao):tJ x≤64 *wt x:=by
 have h0:=dC x.Secret;rw[BG];simp only[tJ];omega
def zeb(x:Ao){k:Int}(hk:0≤k)(hb:k+(tJ x:Nat)≤IB):∃y m,vD.F x k=some (y,m)∧k≤m∧m≤k+(tJ x:Nat)∧Eb y k=some m:=by
 simp only[tJ]at hb⊢
 push_cast at hb⊢
 obtain⟨y1,m1,a1,b1,c1,d1⟩:=mh .byte x.Secret hk (by omega);refine⟨⟨y1⟩,m1,?_,by omega,by omega,?_⟩
 ·simp only[vD.F,Av];rw[UD a1]
 ·simp only[Eb];rw[VD d1 (by omega)]
def vD.nat(u:Value)(x:Ao)(k:Int)(r:Ao×Int)(h:vD.F x k=some r):(Av x k λz k=>some (z,k,u))=some (r.1,r.2,u):=by
 have e:(Av x k λz k=>some (z,k,u))=ob (vD.F x k) λr=>some (r.1,r.2,u):=by simp only[Av,vD.F,Option.bind_assoc,Option.bind_some]
 rw[e,h];rfl
def dH(x:Ak):Nat:=(mf .byte).ms x.Seed
def aR(x:Ak):dH x≤64 *wt x:=by
 have h0:=dC x.Seed;rw[LF];simp only[dH];omega
def OS(x:Ak){k:Int}(hk:0≤k)(hb:k+(dH x:Nat)≤IB):∃y m,iD.F x k=some (y,m)∧k≤m∧m≤k+(dH x:Nat)∧Be y k=some m:=by
 simp only[dH]at hb⊢
 push_cast at hb⊢
 obtain⟨y1,m1,a1,b1,c1,d1⟩:=mh .byte x.Seed hk (by omega);refine⟨⟨y1,x.N⟩,m1,?_,by omega,by omega,?_⟩
 ·simp only[iD.F,Aw];rw[UD a1]
 ·simp only[Be];rw[VD d1 (by omega)]
def iD.nat(u:Value)(x:Ak)(k:Int)(r:Ak×Int)(h:iD.F x k=some r):(Aw x k λz k=>some (z,k,u))=some (r.1,r.2,u):=by
 have e:(Aw x k λz k=>some (z,k,u))=ob (iD.F x k) λr=>some (r.1,r.2,u):=by simp only[Aw,iD.F,Option.bind_assoc,Option.bind_some]
 rw[e,h];rfl
def sJ(x:Am):Nat:=(mf .Sess).ms x.L
def zcH(x:Am):sJ x≤64 *wt x:=by
 have h0:=zdc x.L;rw[gH];simp only[sJ];omega
def zd5(x:Am){k:Int}(hk:0≤k)(hb:k+(sJ x:Nat)≤IB):∃y m,wD.F x k=some (y,m)∧k≤m∧m≤k+(sJ x:Nat)∧Ec y k=some m:=by
 simp only[sJ]at hb⊢
 push_cast at hb⊢
 obtain⟨y1,m1,a1,b1,c1,d1⟩:=mh .Sess x.L hk (by omega);refine⟨⟨x.Cap,y1⟩,m1,?_,by omega,by omega,?_⟩
 ·simp only[wD.F,Ax];rw[UD a1]
 ·simp only[Ec];rw[VD d1 (by omega)]
def wD.nat(u:Value)(x:Am)(k:Int)(r:Am×Int)(h:wD.F x k=some r):(Ax x k λz k=>some (z,k,u))=some (r.1,r.2,u):=by
 have e:(Ax x k λz k=>some (z,k,u))=ob (wD.F x k) λr=>some (r.1,r.2,u):=by simp only[Ax,wD.F,Option.bind_assoc,Option.bind_some]
 rw[e,h];rfl
def cJ(x:Ad):Nat:=(mf .bs).ms x.Psks+tJ x.J+dH x.D+sJ x.T+(mf .Credit).ms x.Cr
def zaK(x:Ad):cJ x≤64 *wt x:=by
 have h0:=uT x.Psks;have h1:=zci x.J;have h2:=aR x.D;have h3:=zcH x.T;have h4:=zbH x.Cr;rw[qE];simp only[cJ];omega
def zbl(x:Ad){k:Int}(hk:0≤k)(hb:k+(cJ x:Nat)≤IB):∃y m,uD.F x k=some (y,m)∧k≤m∧m≤k+(cJ x:Nat)∧Ed y k=some m:=by
 simp only[cJ]at hb⊢
 push_cast at hb⊢
 obtain⟨y1,m1,a1,b1,c1,d1⟩:=mh .bs x.Psks hk (by omega);obtain⟨y2,m2,a2,b2,c2,d2⟩:=zeb x.J (show(0:Int)≤m1 by omega) (by omega);obtain⟨y3,m3,a3,b3,c3,d3⟩:=OS x.D (show(0:Int)≤m2 by omega) (by omega);obtain⟨y4,m4,a4,b4,c4,d4⟩:=zd5 x.T (show(0:Int)≤m3 by omega) (by omega);obtain⟨y5,m5,a5,b5,c5,d5⟩:=mh .Credit x.Cr (show(0:Int)≤m4 by omega) (by omega);refine⟨⟨y1,y2,y3,y4,y5⟩,m5,?_,by omega,by omega,?_⟩
 ·simp only[uD.F,Ay];rw[UD a1,UD a2,UD a3,UD a4,UD a5]
 ·simp only[Ed];rw[VD d1 (by omega),VD d2 (by omega),VD d3 (by omega),VD d4 (by omega),VD d5 (by omega)]
def uD.nat(u:Value)(x:Ad)(k:Int)(r:Ad×Int)(h:uD.F x k=some r):(Ay x k λz k=>some (z,k,u))=some (r.1,r.2,u):=by
 have e:(Ay x k λz k=>some (z,k,u))=ob (uD.F x k) λr=>some (r.1,r.2,u):=by simp only[Ay,uD.F,Option.bind_assoc,Option.bind_some]
 rw[e,h];rfl
def AK(x:Aa):Nat:=(mf .Client).ms x.Clients+cJ x.S+dH x.D+(mf .Wire).ms x.Seen+(mf .bs).ms x.Known+(mf .Note).ms x.Notes
def vQ(x:Aa):AK x≤64 *wt x:=by
 have h0:=zby x.Clients;have h1:=zaK x.S;have h2:=aR x.D;have h3:=kS x.Seen;have h4:=uT x.Known;have h5:=zdR x.Notes;rw[xD];simp only[AK];omega
def TR(x:Aa){k:Int}(hk:0≤k)(hb:k+(AK x:Nat)≤IB):∃y m,gD.F x k=some (y,m)∧k≤m∧m≤k+(AK x:Nat)∧Bf y k=some m:=by
 simp only[AK]at hb⊢
 push_cast at hb⊢
 obtain⟨y1,m1,a1,b1,c1,d1⟩:=mh .Client x.Clients hk (by omega);obtain⟨y2,m2,a2,b2,c2,d2⟩:=zbl x.S (show(0:Int)≤m1 by omega) (by omega);obtain⟨y3,m3,a3,b3,c3,d3⟩:=OS x.D (show(0:Int)≤m2 by omega) (by omega);obtain⟨y4,m4,a4,b4,c4,d4⟩:=mh .Wire x.Seen (show(0:Int)≤m3 by omega) (by omega);obtain⟨y5,m5,a5,b5,c5,d5⟩:=mh .bs x.Known (show(0:Int)≤m4 by omega) (by omega);obtain⟨y6,m6,a6,b6,c6,d6⟩:=mh .Note x.Notes (show(0:Int)≤m5 by omega) (by omega);refine⟨⟨x.Now,y1,y2,y3,y4,y5,y6⟩,m6,?_,by omega,by omega,?_⟩
 ·simp only[gD.F,Az];rw[UD a1,UD a2,UD a3,UD a4,UD a5,UD a6]
 ·simp only[Bf];rw[VD d1 (by omega),VD d2 (by omega),VD d3 (by omega),VD d4 (by omega),VD d5 (by omega),VD d6 (by omega)]
def gD.nat(u:Value)(x:Aa)(k:Int)(r:Aa×Int)(h:gD.F x k=some r):(Az x k λz k=>some (z,k,u))=some (r.1,r.2,u):=by
 have e:(Az x k λz k=>some (z,k,u))=ob (gD.F x k) λr=>some (r.1,r.2,u):=by simp only[Az,gD.F,Option.bind_assoc,Option.bind_some]
 rw[e,h];rfl
end
end Go.D
namespace Go.D
def EF(l:List Ab)(x:Ab):List Ab:=cond (DD (l++[x])) (l++[x]) l
def cS(l:List Ab)(x:Ab):wt (EF l x)≤wt l+wt x+1:=by
 unfold EF;cases DD (l++[x])
 ·simp only[cond_false];omega
 ·simp only[cond_true];rw[dM,sE,CK];omega
def zfG{l:List Ab}{x:Ab}(h:wt l+wt x≤100000000):Dy l x=some (EF l x):=by
 have hL:=iH;have h1:=SD l;have h2:wt ([]++l++[x])=wt l+wt x+1:=by rw[List.nil_append,dM,sE,CK];omega
 unfold Dy EF eA;rw[sG (by omega),sG (show wt l≤nA by omega)];simp only[List.nil_append,List.length_nil,List.length_singleton,Nat.zero_add,WB];rw[decide_eq_true (show l.length≤nA by omega),decide_eq_true (show l.length+1≤nA by omega)];cases DD (l++[x])<;>rfl
def zet{l:List Ab}{x:Ab}(h:wt l+wt x≤100000000):Ea l x=some (EF l x):=by
 have hL:=iH;have h1:=SD l;have h2:x.B.length≤wt x:=by rw[RF,jB];omega
 unfold Ea EF eA;rw[sG (show wt l≤nA by omega)];simp only[List.nil_append,List.length_nil,List.length_singleton,Nat.zero_add,WB,DA];rw[decide_eq_true (show x.B.length≤nA by omega),decide_eq_true (show l.length+1≤nA by omega)];simp only[cond_true]
 have hw:DD (l++[x])=(DD l&&KD x&&decide (l.length<90)):=by
  simp only[DD,List.any_append,List.any_cons,List.any_nil,Bool.or_false,List.length_append,List.length_singleton];cases l.any λw=>!KD w<;>cases KD x<;>simp
  rw[←Bool.decide_and];apply decide_eq_decide.2;omega
 rw[hw];cases h3:DD l
 ·rfl
 ·simp only[DD,Bool.and_eq_true,decide_eq_true_eq]at h3;cases KD x
  ·rfl
  ·simp only[Bool.not_true,cond_false,Bool.and_true,Bool.true_and]
   by_cases h4:l.length<90
   ·have:((l.length:Int)==90)=false:=by simp;omega
    rw[this,decide_eq_true h4];rfl
   ·have:((l.length:Int)==90)=true:=by simp;omega
    rw[this,decide_eq_false h4];rfl
def dG(w:Aa)(l:List Ab):Aa:=⟨w.Now,w.Clients,w.S,w.D,l.foldl EF w.Seen,w.Known,w.Notes⟩
def vS:∀(l:List Ab) (s:List Ab),wt (l.foldl EF s)≤wt s+wt l
 | [],s=>by simp
 | x :: l,s=>by
  have:=vS l (EF s x);have:=cS s x;rw[sE];simp only[List.foldl_cons];omega
def zdV(w:Aa)(l:List Ab):wt (dG w l)≤wt w+wt l:=by
 have:=vS l w.Seen;rw[xD,xD];simp only[dG];omega
def AS{S:List Ab→Ab→Option (List Ab)}(hS:∀{l x},wt l+wt x≤100000000→S l x=some (EF l x)){w:Aa}{l:List Ab}(h:wt w+wt l≤50000000):
  (Option.bind (eA w) fun r1=>DA (fun (y2:Aa)=>some y2) fun k3=>KA FU (fun (x4:Int × Aa) k5=>cond (decide (x4.1<(l.length:Int))) (Option.bind (NA l x4.1) fun e6=>
   Option.bind (S x4.2.Seen e6) λr7=>k5 ((PA .i64 x4.1 1),(⟨x4.2.Now,x4.2.Clients,x4.2.S,x4.2.D,r7,x4.2.Known,x4.2.Notes⟩:Aa))) (k3 x4.2)) (0,r1))=some (dG w l):=by
 have hL:=iH;have hl:=SD l;rw[eA,IA (by omega)];simp only[DA];have hn:l.length≤maxLen:=by unfold maxLen;omega
 have:=YR (σ:=Aa) (R:=Aa) l.length hn (f:=λ(x4:Int×Aa) k5=>cond (decide (x4.1<(l.length:Int))) (Option.bind (NA l x4.1) λe6=>
   Option.bind (S x4.2.Seen e6) λr7=>k5 ((PA .i64 x4.1 1),(⟨x4.2.Now,x4.2.Clients,x4.2.S,x4.2.D,r7,x4.2.Known,x4.2.Notes⟩:Aa))) (some x4.2)) (g:=λi s=>some (dG s (l.drop i)))
  (fun i s=>wt s+wt (l.drop i)≤50000000) (fun i s k hi hs hk=>by
   have hd:decide ((i:Int)<(l.length:Int))=true:=by simp;exact hi
   have hc:=List.drop_eq_getElem_cons hi;rw[hc,sE]at hs;have X6:wt s.Seen≤wt s:=by rw[xD];omega
   simp only[hd,cond_true,bD hi,WB]
   rw[hS (by omega),WB,hk _ (by
    have:=cS s.Seen l[i];rw[xD]at hs⊢;simp only;omega),hc]
   rfl) (λs k hs=>by simp[dG]) 0 w (Nat.zero_le _) (by rw[List.drop_zero];exact h)
 rw[List.drop_zero]at this;exact this
def MR{α:Type}[Wt α]{a:α}{left r:Int}(h:OB a left=r)(hr:decide (r<0)=false):(wt a:Int)≤left∧r=left - wt a:=by
 simp only[decide_eq_false_iff_not]at hr;unfold OB at h;split at h
 ·rename_i h1;exact⟨h1,h.symm⟩
 ·omega
def GJ.ok{x}(_:rA [.v .World, .sl .Wire] x):Et x.1 x.2=some (UO (α:=Aa) (β:=List Ab) x.1 x.2):=by
 obtain⟨w,l⟩:=x;have hL:=iH;simp only[Et,UO,vA];rw[IA (show(0:Int)≤1048576 by omega)];cases h1:decide (OB (α:=Aa) w 1048576<0)
 case true=>rfl
 obtain⟨h1,e1⟩:=MR rfl h1;rw[cond_false,e1,IA (by omega)];cases h2:decide (OB (α:=List Ab) l (1048576 - (wt (α:=Aa) w:Int))<0)
 case true=>rfl
 obtain⟨h2,_⟩:=MR rfl h2;have hw:=zdV w l;have i1:Dz w l=some (dG w l):=AS zfG (by omega);have i2:Es w l=some (dG w l):=AS zet (by omega);have c1:eA w=some w:=sG (by omega);have c2:eA l=some l:=sG (by omega);have b1:=vQ w;have b2:=kS l;have b3:=vQ (dG w l);obtain⟨y1,m1,p1,q1,r1,_⟩:=TR w (k:=1) (by omega) (by unfold IB;omega);obtain⟨y2,m2,p2,q2,r2,_⟩:=mh .Wire l (k:=m1) (by omega) (by unfold IB;omega);obtain⟨y3,m3,p3,q3,r3,s3⟩:=TR (dG w l) (k:=1) (by omega) (by unfold IB;omega);have d2:decide (m2<0)=false:=by simp;omega
 have d3:decide (m3<0)=false:=by simp;omega
 simp only[cond_false,c1,c2,i1,i2,p1,p2,p3,s3,WB,qM,Bool.not_true,d2,d3,bne_self_eq_false]
end Go.D

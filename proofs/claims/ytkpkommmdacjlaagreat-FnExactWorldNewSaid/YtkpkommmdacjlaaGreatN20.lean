/-
 Sizes of the program's data.
-/
import Derived.Test.YtkpkommmdacjlaaGreatN7
import Derived.Test.YtkpkommmdacjlaaGreatN11
import Derived.Test.YtkpkommmdacjlaaGreatL0
set_option linter.all false
namespace Go.D
end Go.D
namespace Go.D
def bT{α β γ δ:Type}(_:α)(_:β)(_:γ)(_:δ):Bool:=true
end Go.D
namespace Go.D
open Option renaming bind→ob
noncomputable section
def Aw{R:Type}(x:Ap)(k:Int)(K:Ap→Int→Option R):Option R:=
 ob (wC .byte x.Secret k) λr1=>
 K (⟨r1.1⟩:Ap) r1.2
def gE.F(x:Ap)(k:Int):Option (Ap×Int):=Aw x k λz k=>some (z,k)
def Ax{R:Type}(x:Ae)(k:Int)(K:Ae→Int→Option R):Option R:=
 ob (wC .byte x.Seed k) λr1=>
 K (⟨r1.1,x.N⟩:Ae) r1.2
def ND.F(x:Ae)(k:Int):Option (Ae×Int):=Ax x k λz k=>some (z,k)
def Ay{R:Type}(x:Ai)(k:Int)(K:Ai→Int→Option R):Option R:=
 ob (wC .Sess x.L k) λr1=>
 K (⟨x.Cap,r1.1⟩:Ai) r1.2
def iE.F(x:Ai)(k:Int):Option (Ai×Int):=Ay x k λz k=>some (z,k)
def Az{R:Type}(x:Aa)(k:Int)(K:Aa→Int→Option R):Option R:=
 ob (wC .bs x.Psks k) λr1=>
 ob (gE.F x.J r1.2) λr2=>
 ob (ND.F x.D r2.2) λr3=>
 ob (iE.F x.T r3.2) λr4=>
 ob (wC .Credit x.Cr r4.2) λr5=>
 K (⟨r1.1,r2.1,r3.1,r4.1,r5.1⟩:Aa) r5.2
def eE.F(x:Aa)(k:Int):Option (Aa×Int):=Az x k λz k=>some (z,k)
def Ba{R:Type}(x:Ag)(k:Int)(K:Ag→Int→Option R):Option R:=
 ob (wC .Client x.Clients k) λr1=>
 ob (eE.F x.S r1.2) λr2=>
 ob (ND.F x.D r2.2) λr3=>
 ob (wC .Wire x.Seen r3.2) λr4=>
 ob (wC .bs x.Known r4.2) λr5=>
 ob (wC .Note x.Notes r5.2) λr6=>
 K (⟨x.Now,r1.1,r2.1,r3.1,r4.1,r5.1,r6.1⟩:Ag) r6.2
def fE.F(x:Ag)(k:Int):Option (Ag×Int):=Ba x k λz k=>some (z,k)
def Ef(a0:Ap)(a1:Int):Option Int:=
 ob (WC .byte a0.Secret a1) λr1=>
 cond (decide (r1<0))
 (some (-1))
 (some r1)
def Bf(a0:Ae)(a1:Int):Option Int:=
 ob (WC .byte a0.Seed a1) λr1=>
 cond (decide (r1<0))
 (some (-1))
 (some r1)
def Eg(a0:Ai)(a1:Int):Option Int:=
 ob (WC .Sess a0.L a1) λr1=>
 cond (decide (r1<0))
 (some (-1))
 (some r1)
def Eh(a0:Aa)(a1:Int):Option Int:=
 ob (WC .bs a0.Psks a1) λr1=>
 cond (decide (r1<0))
 (some (-1))
 (ob (Ef a0.J r1) λr2=>
 cond (decide (r2<0))
 (some (-1))
 (ob (Bf a0.D r2) λr3=>
 cond (decide (r3<0))
 (some (-1))
 (ob (Eg a0.T r3) λr4=>
 cond (decide (r4<0))
 (some (-1))
 (ob (WC .Credit a0.Cr r4) λr5=>
 cond (decide (r5<0))
 (some (-1))
 (some r5)))))
def Bg(a0:Ag)(a1:Int):Option Int:=
 ob (WC .Client a0.Clients a1) λr1=>
 cond (decide (r1<0))
 (some (-1))
 (ob (Eh a0.S r1) λr2=>
 cond (decide (r2<0))
 (some (-1))
 (ob (Bf a0.D r2) λr3=>
 cond (decide (r3<0))
 (some (-1))
 (ob (WC .Wire a0.Seen r3) λr4=>
 cond (decide (r4<0))
 (some (-1))
 (ob (WC .bs a0.Known r4) λr5=>
 cond (decide (r5<0))
 (some (-1))
 (ob (WC .Note a0.Notes r5) λr6=>
 cond (decide (r6<0))
 (some (-1))
 (some r6))))))
def Fj(a0:List UInt8)(a1:List UInt8)(a2:List UInt8)(a3:Int):Option Bool:=
 cond (decide ((a0.length:Int)>1048576))
 (some true)
 (cond (decide ((a1.length:Int)>1048576))
 (some true)
 (cond (decide ((a2.length:Int)>1048576))
 (some true)
 (ob (qE a0) λr1=>
 ob (qE a1) λr2=>
 ob (qE a2) λr3=>
 ob (NH r1 r2 r3 a3) λr4=>
 ob (qE a0) λr5=>
 ob (qE a1) λr6=>
 ob (qE a2) λr7=>
 ob (NH r5 r6 r7 a3) λr8=>
 cond (!(qA r8 r4))
 (some false)
 (ob (qE a0) λr9=>
 cond (!(qA r5 r9))
 (some false)
 (ob (qE a1) λr10=>
 cond (!(qA r6 r10))
 (some false)
 (ob (qE a2) λr11=>
 cond (!(qA r7 r11))
 (some false)
 (ob (wC .byte r5 1) λr12=>
 ob (wC .byte r6 r12.2) λr13=>
 ob (wC .byte r7 r13.2) λr14=>
 cond (decide (r14.2<0))
 (some false)
 (cond (!(qA r8 r4))
 (some false)
 (ob (fE.F r8 1) λr15=>
 ob (Bg r15.1 1) λr16=>
 cond (decide (r16<0))
 (some false)
 (cond (r16 !=r15.2)
 (some false)
 (ob (qE a0) λr17=>
 ob (qE a1) λr18=>
 ob (qE a2) λr19=>
 ob (NH r17 r18 r19 a3) λr20=>
 cond (!(qA r20 r4))
 (some false)
 (ob (Bg r15.1 1) λr21=>
 cond (decide (r21<0))
 (some false)
 (cond (r21 !=r15.2)
 (some false)
 (some true))))))))))))))
end
end Go.D
namespace Go.D
open Option renaming bind→ob
noncomputable section
def NE{o:Option Int}{m:Int}(h:o=some m)(hm:0≤m)(K:Int→Option Int):(ob o λr=>cond (decide (r<0)) (some (-1)) (K r))=K m:=by
 have:decide (m<0)=false:=by simp;omega
 rw[h,lB,this];rfl
def ME{α β:Type}{o:Option α}{v:α}(h:o=some v)(K:α→Option β):ob o K=K v:=by rw[h];rfl
def zck{α:Type}[Wt α]:∀l:List α,wt l=UC (λx=>wt x+1) l
 | []=>rfl
 | x :: l=>by rw[HD,zck l];simp only[UC];omega
def BI:V→Nat
 | .sl t l=>(mf t).ms l
 | _=>0
def UG:List V→Nat
 | []=>0
 | c :: cs=>BI c+UG cs
def zbW:∀cs:List V,dC mf cs=cs.length+UG cs
 | []=>rfl
 | c :: cs=>by
  have h:pC mf c=1+BI c:=by cases c<;>rfl
  rw[dC,zbW cs,UG,h,List.length_cons];omega
def zif(t:TN):sz t≤64:=by cases t<;>decide
def qH{t:TN}[Wt (El t)](h:∀x:El t,UG (enc t x)≤64 *wt x)(l:List (El t)):(mf t).ms l≤64 *wt l:=by
 rw[jJ,zck];show UC (λx=>dC mf (enc t x)) l≤_
 induction l with
 | nil=>exact Nat.zero_le _
 | cons x l ih=>
  have:=h x;have:=zif t;simp only[UC];rw[zbW,WA];omega
def VB(l:List UInt8):(mf .byte).ms l≤64 *wt l:=qH (t:= .byte) (λx=>Nat.zero_le _) l
def wQ(l:List Int):(mf .int).ms l≤64 *wt l:=qH (t:= .int) (λx=>Nat.zero_le _) l
def zcz(l:List (List UInt8)):(mf .bs).ms l≤64 *wt l:=qH (t:= .bs) (λx=>VB x) l
def jC{a b:Nat}(h:a≤64 *b):∃n w,a=n∧b=w∧n≤64 *w:=⟨a,b,rfl,rfl,h⟩
def zis(l:List Ar):(mf .Cand).ms l≤64 *wt l:=qH (t:= .Cand) (λx=>by
 obtain⟨n0,w0,e0,f0,h0⟩:=jC (VB x.Draw);simp only[zb1,bF,enc,hQ,UG,BI,Nat.zero_add,e0,f0];clear e0 f0;omega) l
def zhB(l:List Am):(mf .Sess).ms l≤64 *wt l:=qH (t:= .Sess) (λx=>by
 obtain⟨n0,w0,e0,f0,h0⟩:=jC (VB x.Cn);obtain⟨n1,w1,e1,f1,h1⟩:=jC (VB x.Sn);obtain⟨n2,w2,e2,f2,h2⟩:=jC (VB x.C.Sn);obtain⟨n3,w3,e3,f3,h3⟩:=jC (VB x.C.Cur.Key);obtain⟨n4,w4,e4,f4,h4⟩:=jC (wQ x.C.Cur.Win.Bits);obtain⟨n5,w5,e5,f5,h5⟩:=jC (VB x.C.Old.Key);obtain⟨n6,w6,e6,f6,h6⟩:=jC (wQ x.C.Old.Win.Bits);obtain⟨n7,w7,e7,f7,h7⟩:=jC (VB x.C.Next);obtain⟨n8,w8,e8,f8,h8⟩:=jC (zis x.P.Cands);simp only[AL,XH,IN,xT,zbl,bF,enc,lQ,UG,BI,Nat.zero_add,e0,f0,e1,f1,e2,f2,e3,f3,e4,f4,e5,f5,e6,f6,e7,f7,e8,f8];clear e0 f0 e1 f1 e2 f2 e3 f3 e4 f4 e5 f5 e6 f6 e7 f7 e8 f8;omega) l
def zfX(l:List Ad):(mf .Credit).ms l≤64 *wt l:=qH (t:= .Credit) (λx=>by
 simp only[zfD,bF,enc,TK,UG,BI,Nat.zero_add];omega) l
def zfM(l:List Ab):(mf .Client).ms l≤64 *wt l:=qH (t:= .Client) (λx=>by
 obtain⟨n0,w0,e0,f0,h0⟩:=jC (VB x.Psk);obtain⟨n1,w1,e1,f1,h1⟩:=jC (VB x.Cn);obtain⟨n2,w2,e2,f2,h2⟩:=jC (VB x.Fin.Cn);obtain⟨n3,w3,e3,f3,h3⟩:=jC (VB x.Fin.Sn);obtain⟨n4,w4,e4,f4,h4⟩:=jC (VB x.Fin.Cookie);obtain⟨n5,w5,e5,f5,h5⟩:=jC (VB x.Fin.Proof);obtain⟨n6,w6,e6,f6,h6⟩:=jC (VB x.Fin.Body);obtain⟨n7,w7,e7,f7,h7⟩:=jC (VB x.Fin.Tag);obtain⟨n8,w8,e8,f8,h8⟩:=jC (VB x.C.Sn);obtain⟨n9,w9,e9,f9,h9⟩:=jC (VB x.C.Cur.Key);obtain⟨n10,w10,e10,f10,iX⟩:=jC (wQ x.C.Cur.Win.Bits);obtain⟨n11,w11,e11,f11,jX⟩:=jC (VB x.C.Old.Key);obtain⟨n12,w12,e12,f12,LX⟩:=jC (wQ x.C.Old.Win.Bits);obtain⟨n13,w13,e13,f13,dY⟩:=jC (VB x.C.Next);simp only[vP,bF,gH,XH,IN,xT,AS,enc,wP,UG,BI,Nat.zero_add,e0,f0,e1,f1,e2,f2,e3,f3,e4,f4,e5,f5,e6,f6,e7,f7,e8,f8,e9,f9,e10,f10,e11,f11,e12,f12,e13,f13];clear e0 f0 e1 f1 e2 f2 e3 f3 e4 f4 e5 f5 e6 f6 e7 f7 e8 f8 e9 f9 e10 f10 e11 f11 e12 f12 e13 f13;omega) l
def zhD(l:List As):(mf .Wire).ms l≤64 *wt l:=qH (t:= .Wire) (λx=>by
 obtain⟨n0,w0,e0,f0,h0⟩:=jC (VB x.B);simp only[zbU,bF,enc,bQ,UG,BI,Nat.zero_add,e0,f0];clear e0 f0;omega) l
def zir(l:List Ak):(mf .Note).ms l≤64 *wt l:=qH (t:= .Note) (λx=>by
 obtain⟨n0,w0,e0,f0,h0⟩:=jC (VB x.Cn);obtain⟨n1,w1,e1,f1,h1⟩:=jC (VB x.Sn);obtain⟨n2,w2,e2,f2,h2⟩:=jC (VB x.Body);obtain⟨n3,w3,e3,f3,h3⟩:=jC (VB x.Key);simp only[oQ,bF,enc,qQ,UG,BI,Nat.zero_add,e0,f0,e1,f1,e2,f2,e3,f3];clear e0 f0 e1 f1 e2 f2 e3 f3;omega) l
def NL(x:Ap):Nat:=(mf .byte).ms x.Secret
def zgB(x:Ap):NL x≤64 *wt x:=by
 have h0:=VB x.Secret;rw[BT];simp only[NL];omega
def ziM(x:Ap){k:Int}(hk:0≤k)(hb:k+(NL x:Nat)≤JB):∃y m,gE.F x k=some (y,m)∧k≤m∧m≤k+(NL x:Nat)∧Ef y k=some m:=by
 simp only[NL]at hb⊢
 push_cast at hb⊢
 obtain⟨y1,m1,a1,b1,c1,d1⟩:=mh .byte x.Secret hk (by omega);refine⟨⟨y1⟩,m1,?_,by omega,by omega,?_⟩
 ·simp only[gE.F,Aw];rw[ME a1]
 ·simp only[Ef];rw[NE d1 (by omega)]
def gE.nat(u:Value)(x:Ap)(k:Int)(r:Ap×Int)(h:gE.F x k=some r):(Aw x k λz k=>some (z,k,u))=some (r.1,r.2,u):=by
 have e:(Aw x k λz k=>some (z,k,u))=ob (gE.F x k) λr=>some (r.1,r.2,u):=by simp only[Aw,gE.F,Option.bind_assoc,Option.bind_some]
 rw[e,h];rfl
def aJ(x:Ae):Nat:=(mf .byte).ms x.Seed
def zap(x:Ae):aJ x≤64 *wt x:=by
 have h0:=VB x.Seed;rw[TH];simp only[aJ];omega
def zbY(x:Ae){k:Int}(hk:0≤k)(hb:k+(aJ x:Nat)≤JB):∃y m,ND.F x k=some (y,m)∧k≤m∧m≤k+(aJ x:Nat)∧Bf y k=some m:=by
 simp only[aJ]at hb⊢
 push_cast at hb⊢
 obtain⟨y1,m1,a1,b1,c1,d1⟩:=mh .byte x.Seed hk (by omega);refine⟨⟨y1,x.N⟩,m1,?_,by omega,by omega,?_⟩
 ·simp only[ND.F,Ax];rw[ME a1]
 ·simp only[Bf];rw[NE d1 (by omega)]
def ND.nat(u:Value)(x:Ae)(k:Int)(r:Ae×Int)(h:ND.F x k=some r):(Ax x k λz k=>some (z,k,u))=some (r.1,r.2,u):=by
 have e:(Ax x k λz k=>some (z,k,u))=ob (ND.F x k) λr=>some (r.1,r.2,u):=by simp only[Ax,ND.F,Option.bind_assoc,Option.bind_some]
 rw[e,h];rfl
def LL(x:Ai):Nat:=(mf .Sess).ms x.L
def zg4(x:Ai):LL x≤64 *wt x:=by
 have h0:=zhB x.L;rw[iI];simp only[LL];omega
def ziD(x:Ai){k:Int}(hk:0≤k)(hb:k+(LL x:Nat)≤JB):∃y m,iE.F x k=some (y,m)∧k≤m∧m≤k+(LL x:Nat)∧Eg y k=some m:=by
 simp only[LL]at hb⊢
 push_cast at hb⊢
 obtain⟨y1,m1,a1,b1,c1,d1⟩:=mh .Sess x.L hk (by omega);refine⟨⟨x.Cap,y1⟩,m1,?_,by omega,by omega,?_⟩
 ·simp only[iE.F,Ay];rw[ME a1]
 ·simp only[Eg];rw[NE d1 (by omega)]
def iE.nat(u:Value)(x:Ai)(k:Int)(r:Ai×Int)(h:iE.F x k=some r):(Ay x k λz k=>some (z,k,u))=some (r.1,r.2,u):=by
 have e:(Ay x k λz k=>some (z,k,u))=ob (iE.F x k) λr=>some (r.1,r.2,u):=by simp only[Ay,iE.F,Option.bind_assoc,Option.bind_some]
 rw[e,h];rfl
def lL(x:Aa):Nat:=(mf .bs).ms x.Psks+NL x.J+aJ x.D+LL x.T+(mf .Credit).ms x.Cr
def zeD(x:Aa):lL x≤64 *wt x:=by
 have h0:=zcz x.Psks;have h1:=zgB x.J;have h2:=zap x.D;have h3:=zg4 x.T;have h4:=zfX x.Cr;rw[dP];simp only[lL];omega
def zfu(x:Aa){k:Int}(hk:0≤k)(hb:k+(lL x:Nat)≤JB):∃y m,eE.F x k=some (y,m)∧k≤m∧m≤k+(lL x:Nat)∧Eh y k=some m:=by
 simp only[lL]at hb⊢
 push_cast at hb⊢
 obtain⟨y1,m1,a1,b1,c1,d1⟩:=mh .bs x.Psks hk (by omega);obtain⟨y2,m2,a2,b2,c2,d2⟩:=ziM x.J (show(0:Int)≤m1 by omega) (by omega);obtain⟨y3,m3,a3,b3,c3,d3⟩:=zbY x.D (show(0:Int)≤m2 by omega) (by omega);obtain⟨y4,m4,a4,b4,c4,d4⟩:=ziD x.T (show(0:Int)≤m3 by omega) (by omega);obtain⟨y5,m5,a5,b5,c5,d5⟩:=mh .Credit x.Cr (show(0:Int)≤m4 by omega) (by omega);refine⟨⟨y1,y2,y3,y4,y5⟩,m5,?_,by omega,by omega,?_⟩
 ·simp only[eE.F,Az];rw[ME a1,ME a2,ME a3,ME a4,ME a5]
 ·simp only[Eh];rw[NE d1 (by omega),NE d2 (by omega),NE d3 (by omega),NE d4 (by omega),NE d5 (by omega)]
def eE.nat(u:Value)(x:Aa)(k:Int)(r:Aa×Int)(h:eE.F x k=some r):(Az x k λz k=>some (z,k,u))=some (r.1,r.2,u):=by
 have e:(Az x k λz k=>some (z,k,u))=ob (eE.F x k) λr=>some (r.1,r.2,u):=by simp only[Az,eE.F,Option.bind_assoc,Option.bind_some]
 rw[e,h];rfl
def uN(x:Ag):Nat:=(mf .Client).ms x.Clients+lL x.S+aJ x.D+(mf .Wire).ms x.Seen+(mf .bs).ms x.Known+(mf .Note).ms x.Notes
def zeW(x:Ag):uN x≤64 *wt x:=by
 have h0:=zfM x.Clients;have h1:=zeD x.S;have h2:=zap x.D;have h3:=zhD x.Seen;have h4:=zcz x.Known;have h5:=zir x.Notes;rw[IS];simp only[uN];omega
def zhj(x:Ag){k:Int}(hk:0≤k)(hb:k+(uN x:Nat)≤JB):∃y m,fE.F x k=some (y,m)∧k≤m∧m≤k+(uN x:Nat)∧Bg y k=some m:=by
 simp only[uN]at hb⊢
 push_cast at hb⊢
 obtain⟨y1,m1,a1,b1,c1,d1⟩:=mh .Client x.Clients hk (by omega);obtain⟨y2,m2,a2,b2,c2,d2⟩:=zfu x.S (show(0:Int)≤m1 by omega) (by omega);obtain⟨y3,m3,a3,b3,c3,d3⟩:=zbY x.D (show(0:Int)≤m2 by omega) (by omega);obtain⟨y4,m4,a4,b4,c4,d4⟩:=mh .Wire x.Seen (show(0:Int)≤m3 by omega) (by omega);obtain⟨y5,m5,a5,b5,c5,d5⟩:=mh .bs x.Known (show(0:Int)≤m4 by omega) (by omega);obtain⟨y6,m6,a6,b6,c6,d6⟩:=mh .Note x.Notes (show(0:Int)≤m5 by omega) (by omega);refine⟨⟨x.Now,y1,y2,y3,y4,y5,y6⟩,m6,?_,by omega,by omega,?_⟩
 ·simp only[fE.F,Ba];rw[ME a1,ME a2,ME a3,ME a4,ME a5,ME a6]
 ·simp only[Bg];rw[NE d1 (by omega),NE d2 (by omega),NE d3 (by omega),NE d4 (by omega),NE d5 (by omega),NE d6 (by omega)]
def fE.nat(u:Value)(x:Ag)(k:Int)(r:Ag×Int)(h:fE.F x k=some r):(Ba x k λz k=>some (z,k,u))=some (r.1,r.2,u):=by
 have e:(Ba x k λz k=>some (z,k,u))=ob (fE.F x k) λr=>some (r.1,r.2,u):=by simp only[Ba,fE.F,Option.bind_assoc,Option.bind_some]
 rw[e,h];rfl
end
end Go.D
namespace Go.D
def ZL.ok{x}(_:sA [.sl .byte, .sl .byte, .sl .byte, .v .int] x):
  Fj x.1 x.2.1 x.2.2.1 x.2.2.2=some (bT (α:=List UInt8) (β:=List UInt8) (γ:=List UInt8) (δ:=Int) x.1 x.2.1 x.2.2.1 x.2.2.2):=by
 obtain⟨s,a,b,m⟩:=x;have hL:=HB;simp only[Fj,bT];cases h1:decide ((List.length (α:=UInt8) s:Int)>1048576)
 case true=>rfl
 rw[cond_false];cases h2:decide ((List.length (α:=UInt8) a:Int)>1048576)
 case true=>rfl
 rw[cond_false];cases h3:decide ((List.length (α:=UInt8) b:Int)>1048576)
 case true=>rfl
 rw[cond_false];simp only[decide_eq_false_iff_not]at h1 h2 h3;have e1:=LA s;have e2:=LA a;have e3:=LA b;have hw:=zeP s a b m;have i1:NH s a b m=some (OH s a b m):=lH (by omega);have c1:qE s=some s:=lH (by omega);have c2:qE a=some a:=lH (by omega);have c3:qE b=some b:=lH (by omega);have b1:=VB s;have b2:=VB a;have b3:=VB b;have b4:=zeW (OH s a b m);obtain⟨y1,m1,p1,q1,r1,_⟩:=mh .byte s (k:=1) (by omega) (by unfold JB;omega);obtain⟨y2,m2,p2,q2,r2,_⟩:=mh .byte a (k:=m1) (by omega) (by unfold JB;omega);obtain⟨y3,m3,p3,q3,r3,_⟩:=mh .byte b (k:=m2) (by omega) (by unfold JB;omega);obtain⟨y4,m4,p4,q4,r4,s4⟩:=zhj (OH s a b m) (k:=1) (by omega) (by unfold JB;omega);have d3:decide (m3<0)=false:=by simp;omega
 have d4:decide (m4<0)=false:=by simp;omega
 simp only[cond_false,c1,c2,c3,i1,p1,p2,p3,p4,s4,lB,DP,Bool.not_true,d3,d4,bne_self_eq_false]
end Go.D

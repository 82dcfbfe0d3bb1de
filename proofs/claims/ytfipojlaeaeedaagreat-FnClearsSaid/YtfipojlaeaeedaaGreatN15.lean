/-
 Sizes.
-/
import Derived.Test.YtfipojlaeaeedaaGreatN12
set_option linter.all false
namespace Go.D
end Go.D
namespace Go.D
end Go.D
namespace Go.D
open Option renaming bind→ob
noncomputable section
def Jq(a0:Ah)(a1:Int):Option (Aa×Ah):=
 ob (Gu a0) λr1=>
 ob (Ap r1.2 a1) λr2=>
 aA (λ(y3:Ah×Int×Aa)=>
 some (y3.2.2,y3.1)) λk4=>
 uA FU (λ(x5:Int×Ah×Int×Aa) k6=>
 cond (decide (x5.1>0))
 (ob (Bc x5.2.1 6) λr7=>
 ob (Ho r7.2 x5.2.2.2 x5.2.2.1 r7.1) λr8=>
 ob (LA x5.2.2.2) λr9=>
 aA (λ(y10:Bool×Aa)=>
 aA (λ(y13:Aa×Unit)=>
 k6 ((oA .i64 x5.1 1),r8.2.1,r8.2.2,y13.1)) λk14=>
 cond (y10.1)
 (k14 (y10.2,()))
 (k14 (x5.2.2.2,()))) λk11=>
 cond ((WJ r8.1))
 (ob (Jl r9 r8.1) λr12=>
 k11 (r12.1,r12.2))
 (k11 (false,r9)))
 (k4 (x5.2.1,x5.2.2.1,x5.2.2.2))) ((iA .i64 6 r2.1),r2.2,0,r1.1)
def Br(a0:Ah):Option (Aa×Ah):=
 ob (Jq a0 20) λr1=>
 ob (Bc r1.2 3) λr2=>
 cond (r2.1)
 (some (r1.1,r2.2))
 (ob (Ap r2.2 2) λr3=>
 ob (Ap r3.2 10) λr4=>
 aA (λ(y5:Ah×Aa)=>
 some (y5.2,y5.1)) λk6=>
 cond (r4.1==0)
 (ob (Ax r4.2 [30,41,999880]) λr7=>
 k6 (r7.2,(⟨iA .i64 r1.1.Now r7.1,r1.1.Clients,r1.1.S,r1.1.D,r1.1.Seen,r1.1.Known,r1.1.Notes⟩:Aa)))
 (aA (λ(y8:Ah×Aa)=>
 k6 (y8.1,y8.2)) λk9=>
 cond (r4.1==1)
 (ob (Do r4.2 12) λr10=>
 k9 (r10.2,(⟨r1.1.Now,r1.1.Clients,(⟨r1.1.S.Psks,r1.1.S.J,r1.1.S.D,r1.1.S.T,r10.1⟩:Ac),r1.1.D,r1.1.Seen,r1.1.Known,r1.1.Notes⟩:Aa)))
 (aA (λ(y11:Aa×Ah)=>
 k9 (y11.2,y11.1)) λk12=>
 cond (r4.1==2)
 (cond (decide (0≤oA .i64 1 r3.1)&&decide (oA .i64 1 r3.1<(r1.1.Clients.length:Int))) (ob (r1.1.Clients[(oA .i64 1 r3.1).toNat]?) λe13=>
 cond (decide (0≤r3.1)&&decide (r3.1<(r1.1.Clients.length:Int))) (ob (r1.1.Clients[r3.1.toNat]?) λe14=>
 let l15:List Ad:=List.set r1.1.Clients r3.1.toNat (⟨e14.Id,e14.Psk,e13.At,e14.St,e14.Cn,e14.Fin,e14.C,e14.T,e14.R,e14.Last⟩:Ad)
 k12 ((⟨r1.1.Now,l15,r1.1.S,r1.1.D,r1.1.Seen,r1.1.Known,r1.1.Notes⟩:Aa),r4.2)) none) none)
 (aA (λ(y16:Aa×Ah)=>
 k12 (y16.1,y16.2)) λk17=>
 cond (r4.1==3)
 (k17 ((⟨r1.1.Now,r1.1.Clients,(⟨r1.1.S.Psks,r1.1.S.J,r1.1.S.D,(⟨1,r1.1.S.T.L⟩:Am),r1.1.S.Cr⟩:Ac),r1.1.D,r1.1.Seen,r1.1.Known,r1.1.Notes⟩:Aa),r4.2))
 (aA (λ(y18:Ah×Aa)=>
 k17 (y18.2,y18.1)) λk19=>
 cond (r4.1==4)
 (ob (Ax r4.2 [0,2,9992,9993,10000]) λr20=>
 k19 (r20.2,(⟨r1.1.Now,r1.1.Clients,(⟨r1.1.S.Psks,r1.1.S.J,(⟨r1.1.S.D.Seed,r20.1⟩:Ar),r1.1.S.T,r1.1.S.Cr⟩:Ac),r1.1.D,r1.1.Seen,r1.1.Known,r1.1.Notes⟩:Aa)))
 (aA (λ(y21:Ah×Aa)=>
 k19 (y21.1,y21.2)) λk22=>
 cond (r4.1==5)
 (ob (Ax r4.2 [9999,10000]) λr23=>
 k22 (r23.2,(⟨r1.1.Now,r1.1.Clients,r1.1.S,(⟨r1.1.D.Seed,r23.1⟩:Ar),r1.1.Seen,r1.1.Known,r1.1.Notes⟩:Aa)))
 (aA (λ(y24:Ah×Aa)=>
 k22 (y24.1,y24.2)) λk25=>
 cond (r4.1==6)
 (ob (Ax r4.2 [281474976709556,281474976709557,0]) λr26=>
 cond (decide (0≤r3.1)&&decide (r3.1<(r1.1.Clients.length:Int))) (ob (r1.1.Clients[r3.1.toNat]?) λe27=>
 let l28:List Ad:=List.set r1.1.Clients r3.1.toNat (⟨e27.Id,e27.Psk,e27.At,e27.St,e27.Cn,e27.Fin,(⟨e27.C.Role,e27.C.Sn,(⟨e27.C.Cur.N,e27.C.Cur.Key,r26.1,e27.C.Cur.Win⟩:Av),e27.C.Old,e27.C.HasOld,e27.C.Until,e27.C.Next⟩:Ak),e27.T,e27.R,e27.Last⟩:Ad)
 k25 (r26.2,(⟨r1.1.Now,l28,r1.1.S,r1.1.D,r1.1.Seen,r1.1.Known,r1.1.Notes⟩:Aa))) none)
 (aA (λ(y29:Ah×Aa)=>
 k25 (y29.1,y29.2)) λk30=>
 cond (r4.1==7)
 (ob (Ax r4.2 [0,1,50]) λr31=>
 cond (decide (0≤r3.1)&&decide (r3.1<(r1.1.Clients.length:Int))) (ob (r1.1.Clients[r3.1.toNat]?) λe32=>
 let l33:List Ad:=List.set r1.1.Clients r3.1.toNat (⟨e32.Id,e32.Psk,e32.At,e32.St,e32.Cn,e32.Fin,e32.C,e32.T,e32.R,r31.1⟩:Ad)
 k30 (r31.2,(⟨r1.1.Now,l33,r1.1.S,r1.1.D,r1.1.Seen,r1.1.Known,r1.1.Notes⟩:Aa))) none)
 (aA (λ(y34:Aa×Ah)=>
 k30 (y34.2,y34.1)) λk35=>
 cond (r4.1==8)
 (cond (decide (0≤r3.1)&&decide (r3.1<(r1.1.Clients.length:Int))) (ob (r1.1.Clients[r3.1.toNat]?) λe36=>
 ob (Bh e36) λr37=>
 cond (decide (0≤r3.1)&&decide (r3.1<(r1.1.Clients.length:Int))) (ob (r1.1.Clients[r3.1.toNat]?) λe38=>
 k35 ((⟨r1.1.Now,List.set r1.1.Clients r3.1.toNat r37,r1.1.S,r1.1.D,r1.1.Seen,r1.1.Known,r1.1.Notes⟩:Aa),r4.2)) none) none)
 (aA (λ(y39:Ah×Aa)=>
 k35 (y39.2,y39.1)) λk40=>
 cond (r4.1==9)
 (aA (λ(y41:Ah×Aa)=>
 k40 (y41.1,y41.2)) λk42=>
 cond (decide ((r1.1.S.T.L.length:Int)>0))
 (ob (Jo r4.2) λr43=>
 cond (decide (0≤(0:Int))&&decide ((0:Int)<(r1.1.S.T.L.length:Int))) (ob (r1.1.S.T.L[0]?) λe44=>
 let l45:List Al:=List.set r1.1.S.T.L 0 (⟨e44.Id,e44.Cn,e44.Sn,e44.C,r43.1,e44.Tick,e44.Last,e44.Dead⟩:Al)
 k42 (r43.2,(⟨r1.1.Now,r1.1.Clients,(⟨r1.1.S.Psks,r1.1.S.J,r1.1.S.D,(⟨r1.1.S.T.Cap,l45⟩:Am),r1.1.S.Cr⟩:Ac),r1.1.D,r1.1.Seen,r1.1.Known,r1.1.Notes⟩:Aa))) none)
 (k42 (r4.2,r1.1)))
 (k40 (r4.2,r1.1))))))))))))
def Bs(a0:Ah):Option (Int×Ah):=
 ob (Ax a0 [1,2,1,2,1,2,1,2,0,3]) λr1=>
 some (r1.1,r1.2)
def Jr(a0:List UInt8):Option (Aa×Int):=
 ob (Bi a0) λr1=>
 ob (Br r1) λr2=>
 ob (Bs r2.2) λr3=>
 some (r2.1,r3.1)
def Js(a0:List UInt8):Option (Aa×Int):=
 ob (Bi a0) λr1=>
 ob (Br r1) λr2=>
 ob (Bs r2.2) λr3=>
 some (r2.1,r3.1)
def Jt(a0:List UInt8):Option (Aa×Int×Ae):=
 ob (Bi a0) λr1=>
 ob (Br r1) λr2=>
 ob (Bs r2.2) λr3=>
 ob (Ap r3.2 9) λr4=>
 let r5:Ae:=uB r4.1
 some (r2.1,r3.1,r5)
def Ju(a0:List UInt8):Option (Aa×Int):=
 ob (Bi a0) λr1=>
 ob (Br r1) λr2=>
 ob (Bs r2.2) λr3=>
 some (r2.1,r3.1)
def Jv(a0:List UInt8):Option ((List Ag)×Ae):=
 ob (Bi a0) λr1=>
 ob (Jp r1) λr2=>
 ob (Ap r2.2 10) λr3=>
 let r4:Ae:=uB r3.1
 some (r2.1,r4)
def Jw(a0:List UInt8):Option Bool:=
 cond ((big a0))
 (some true)
 (ob (Jr a0) λr1=>
 ob (Js a0) λr2=>
 ob (Jt a0) λr3=>
 ob (Ju a0) λr4=>
 ob (Jv a0) λr5=>
 aA (λ(y6:Bool)=>
 some y6) λk7=>
 ob (wG r1.1 r1.2) λr8=>
 ob (wG r1.1 r1.2) λr9=>
 cond (r8==r9)
 (ob (YD r2.1 r2.2) λr10=>
 ob (YD r2.1 r2.2) λr11=>
 cond (r10==r11)
 (ob (VI r3.1 r3.2.1 r3.2.2) λr12=>
 ob (VI r3.1 r3.2.1 r3.2.2) λr13=>
 cond (r12==r13)
 (ob (UH r4.1 r4.2) λr14=>
 ob (UH r4.1 r4.2) λr15=>
 cond (r14==r15)
 (cond ((lE r5.1 r5.2)==(lE r5.1 r5.2))
 (ob (VI r3.1 r3.2.1 r3.2.2) λr16=>
 cond (!r16)
 (ob (UH r4.1 r4.2) λr17=>
 cond (!r17)
 (ob (wG r1.1 r1.2) λr18=>
 cond (!r18)
 (k7 true)
 (cond (decide (0≤oA .i64 r1.2 1)&&decide (oA .i64 r1.2 1<(r1.1.Clients.length:Int))) (ob (r1.1.Clients[(oA .i64 r1.2 1).toNat]?) λe19=>
 cond (e19.St==0)
 (ob (mE r1.1) λr20=>
 k7 r20)
 (k7 false)) none))
 (ob (YD r4.1 r4.2) λr21=>
 cond (r21)
 (ob (wG r1.1 r1.2) λr22=>
 cond (!r22)
 (k7 true)
 (cond (decide (0≤oA .i64 r1.2 1)&&decide (oA .i64 r1.2 1<(r1.1.Clients.length:Int))) (ob (r1.1.Clients[(oA .i64 r1.2 1).toNat]?) λe23=>
 cond (e23.St==0)
 (ob (mE r1.1) λr24=>
 k7 r24)
 (k7 false)) none))
 (k7 false)))
 (ob (YD r3.1 r3.2.1) λr25=>
 cond (r25)
 (ob (YG r3.1 r3.2.1) λr26=>
 cond (r26)
 (ob (UH r4.1 r4.2) λr27=>
 cond (!r27)
 (ob (wG r1.1 r1.2) λr28=>
 cond (!r28)
 (k7 true)
 (cond (decide (0≤oA .i64 r1.2 1)&&decide (oA .i64 r1.2 1<(r1.1.Clients.length:Int))) (ob (r1.1.Clients[(oA .i64 r1.2 1).toNat]?) λe29=>
 cond (e29.St==0)
 (ob (mE r1.1) λr30=>
 k7 r30)
 (k7 false)) none))
 (ob (YD r4.1 r4.2) λr31=>
 cond (r31)
 (ob (wG r1.1 r1.2) λr32=>
 cond (!r32)
 (k7 true)
 (cond (decide (0≤oA .i64 r1.2 1)&&decide (oA .i64 r1.2 1<(r1.1.Clients.length:Int))) (ob (r1.1.Clients[(oA .i64 r1.2 1).toNat]?) λe33=>
 cond (e33.St==0)
 (ob (mE r1.1) λr34=>
 k7 r34)
 (k7 false)) none))
 (k7 false)))
 (k7 false))
 (k7 false)))
 (k7 false))
 (k7 false))
 (k7 false))
 (k7 false))
 (k7 false))
end
end Go.D
namespace Go.D
end Go.D
namespace Go.D
def zkC{a0:Ad}(ha:wt a0≤1000000000):Ok (Bh a0) λr=>wt r≤wt a0:=by
 have hL:=sB;unfold Bh;refine .b (PD (p:=wt a0.Psk≤bA) (P:=λr=>wt r≤wt a0.Psk) (by simp only[N]at *;omega) ?_) λr hr=> .s ?_
 ·unfold FC;cases gA a0.Id 1 9&&mC a0.Psk&&bB a0.At
  ·rw[cond_false];simp only[GF,II,vD,bN,AA];show 0+0+0+wt aK+wt lK+0+0≤a0.Psk.length
   have:wt aK=0:=rfl;have:wt lK=0:=rfl;omega
  ·rw[cond_true];simp only[GF,II,vD,bN,AA];show a0.Psk.length+0+0+wt aK+wt lK+0+0≤a0.Psk.length
   have:wt aK=0:=rfl;have:wt lK=0:=rfl;omega
 ·simp only[N]at *;omega
def zhr{a0 a1}(ha:GA a0)(hb:a1≤40):Ok (Jq a0 a1) λr=>GA r.2∧wt r.1≤400000000∧TW r.1:=by
 unfold Jq;refine have hL:=sB;
 .b (zh9 ?_) λr1 WV=> .b (zB ?_) λr2 HW=> .j (λy3:Ah×Int×Aa=>GA y3.1∧wt y3.2.2≤400000000∧TW y3.2.2) (λy3 I3=> .s ?_)
  λk4 mW=> .l (λx5:Int×Ah×Int×Aa=>0≤x5.1∧x5.1≤60∧GA x5.2.1∧TW x5.2.2.2∧wt x5.2.2.2+5100000 *x5.1≤320000000∧wt x5.2.2.2.Clients+wt x5.2.2.2.S+61000 *x5.1≤3700000) (λx5:Int×Ah×Int×Aa=>x5.1.toNat) (λx5 hx5 k6 xW=> .c (λh1=> .b (uI ?_) λr7 aY=> .b (zh0 ?_ ?_ ?_) λr8 KZ=> .cp ?_ (.j (λy10:Bool×Aa=>wt y10.2≤wt x5.2.2.2+5100000∧wt y10.2.Clients+wt y10.2.S≤wt x5.2.2.2.Clients+wt x5.2.2.2.S+61000∧TW y10.2) (λy10 D9=> .j (λy13:Aa×Unit=>wt y13.1≤wt x5.2.2.2+5100000∧wt y13.1.Clients+wt y13.1.S≤wt x5.2.2.2.Clients+wt x5.2.2.2.S+61000∧TW y13.1) (λy13 X2=>xW _ ?_ ?_)
  λk14 yW=> .c (λh2=>yW _ ?_)
  λh2=>yW _ ?_)
  λk11 rZ=> .c (λh3=>have f4:=zkM h3; .b (ziW ?_ ?_ ?_ ?_ ?_) λr12 MY=>rZ _ ?_)
  λh3=>rZ _ ?_))
  λh1=>mW _ ?_) ?_ ?_
 all_goals (try simp only[B,N]at *)<;>(try simp(disch:=omega) only[nB,rB]at *)<;>omega
def DQ{a0}(ha:GA a0):Ok (Br a0) λr=>wt r.1≤900000000∧GA r.2:=by
 unfold Br;refine have hL:=sB;
 .b (zhr ?_ ?_) λr1 WV=> .b (uI ?_) λr2 HW=> .c (λh1=> .s ?_)
  λh1=> .b (zB ?_) λr3 wW=>have V3:=rB (a:=1) (b:=r3.1) ?_ ?_; .b (zB ?_) λr4 bW=> .j (λy5:Ah×Aa=>GA y5.1∧wt y5.2≤900000000) (λy5 J3=> .s ?_)
  λk6 xW=> .c (λh2=> .b (DE (30) (999880) ?_ (by simp) (by decide)) λr7 aY=>xW _ ?_)
  λh2=> .j (λy8:Ah×Aa=>GA y8.1∧wt y8.2≤900000000) (λy8 o9=>xW _ ?_)
  λk9 uX=> .c (λh3=> .b (zco ?_ ?_) λr10 QX=>uX _ ?_)
  λh3=> .j (λy11:Aa×Ah=>wt y11.1≤900000000∧GA y11.2) (λy11 Y2=>uX _ ?_)
  λk12 OW=> .c (λh4=> .h ?_ (.bg ?_ λe13 he13 he13w=> .h ?_ (.bg ?_ λe14 t5 V0=>OW _ (have:=gC r1.1.Clients r3.1.toNat (⟨e14.Id,e14.Psk,e13.At,e14.St,e14.Cn,e14.Fin,e14.C,e14.T,e14.R,e14.Last⟩:Ad);?_))))
  λh4=> .j (λy16:Aa×Ah=>wt y16.1≤900000000∧GA y16.2) (λy16 B0=>OW _ ?_)
  λk17 BW=> .c (λh5=>BW _ ?_)
  λh5=> .j (λy18:Ah×Aa=>GA y18.1∧wt y18.2≤900000000) (λy18 V2=>BW _ ?_)
  λk19 UW=> .c (λh6=> .b (DE (0) (10000) ?_ (by simp) (by decide)) λr20 pZ=>UW _ ?_)
  λh6=> .j (λy21:Ah×Aa=>GA y21.1∧wt y21.2≤900000000) (λy21 J9=>UW _ ?_)
  λk22 uZ=> .c (λh7=> .b (DE (9999) (10000) ?_ (by simp) (by decide)) λr23 hr23=>uZ _ ?_)
  λh7=> .j (λy24:Ah×Aa=>GA y24.1∧wt y24.2≤900000000) (λy24 hy24=>uZ _ ?_)
  λk25 N6=> .c (λh8=> .b (DE (0) (281474976709557) ?_ (by simp) (by decide)) λr26 W2=> .h ?_ (.bg ?_ λe27 kAA v6=>N6 _ (have:=gC r1.1.Clients r3.1.toNat (⟨e27.Id,e27.Psk,e27.At,e27.St,e27.Cn,e27.Fin,(⟨e27.C.Role,e27.C.Sn,(⟨e27.C.Cur.N,e27.C.Cur.Key,r26.1,e27.C.Cur.Win⟩:Av),e27.C.Old,e27.C.HasOld,e27.C.Until,e27.C.Next⟩:Ak),e27.T,e27.R,e27.Last⟩:Ad);?_)))
  λh8=> .j (λy29:Ah×Aa=>GA y29.1∧wt y29.2≤900000000) (λy29 z5=>N6 _ ?_)
  λk30 TX=> .c (λh9=> .b (DE (0) (50) ?_ (by simp) (by decide)) λr31 U2=> .h ?_ (.bg ?_ λe32 B6 C6=>TX _ (have:=gC r1.1.Clients r3.1.toNat (⟨e32.Id,e32.Psk,e32.At,e32.St,e32.Cn,e32.Fin,e32.C,e32.T,e32.R,r31.1⟩:Ad);?_)))
  λh9=> .j (λy34:Aa×Ah=>wt y34.1≤900000000∧GA y34.2) (λy34 hy34=>TX _ ?_)
  λk35 O6=> .c (λzW=> .h ?_ (.bg ?_ λe36 he36 he36w=> .b (zkC ?_) λr37 T2=> .h ?_ (.bg ?_ λe38 P9 F5=>O6 _ (have:=gC r1.1.Clients r3.1.toNat r37;?_))))
  λzW=> .j (λy39:Ah×Aa=>GA y39.1∧wt y39.2≤900000000) (λy39 X9=>O6 _ ?_)
  λk40 HX=> .c (λtW=> .j (λy41:Ah×Aa=>GA y41.1∧wt y41.2≤900000000) (λy41 hy41=>HX _ ?_)
  λk42 P6=> .c (λDW=> .b (zhV ?_) λr43 hr43=> .h ?_ (.bg ?_ λe44 he44 he44w=>P6 _ (have:=gC r1.1.S.T.L 0 (⟨e44.Id,e44.Cn,e44.Sn,e44.C,r43.1,e44.Tick,e44.Last,e44.Dead⟩:Al);?_)))
  λDW=>P6 _ ?_)
  λtW=>HX _ ?_
 all_goals (try simp only[B,N]at *)<;>(try simp(disch:=omega) only[nB,rB]at *)<;>omega
def iR{a0}(ha:GA a0):Ok (Bs a0) λr=>GA r.2:=by
 unfold Bs;refine have hL:=sB;
 .b (DE (0) (3) ?_ (by simp) (by decide)) λr1 WV=> .s ?_
 all_goals (try simp only[B,N]at *)<;>omega
def zgG{a0}(ha:a0.length≤1048576):Ok (Jr a0) λr=>wt r.1≤900000000:=by
 unfold Jr;refine have hL:=sB;
 .b (nO ?_) λr1 WV=> .b (DQ ?_) λr2 HW=> .b (iR ?_) λr3 wW=> .s ?_
 all_goals (try simp only[B,N]at *)<;>omega
def zgV{a0}(ha:a0.length≤1048576):Ok (Js a0) λr=>wt r.1≤900000000:=by
 unfold Js;refine have hL:=sB;
 .b (nO ?_) λr1 WV=> .b (DQ ?_) λr2 HW=> .b (iR ?_) λr3 wW=> .s ?_
 all_goals (try simp only[B,N]at *)<;>omega
def zgy{a0}(ha:a0.length≤1048576):Ok (Jt a0) λr=>wt r.1≤900000000:=by
 unfold Jt;refine have hL:=sB;
 .b (nO ?_) λr1 WV=> .b (DQ ?_) λr2 HW=> .b (iR ?_) λr3 wW=> .b (zB ?_) λr4 bW=> .s ?_
 all_goals (try simp only[B,N]at *)<;>omega
def zgA{a0}(ha:a0.length≤1048576):Ok (Ju a0) λr=>wt r.1≤900000000:=by
 unfold Ju;refine have hL:=sB;
 .b (nO ?_) λr1 WV=> .b (DQ ?_) λr2 HW=> .b (iR ?_) λr3 wW=> .s ?_
 all_goals (try simp only[B,N]at *)<;>omega
def zgu{a0}(ha:a0.length≤1048576):Ok (Jv a0) λr=>True:=by
 unfold Jv;refine have hL:=sB;
 .b (nO ?_) λr1 WV=> .b (zig ?_) λr2 HW=> .b (zB ?_) λr3 wW=> .s trivial
 all_goals (try simp only[B,N]at *)<;>omega
end Go.D
namespace Go.D
def zjF{w:Aa}{i:Int}(h:yD w i=true):DF w i=true:=by
 unfold yD at h;simp only[Bool.and_eq_true]at h;exact h.1.1
def zhN{w:Aa}{i:Int}(h:jH w i=true):yD w i=true:=by
 unfold jH at h;simp only[Bool.and_eq_true]at h;exact h.1
def zhR{w:Aa}{i:Int}{a:Ae}(h:dI w i a=true):yD w i=true:=by
 unfold dI at h;simp only[Bool.and_eq_true]at h;exact h.1.1.1.1.1
def ziJ{w:Aa}{i:Int}(h:VH w i=true):mD w=true∧1≤i∧i≤2∧∃c,w.Clients[(i - 1).toNat]?=some c∧(c.St==0)=true:=by
 unfold VH at h;simp only[Bool.and_eq_true,ED,Option.any_eq_true]at h;obtain⟨⟨⟨h1,h2⟩,_⟩,c,h3,o,h4,h5⟩:=h;exact⟨h1,h2.1,h2.2,c,h3,h5.1.1.1.1.1.1.1.1⟩
def fL.ok{x}(_:rA [.sl .byte] x):Jw x=some (zfp (α:=List UInt8) x):=by
 have hL:=sB
 have:Ok (Jw x) λr=>r=true:=by
  unfold Jw;refine .c (λ_=> .s rfl) λhb=>?_;have hb:List.length (α:=UInt8) x≤1048576:=by have:=of_decide_eq_false hb;omega
  refine .b (zgG hb) λd hd=> .b (zgV hb) λl hl=> .b (zgy hb) λm hm=> .b (zgA hb) λt ht=> .b (zgu hb) λc _=> .j (λy=>y=true) (λy hy=> .s hy) λk hk=>?_;simp only[wG,YD,VI,UH,YG,mE,FA (show wt d.1≤bA by omega),FA (show wt l.1≤bA by omega),FA (show wt m.1≤bA by omega),FA (show wt t.1≤bA by omega),beq_self_eq_true,cond_true]
  have hD:Ok (cond (!VH d.1 d.2) (k true) (cond (decide (0≤oA .i64 d.2 1)&&decide (oA .i64 d.2 1<(d.1.Clients.length:Int))) (Option.bind (d.1.Clients[(oA .i64 d.2 1).toNat]?) λe=>cond (e.St==0) (k (mD d.1)) (k false)) none)) λr=>r=true:=by
   cases h:VH d.1 d.2
   ·exact hk _ rfl
   ·obtain⟨h1,h2,h3,e,h4,h5⟩:=ziJ h;have hi:=rB (a:=d.2) (b:=1) (by omega) (by omega);have:=(List.getElem?_eq_some_iff.1 h4).1;rw[hi,h4,TA,h5,h1,decide_eq_true (by omega),decide_eq_true (by omega)];exact hk _ rfl
  have hT:jH t.1 t.2=true→yD t.1 t.2=true:=zhN;have hM:dI m.1 m.2.1 m.2.2=true→yD m.1 m.2.1=true:=zhR;have hE:yD m.1 m.2.1=true→DF m.1 m.2.1=true:=zjF;cases h1:dI m.1 m.2.1 m.2.2
  ·cases h2:jH t.1 t.2
   ·exact hD
   ·rw[hT h2];exact hD
  ·rw[hM h1,hE (hM h1)];cases h2:jH t.1 t.2
   ·exact hD
   ·rw[hT h2];exact hD
 obtain⟨r,h,rfl⟩:=this;exact h
end Go.D

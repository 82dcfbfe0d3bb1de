/-
 Sizes of the program's data.
-/
import Derived.Test.YtfealdecpglcnaaGreatN12
import Derived.Test.YtfealdecpglcnaaGreatN10
set_option linter.all false
namespace Go.D
end Go.D
namespace Go.D
end Go.D
namespace Go.D
open Option renaming bind→ob
noncomputable section
def Qm(a0:Ap):=cond (([]:List Int).length+a0.Bits.length≤bA) (some (⟨a0.Top,[]++a0.Bits⟩:Ap)) none
def Od(a0:Av):=ob (yA a0.Key) λr1=>ob (kA a0.Win) λr2=>some (⟨a0.N,r1,a0.Seq,r2⟩:Av)
def Oe(a0:Aj):=ob (yA a0.Sn) λr1=>ob (yA a0.Next) λr2=>ob (kA a0.Cur) λr3=>ob (kA a0.Old) λr4=>some (⟨a0.Role,r1,r3,r4,a0.HasOld,a0.Until,r2⟩:Aj)
def Ng(a0:Ai):=aA (λ(y1:Ai)=>some y1) λk2=>uA FU (λ(x3:Int×Ai) k4=>cond (x3.1<(a0.Cands.length:Int)) (ob (jA a0.Cands x3.1) λe5=>ob (yA e5.Draw) λr6=>cond (x3.2.Cands.length+[(⟨e5.A,r6,e5.Until⟩:Aw)].length≤bA) (k4 ((fA .i64 x3.1 1),(⟨x3.2.At,x3.2.Cands++[(⟨e5.A,r6,e5.Until⟩:Aw)]⟩:Ai))) none) (k2 x3.2)) (0,(⟨a0.At,[]⟩:Ai))
def Of(a0:Ah):=ob (yA a0.Cn) λr1=>ob (yA a0.Sn) λr2=>ob (kA a0.C) λr3=>ob (kA a0.P) λr4=>some (⟨a0.Id,r1,r2,r3,r4,a0.Tick,a0.Last,a0.Dead⟩:Ah)
def Qn(a0:Ao):=aA (λ(y1:Ao)=>some y1) λk2=>uA FU (λ(x3:Int×Ao) k4=>cond (x3.1<(a0.L.length:Int)) (ob (jA a0.L x3.1) λe5=>ob (kA e5) λr6=>cond (x3.2.L.length+[r6].length≤bA) (k4 ((fA .i64 x3.1 1),(⟨x3.2.Cap,x3.2.L++[r6]⟩:Ao))) none) (k2 x3.2)) (0,(⟨a0.Cap,[]⟩:Ao))
def Og(a0:List Ak):=cond (([]:List Ak).length+a0.length≤bA) (some ([]++a0)) none
def Oh(a0:Ac):=ob (tS a0.Psks) λr1=>ob (yA a0.J.Secret) λr2=>ob (yA a0.D.Seed) λr3=>ob (kA a0.T) λr4=>ob (kA a0.Cr) λr5=>some (⟨r1,(⟨r2⟩:Ay),(⟨r3,a0.D.N⟩:Ar),r4,r5⟩:Ac)
def Oi(a0:Ab):=ob (yA a0.Cn) λr1=>ob (yA a0.Sn) λr2=>ob (yA a0.Cookie) λr3=>ob (yA a0.Proof) λr4=>ob (yA a0.Body) λr5=>ob (yA a0.Tag) λr6=>some (⟨a0.Kind,a0.Id,r1,r2,a0.Tick,r3,r4,a0.Epoch,a0.Seq,r5,r6⟩:Ab)
def Oj(a0:Ae):=ob (yA a0.Psk) λr1=>ob (yA a0.Cn) λr2=>ob (kA a0.Fin) λr3=>ob (kA a0.C) λr4=>some (⟨a0.Id,r1,a0.At,a0.St,r2,r3,r4,a0.T,a0.R,a0.Last⟩:Ae)
def Nh(a0:List Al):=aA (λ(y1:(List Al))=>some y1) λk2=>uA FU (λ(x3:(List Al)×Int) k4=>cond (x3.2<(a0.length:Int)) (ob (jA a0 x3.2) λe5=>ob (yA e5.B) λr6=>cond (x3.1.length+[(⟨e5.From,e5.To,r6⟩:Al)].length≤bA) (k4 ((x3.1++[(⟨e5.From,e5.To,r6⟩:Al)]),(fA .i64 x3.2 1))) none) (k2 x3.1)) ([],0)
def Ol(a0:Ad):=ob (yA a0.Cn) λr1=>ob (yA a0.Sn) λr2=>ob (yA a0.Body) λr3=>ob (yA a0.Key) λr4=>some (⟨a0.Kind,a0.Id,a0.Role,r1,r2,a0.Epoch,a0.Seq,r3,r4,a0.A,a0.Now⟩:Ad)
def Qo(a0:List Ad):=aA (λ(y1:(List Ad))=>some y1) λk2=>uA FU (λ(x3:(List Ad)×Int) k4=>cond (x3.2<(a0.length:Int)) (ob (jA a0 x3.2) λe5=>ob (kA e5) λr6=>cond (x3.1.length+[r6].length≤bA) (k4 ((x3.1++[r6]),(fA .i64 x3.2 1))) none) (k2 x3.1)) ([],0)
def Om(a0:Aa):=ob (kA a0.S) λr1=>ob (yA a0.D.Seed) λr2=>aA (λ(y3:Aa)=>ob (kA a0.Seen) λr9=>ob (tS a0.Known) λr10=>ob (kA a0.Notes) λr11=>some (⟨y3.Now,y3.Clients,y3.S,y3.D,r9,r10,r11⟩:Aa)) λk4=>uA FU (λ(x5:Int×Aa) k6=>cond (x5.1<(a0.Clients.length:Int)) (ob (jA a0.Clients x5.1) λe7=>ob (kA e7) λr8=>cond (x5.2.Clients.length+[r8].length≤bA) (k6 ((fA .i64 x5.1 1),(⟨x5.2.Now,x5.2.Clients++[r8],x5.2.S,x5.2.D,x5.2.Seen,x5.2.Known,x5.2.Notes⟩:Aa))) none) (k4 x5.2)) (0,(⟨a0.Now,[],r1,(⟨r2,a0.D.N⟩:Ar),[],[],[]⟩:Aa))
def Ig(a0:Ae):=ob (yA a0.Cn) λr1=>some (⟨1,a0.Id,r1,[],0,[],[],0,0,[],[]⟩:Ab)
def Jj(a0:Ae)(a1:Int)(a2:List UInt8):Option (Ae×(List Ab)×(List Ad)×Int):=
 ob (kA a0) λr1=>
 aA (λy2=>
 cond (y2)
 (some (r1,[],[],1))
 (cond (a0.St !=0)
 (some (r1,[],[],6))
 (ob (yA a2) λr5=>
 ob (Bi a1) λr6=>
 ob (yA a2) λr7=>
 ob (Ig (⟨r1.Id,r1.Psk,r1.At,1,r5,r1.Fin,r1.C,r6,r1.R,r1.Last⟩:Ae)) λr8=>
 let x9:List Ad:=[(⟨1,a0.Id,0,r7,[],0,0,[],[],(⟨0,0⟩:Af),a1⟩:Ad)]
 some ((⟨r1.Id,r1.Psk,r1.At,1,r5,r1.Fin,r1.C,r6,r1.R,r1.Last⟩:Ae),[r8],x9,0)))) λk3=>
 ob (qD a0) λr4=>
 cond (!r4)
 (k3 true)
 (cond (!(eA a1 0 1000000))
 (k3 true)
 (k3 (!(mA a2))))
def Cq(a0:Int)(a1:List UInt8)(a2:Int)(a3:Int):=
 aA (λy1=>
 cond (y1)
 (some [])
 (ob (JB [] a2 4) λr3=>
 ob (JB [] a3 6) λr4=>
 let x5:List (List UInt8):=[[UInt8.ofNat (IntKind.wrap .u8 a0:Int).toNat],a1,r3,r4]
 ob (aD x5) λr6=>
 some r6)) λk2=>
 cond (!(GA a0))
 (k2 true)
 (cond (!(mA a1))
 (k2 true)
 (cond (!(eA a2 0 4294967295))
 (k2 true)
 (k2 (!(eA a3 0 281474976710655)))))
def Ih(a0:List UInt8)(a1:List UInt8)(a2:Int):=
 aA (λy1=>
 cond (y1)
 (some [])
 (ob (aD [[UInt8.ofNat (115:Int).toNat],a1]) λr3=>
 ob (JB r3 a2 4) λr4=>
 let r5:(List UInt8):=TC a0 r4
 some r5)) λk2=>
 cond (!(eA a2 0 6))
 (k2 true)
 (k2 (decide ((a1.length:Int)>100)))
def Eb(a0:List UInt8)(a1:List UInt8)(a2:Int):=aA (λy1=>cond (y1) (some []) (aA (λ(y3:(List UInt8))=>cond (decide (0≤(0:Int))&&decide ((0:Int)≤a2)&&decide (a2≤(y3.length:Int))) (ob (yA (List.take ((a2 - 0).toNat) (List.drop 0 y3))) λr8=>some r8) none) λk4=>uA FU (λ(x5:(List UInt8)×Int) k6=>cond ((x5.1.length:Int)<a2) (ob (Ih a0 a1 x5.2) λr7=>cond (x5.1.length+r7.length≤bA) (k6 ((x5.1++r7),(fA .i64 x5.2 1))) none) (k4 x5.1)) ([],0))) λk2=>cond (!(eA a2 0 200)) (k2 true) (cond ((a1.length:Int)>100) (k2 true) (k2 (decide ((a0.length:Int)>1048576))))
def Ch(a0:List UInt8)(a1:List UInt8)(a2:List UInt8):=
 aA (λy1=>
 cond (y1)
 (some [])
 (ob (Eb a0 a1 (a2.length:Int)) λr3=>
 aA (λ(y4:(List UInt8))=>
 some y4) λk5=>
 uA FU (λ(x6:(List UInt8)×Int) k7=>
 cond (x6.2<(r3.length:Int))
 (cond (0≤x6.2&&x6.2<(r3.length:Int)) (ob (r3[x6.2.toNat]?) λe8=>
 ob (jA a2 x6.2) λe9=>
 let x10:Int:=AB .u8 ((e8.toNat:Nat):Int) ((e9.toNat:Nat):Int)
 cond (x6.1.length+[UInt8.ofNat (x10:Int).toNat].length≤bA) (k7 ((x6.1++[UInt8.ofNat (x10:Int).toNat]),(fA .i64 x6.2 1))) none) none)
 (k5 x6.1)) ([],0))) λk2=>
 cond ((a2.length:Int)>200)
 (k2 true)
 (cond ((a1.length:Int)>100)
 (k2 true)
 (k2 (decide ((a0.length:Int)>1048576))))
def Bq(a0:Int)(a1:Ab):=
 aA (λy1=>
 cond (y1)
 (some [])
 (ob (Cq a0 a1.Sn a1.Epoch a1.Seq) λr4=>
 let x5:List (List UInt8):=[[UInt8.ofNat (116:Int).toNat],r4,[UInt8.ofNat (IntKind.wrap .u8 a1.Kind:Int).toNat],a1.Body]
 ob (aD x5) λr6=>
 some r6)) λk2=>
 cond (!(GA a0))
 (k2 true)
 (cond (!(nB a1.Kind))
 (k2 true)
 (ob (QC a1) λr3=>
 k2 (!r3)))
def Ci(a0:List UInt8)(a1:List UInt8):=
 let r1:(List UInt8):=TC a0 a1
 cond ((r1.length:Int)==0)
 (some [])
 (cond (decide (0≤(0:Int))&&decide ((0:Int)≤16)&&decide (16≤(r1.length:Int))) (ob (yA (List.take 16 (List.drop 0 r1))) λr2=>
 some r2) none)
def Cj(a0:List UInt8)(a1:Int)(a2:List UInt8)(a3:Int)(a4:Int)(a5:Int)(a6:List UInt8):=
 ob (yA a2) λr1=>
 ob (yA a6) λr2=>
 let x3:List UInt8:=List.replicate (16:Int).toNat (UInt8.ofNat (0:Int).toNat:UInt8)
 aA (λy4=>
 cond (y4)
 (some ((⟨0,0,[],[],0,[],[],0,0,[],[]⟩:Ab),false))
 (ob (Cq a1 a2 a3 a4) λr7=>
 ob (Ch a0 r7 a6) λr8=>
 ob (Bq a1 (⟨a5,0,[],r1,0,[],[],a3,a4,r8,x3⟩:Ab)) λr9=>
 ob (Ci a0 r9) λr10=>
 some ((⟨a5,0,[],r1,0,[],[],a3,a4,r8,r10⟩:Ab),true))) λk5=>
 cond ((a0.length:Int) !=32)
 (k5 true)
 (cond (!(GA a1))
 (k5 true)
 (cond (!(nB a5))
 (k5 true)
 (ob (QC (⟨a5,0,[],r1,0,[],[],a3,a4,r2,x3⟩:Ab)) λr6=>
 k5 (!r6))))
def Ck(a0:Av)(a1:Int)(a2:List UInt8)(a3:Int)(a4:List UInt8):Option (Av×Ab×Int):=ob (kA a0) λr1=>cond (!(cC a0)) (some (r1,(⟨0,0,[],[],0,[],[],0,0,[],[]⟩:Ab),1)) (ob (Cj a0.Key a1 a2 a0.N 0 a3 a4) λr2=>cond (!r2.2) (some (r1,(⟨0,0,[],[],0,[],[],0,0,[],[]⟩:Ab),1)) (aA (λy3=>cond (y3) (some (r1,(⟨0,0,[],[],0,[],[],0,0,[],[]⟩:Ab),4)) (cond (a0.Seq==281474976710656) (some (r1,(⟨0,0,[],[],0,[],[],0,0,[],[]⟩:Ab),5)) (ob (Cj a0.Key a1 a2 a0.N a0.Seq a3 a4) λr5=>some ((⟨r1.N,r1.Key,fA .i64 r1.Seq 1,r1.Win⟩:Av),r5.1,0)))) λk4=>cond (a3==4) (k4 (decide (a0.Seq≥281474976709656))) (k4 false)))
def Bh(a0:Aj)(a1:Int)(a2:List UInt8):Option (Aj×Ab×Int):=ob (kA a0) λr1=>ob (lC a0) λr2=>cond (!r2) (some (r1,(⟨0,0,[],[],0,[],[],0,0,[],[]⟩:Ab),1)) (ob (Ck a0.Cur a0.Role a0.Sn a1 a2) λr3=>some ((⟨r1.Role,r1.Sn,r3.1,r1.Old,r1.HasOld,r1.Until,r1.Next⟩:Aj),r3.2.1,r3.2.2))
def Fc(a0:List UInt8)(a1:List UInt8):=ob (yA a0) λr1=>ob (yA a1) λr2=>some (⟨15,0,0,[],[],0,0,r2,r1,(⟨0,0⟩:Af),0⟩:Ad)
def Bz(a0:Aj)(a1:Ab):=ob (Bq a0.Role a1) λr1=>ob (Fc a0.Cur.Key r1) λr2=>some r2
def Ec(a0:Ae)(a1:Int)(a2:List UInt8):Option (Ae×(List Ab)×(List Ad)×Int):=
 ob (kA a0) λr1=>
 aA (λy2=>
 cond (y2)
 (some (r1,[],[],1))
 (cond (a0.St !=3)
 (some (r1,[],[],6))
 (ob (Bh a0.C 4 a2) λr5=>
 cond (r5.2.2 !=0)
 (some (r1,[],[],r5.2.2))
 (ob (yA r5.2.1.Sn) λr6=>
 ob (yA a2) λr7=>
 ob (Bz r5.1 r5.2.1) λr8=>
 let x9:List Ad:=[r8,(⟨5,0,0,[],r6,r5.2.1.Epoch,r5.2.1.Seq,r7,[],(⟨0,0⟩:Af),0⟩:Ad)]
 some ((⟨r1.Id,r1.Psk,r1.At,r1.St,r1.Cn,r1.Fin,r5.1,r1.T,r1.R,r1.Last⟩:Ae),[r5.2.1],x9,0))))) λk3=>
 ob (qD a0) λr4=>
 cond (!r4)
 (k3 true)
 (cond (!(eA a1 0 1000000))
 (k3 true)
 (k3 (decide ((a2.length:Int)>40))))
def Ii(a0:Aj):Option (Aj×Ab×Int):=aA (λy1=>cond (y1) (ob (kA a0) λr4=>some (r4,(⟨0,0,[],[],0,[],[],0,0,[],[]⟩:Ab),6)) (ob (Bp (fA .i64 a0.Cur.N 1)) λr5=>ob (Bh a0 7 r5) λr6=>some (r6.1,r6.2.1,r6.2.2))) λk2=>ob (lC a0) λr3=>cond (!r3) (k2 true) (k2 ((a0.Next.length:Int)==0))
def Jk(a0:Ae)(a1:Int):Option (Ae×(List Ab)×(List Ad)×Int):=ob (kA a0) λr1=>aA (λy2=>cond (y2) (some (r1,[],[],1)) (aA (λy5=>cond (y5) (some (r1,[],[],6)) (ob (Dx a0.C) λr7=>ob (Ii r7.1) λr8=>aA (λy9=>cond (y9) (some (r1,[],[],5)) (ob (Bi a1) λr11=>ob (Bz r8.1 r8.2.1) λr12=>some ((⟨r1.Id,r1.Psk,r1.At,r1.St,r1.Cn,r1.Fin,r8.1,r1.T,r11,r1.Last⟩:Ae),[r8.2.1],[r12],0))) λk10=>cond (!r7.2) (k10 true) (k10 (r8.2.2 !=0)))) λk6=>cond (a0.St !=3) (k6 true) (k6 (decide ((a0.C.Next.length:Int)>0))))) λk3=>ob (qD a0) λr4=>cond (!r4) (k3 true) (k3 (!(eA a1 0 1000000)))
def Fd(a0:Ae):=ob (yA a0.Psk) λr1=>some (⟨a0.Id,r1,a0.At,0,[],(⟨0,0,[],[],0,[],[],0,0,[],[]⟩:Ab),(⟨0,[],(⟨0,[],0,(⟨0,[]⟩:Ap)⟩:Av),(⟨0,[],0,(⟨0,[]⟩:Ap)⟩:Av),false,0,[]⟩:Aj),(⟨false,0,0,0⟩:Au),(⟨false,0,0,0⟩:Au),0⟩:Ae)
def Dl(a0:Int)(a1:Int)(a2:List UInt8):=ob (yA a2) λr1=>some (⟨11,a0,a1,[],r1,0,0,[],[],(⟨0,0⟩:Af),0⟩:Ad)
def Jl(a0:Ae):=ob (qD a0) λr1=>cond (!r1) (ob (kA a0) λr2=>some (r2,[])) (cond (a0.St !=3) (ob (Fd a0) λr3=>some (r3,[])) (ob (Fd a0) λr4=>ob (Dl a0.Id 0 a0.C.Sn) λr5=>some (r4,[r5])))
def Ax(a0:Ab):=
 ob (QC a0) λr1=>
 cond (!r1)
 (some [])
 (cond (a0.Kind==1)
 (let x2:List UInt8:=List.replicate (20:Int).toNat (UInt8.ofNat (0:Int).toNat:UInt8)
 let x3:List (List UInt8):=[[UInt8.ofNat (IntKind.wrap .u8 a0.Kind:Int).toNat],[UInt8.ofNat (IntKind.wrap .u8 a0.Id:Int).toNat],a0.Cn,x2]
 ob (aD x3) λr4=>
 some r4)
 (cond (a0.Kind==2)
 (ob (JB [] a0.Tick 4) λr5=>
 let x6:List (List UInt8):=[[UInt8.ofNat (IntKind.wrap .u8 a0.Kind:Int).toNat],a0.Cn,a0.Sn,r5,a0.Cookie]
 ob (aD x6) λr7=>
 some r7)
 (cond (a0.Kind==3)
 (ob (JB [] a0.Tick 4) λr8=>
 let x9:List (List UInt8):=[[UInt8.ofNat (IntKind.wrap .u8 a0.Kind:Int).toNat],[UInt8.ofNat (IntKind.wrap .u8 a0.Id:Int).toNat],a0.Cn,a0.Sn,r8,a0.Cookie,a0.Proof]
 ob (aD x9) λr10=>
 some r10)
 (ob (JB [] a0.Epoch 4) λr11=>
 ob (JB [] a0.Seq 6) λr12=>
 let x13:List (List UInt8):=[[UInt8.ofNat (IntKind.wrap .u8 a0.Kind:Int).toNat],a0.Sn,r11,r12,a0.Tag,a0.Body]
 ob (aD x13) λr14=>
 some r14))))
def Dm(a0:Af)(a1:Af)(a2:Ab):=ob (Ax a2) λr1=>some (⟨a0,a1,r1⟩:Al)
def Br(a0:Ae)(a1:List Ab):=
 aA (λ(y1:(List Al))=>
 some y1) λk2=>
 uA FU (λ(x3:(List Al)×Int) k4=>
 cond (x3.2<(a1.length:Int))
 (ob (jA a1 x3.2) λe5=>
 let r6:Af:=SB
 ob (Dm a0.At r6 e5) λr7=>
 cond (x3.1.length+[r7].length≤bA) (k4 ((x3.1++[r7]),(fA .i64 x3.2 1))) none)
 (k2 x3.1)) ([],0)
def Jm(a0:Aa)(a1:Am):Option (Aa×(List Al)×Bool):=
 cond (0≤xA .i64 a1.I 2&&xA .i64 a1.I 2<(a0.Clients.length:Int)) (ob (a0.Clients[(xA .i64 a1.I 2).toNat]?) λe1=>
 aA (λ(y2:(List Ab)×(List Ad)×Int×Aa×Ae)=>
 cond (0≤xA .i64 a1.I 2&&xA .i64 a1.I 2<(y2.2.2.2.1.Clients.length:Int)) (ob (y2.2.2.2.1.Clients[(xA .i64 a1.I 2).toNat]?) λe22=>
 let l23:List Ae:=List.set y2.2.2.2.1.Clients ((xA .i64 a1.I 2).toNat) y2.2.2.2.2
 cond (y2.2.2.2.1.Notes.length+y2.2.1.length≤bA) (ob (Br y2.2.2.2.2 y2.1) λr24=>
 some ((⟨y2.2.2.2.1.Now,l23,y2.2.2.2.1.S,y2.2.2.2.1.D,y2.2.2.2.1.Seen,y2.2.2.2.1.Known,y2.2.2.2.1.Notes++y2.2.1⟩:Aa),r24,y2.2.2.1==0)) none) none) λk3=>
 cond (a1.Kind==1)
 (ob (VD a0.D) λr4=>
 ob (OD r4.2) λr5=>
 cond (a0.Notes.length+[r5].length≤bA) (ob (Jj e1 a0.Now r4.2) λr6=>
 k3 (r6.2.1,r6.2.2.1,r6.2.2.2,(⟨a0.Now,a0.Clients,a0.S,r4.1,a0.Seen,a0.Known,a0.Notes++[r5]⟩:Aa),r6.1)) none)
 (aA (λ(y7:(List Ab)×(List Ad)×Int×Ae)=>
 k3 (y7.1,y7.2.1,y7.2.2.1,a0,y7.2.2.2)) λk8=>
 cond (a1.Kind==2)
 (ob (Ec e1 a0.Now a1.B) λr9=>
 k8 (r9.2.1,r9.2.2.1,r9.2.2.2,r9.1))
 (aA (λ(y10:(List Ab)×(List Ad)×Int×Ae)=>
 k8 (y10.1,y10.2.1,y10.2.2.1,y10.2.2.2)) λk11=>
 cond (a1.Kind==6)
 (ob (Jk e1 a0.Now) λr12=>
 k11 (r12.2.1,r12.2.2.1,r12.2.2.2,r12.1))
 (aA (λ(y13:(List Ad)×Int×Ae)=>
 k11 ([],y13.1,y13.2.1,y13.2.2)) λk14=>
 cond (a1.Kind==5)
 (let r15:Af:=vC (fA .i64 1 (xA .i64 a1.N 30))
 ob (Bw e1 r15) λr16=>
 k14 ([],0,r16))
 (aA (λ(y17:(List Ad)×Int×Ae)=>
 k14 (y17.1,y17.2.1,y17.2.2)) λk18=>
 cond (a1.Kind==13)
 (aA (λ(y19:Int)=>
 ob (Jl e1) λr21=>
 k18 (r21.2,y19,r21.1)) λk20=>
 cond (e1.St==0)
 (k20 6)
 (k20 0))
 (k18 ([],0,e1))))))) none
def Jn(a0:Int):Option Int:=aA (λy1=>cond (y1) (some 1) (aA (λy3=>cond (y3) (some 2) (cond (a0==10) (some 3) (some 0))) λk4=>cond (a0==5) (k4 (a0==5)) (aA (λ(y5:Bool)=>k4 y5) λk6=>cond (a0==6) (k6 (a0==6)) (aA (λ(y7:Bool)=>k6 y7) λk8=>cond (a0==7) (k8 (a0==7)) (k8 (a0==8)))))) λk2=>cond (a0==4) (k2 (a0==4)) (k2 (a0==9))
def Jb(a0:List UInt8)(a1:List UInt8):=
 aA (λ(y1:(List UInt8))=>
 some y1) λk2=>
 uA FU (λ(x3:(List UInt8)×Int) k4=>
 cond (x3.2<(a0.length:Int))
 (ob (jA a0 x3.2) λe5=>
 ob (jA a1 x3.2) λe6=>
 let x7:Int:=AB .u8 ((e5.toNat:Nat):Int) ((e6.toNat:Nat):Int)
 cond (x3.1.length+[UInt8.ofNat (x7:Int).toNat].length≤bA) (k4 ((x3.1++[UInt8.ofNat (x7:Int).toNat]),(fA .i64 x3.2 1))) none)
 (k2 x3.1)) ([],0)
def Jc(a0:Bb)(a1:List (List UInt8))(a2:List Al)(a3:List (List UInt8)):=
 cond (a0.Kind==1)
 (some (a0.B,true))
 (aA (λ(y1:Unit)=>
 some ([],false)) λk2=>
 cond (a0.Kind==2)
 (cond (a0.I<(a2.length:Int))
 (ob (jA a2 a0.I) λe3=>
 some (e3.B,true))
 (k2 ()))
 (aA (λ(y4:Unit)=>
 k2 ()) λk5=>
 cond (a0.Kind==3)
 (cond (a0.I<(a3.length:Int))
 (ob (jA a3 a0.I) λe6=>
 some (e6,true))
 (k5 ()))
 (cond (a0.Kind==4)
 (ob (jA a1 0) λe7=>
 ob (LJ e7 a0.I a0.J) λr8=>
 some (r8.1,r8.2))
 (cond (a0.Kind==5)
 (ob (jA a1 0) λe9=>
 ob (jA a1 1) λe10=>
 ob (aD [e9,e10]) λr11=>
 some (r11,true))
 (aA (λ(y12:Unit)=>
 k5 ()) λk13=>
 cond (a0.Kind==6)
 (ob (jA a1 0) λe14=>
 ob (jA a1 1) λe15=>
 cond ((e14.length:Int)==(e15.length:Int))
 (ob (jA a1 0) λe16=>
 ob (jA a1 1) λe17=>
 ob (Jb e16 e17) λr18=>
 some (r18,true))
 (k13 ()))
 (cond (a0.Kind==7)
 (ob (jA a1 0) λe19=>
 ob (jA a1 1) λe20=>
 let r21:(List UInt8):=TC e19 e20
 some (r21,true))
 (cond (a0.Kind==8)
 (ob (jA a1 0) λe22=>
 ob (jA a1 1) λe23=>
 ob (Ci e22 e23) λr24=>
 some (r24,true))
 (cond (a0.Kind==9)
 (ob (jA a1 0) λe25=>
 ob (LE e25 [114,101,107,101,121]) λr26=>
 some (r26,true))
 (cond (a0.Kind==10)
 (ob (jA a1 0) λe27=>
 ob (jA a1 1) λe28=>
 ob (jA a1 2) λe29=>
 ob (Ch e27 e28 e29) λr30=>
 some (r30,true))
 (k13 ()))))))))))
def Ij(a0:List Bb)(a1:List Al)(a2:List (List UInt8)):Option ((List UInt8)×Bool):=
 cond ((a0.length:Int)>16)
 (some ([],false))
 (aA (λ(y1:(List (List UInt8)))=>
 cond ((y1.length:Int) !=1)
 (some ([],false))
 (cond (0≤(0:Int)&&(0:Int)<(y1.length:Int)) (ob (y1[0]?) λe15=>
 ob (yA e15) λr16=>
 some (r16,true)) none)) λk2=>
 uA FU (λ(x3:(List (List UInt8))×Int) k4=>
 cond (x3.2<(a0.length:Int))
 (ob (jA a0 x3.2) λe5=>
 ob (Jn e5.Kind) λr6=>
 aA (λy7=>
 cond (y7)
 (some ([],false))
 (cond (decide (0≤(oA .i64 (x3.1.length:Int) r6))&&decide ((oA .i64 (x3.1.length:Int) r6)≤(x3.1.length:Int))&&decide ((x3.1.length:Int)≤(x3.1.length:Int))) (ob (Jc e5 (List.take (((x3.1.length:Int) - (oA .i64 (x3.1.length:Int) r6)).toNat) (List.drop ((oA .i64 (x3.1.length:Int) r6).toNat) x3.1)) a1 a2) λr10=>
 aA (λy11=>
 cond (y11)
 (some ([],false))
 (cond (decide (0≤(0:Int))&&decide ((0:Int)≤(oA .i64 (x3.1.length:Int) r6))&&decide ((oA .i64 (x3.1.length:Int) r6)≤(x3.1.length:Int))) (cond (([]:List (List UInt8)).length+(List.take ((oA .i64 (x3.1.length:Int) r6 - 0).toNat) (List.drop 0 x3.1)).length≤bA) (let x14:List (List UInt8):=[]++(List.take ((oA .i64 (x3.1.length:Int) r6 - 0).toNat) (List.drop 0 x3.1))
 cond (x14.length+[r10.1].length≤bA) (k4 ((x14++[r10.1]),(fA .i64 x3.2 1))) none) none) none)) λk12=>
 cond (!r10.2)
 (k12 true)
 (cond ((r10.1.length:Int)>200)
 (k12 true)
 (let x13:Int:=fA .i64 (oA .i64 (x3.1.length:Int) r6) 1
 k12 (decide (x13>8))))) none)) λk8=>
 ob (Ea e5) λr9=>
 cond (!r9)
 (k8 true)
 (k8 (decide ((oA .i64 (x3.1.length:Int) r6)<0))))
 (k2 x3.1)) ([],0))
def Fe(a0:List Ak)(a1:Af)(a2:Int):=
 ob (kA a0) λr1=>
 aA (λy2=>
 cond (y2)
 (some r1)
 (aA (λ(y4:(List Ak))=>
 some y4) λk5=>
 cond ((VA a0 a1)≥0)
 (cond (0≤(VA a0 a1)&&(VA a0 a1)<(r1.length:Int)) (ob (r1[(VA a0 a1).toNat]?) λe6=>
 cond (0≤(VA a0 a1)&&(VA a0 a1)<(r1.length:Int)) (ob (r1[(VA a0 a1).toNat]?) λe7=>
 let l8:List Ak:=List.set r1 ((VA a0 a1).toNat) (⟨e7.A,HD (fA .i64 e6.Got a2) 1000000,e7.Sent⟩:Ak)
 k5 l8) none) none)
 (aA (λ(y9:(List Ak))=>
 k5 y9) λk10=>
 cond ((a0.length:Int)<8)
 (cond (r1.length+[(⟨a1,a2,0⟩:Ak)].length≤bA) (k10 (r1++[(⟨a1,a2,0⟩:Ak)])) none)
 (k10 r1)))) λk3=>
 cond (!(pC a0))
 (k3 true)
 (cond (!(EA a1))
 (k3 true)
 (k3 (!(eA a2 0 1000000))))
def Bl(a0:List UInt8)(a1:Int):=
 cond (decide (0≤(0:Int))&&decide ((0:Int)≤(HD a1 (a0.length:Int)))&&decide ((HD a1 (a0.length:Int))≤(a0.length:Int))) (let l1:List UInt8:=List.take ((HD a1 (a0.length:Int) - 0).toNat) (List.drop 0 a0)
 ob (yA l1) λr2=>
 cond (decide (0≤(HD a1 (a0.length:Int)))&&decide ((HD a1 (a0.length:Int))≤(a0.length:Int))&&decide ((a0.length:Int)≤(a0.length:Int))) (let l3:List UInt8:=List.take (((a0.length:Int) - (HD a1 (a0.length:Int))).toNat) (List.drop ((HD a1 (a0.length:Int)).toNat) a0)
 some (r2,l3)) none) none
def Ca(a0:List UInt8)(a1:Int):=ob (Bl a0 a1) λr1=>ob (mH r1.1 0 a1) λr2=>some (r2.1,r1.2)
def Cb(a0:List UInt8):=ob (Ca a0 1) λr1=>aA (λ(y2:(List UInt8)×Ab)=>aA (λy27=>cond (y27) (some ((⟨0,0,[],[],0,[],[],0,0,[],[]⟩:Ab),false)) (some (y2.2,true))) λk28=>ob (QC y2.2) λr29=>cond (!r29) (k28 true) (ob (Ax y2.2) λr30=>ob (uB r30 a0) λr31=>k28 (!r31))) λk3=>cond (r1.1==1) (ob (Ca r1.2 1) λr4=>ob (Bl r4.2 12) λr5=>k3 (r5.2,(⟨r1.1,r4.1,r5.1,[],0,[],[],0,0,[],[]⟩:Ab))) (aA (λ(y6:Bool)=>aA (λ(y8:(List UInt8)×Ab)=>k3 (y8.1,y8.2)) λk9=>cond (y6) (aA (λ(y10:(List UInt8)×Ab)=>ob (Bl y10.1 12) λr13=>ob (Bl r13.2 12) λr14=>ob (Ca r14.2 4) λr15=>ob (Bl r15.2 16) λr16=>aA (λ(y17:(List UInt8)×Ab)=>k9 (y17.1,y17.2)) λk18=>cond (y10.2.Kind==3) (ob (Bl r16.2 16) λr19=>k18 (r19.2,(⟨y10.2.Kind,y10.2.Id,r13.1,r14.1,r15.1,r16.1,r19.1,y10.2.Epoch,y10.2.Seq,y10.2.Body,y10.2.Tag⟩:Ab))) (k18 (r16.2,(⟨y10.2.Kind,y10.2.Id,r13.1,r14.1,r15.1,r16.1,y10.2.Proof,y10.2.Epoch,y10.2.Seq,y10.2.Body,y10.2.Tag⟩:Ab)))) λk11=>cond (r1.1==3) (ob (Ca r1.2 1) λr12=>k11 (r12.2,(⟨r1.1,r12.1,[],[],0,[],[],0,0,[],[]⟩:Ab))) (k11 (r1.2,(⟨r1.1,0,[],[],0,[],[],0,0,[],[]⟩:Ab)))) (aA (λ(y20:(List UInt8)×Ab)=>k9 (y20.1,y20.2)) λk21=>cond ((nB r1.1)) (ob (Bl r1.2 12) λr22=>ob (Ca r22.2 4) λr23=>ob (Ca r23.2 6) λr24=>ob (Bl r24.2 16) λr25=>ob (Bl r25.2 41) λr26=>k21 (r26.2,(⟨r1.1,0,[],r22.1,0,[],[],r23.1,r24.1,r26.1,r25.1⟩:Ab))) (k21 (r1.2,(⟨r1.1,0,[],[],0,[],[],0,0,[],[]⟩:Ab))))) λk7=>cond (r1.1==2) (k7 true) (k7 (r1.1==3)))
def Dn(a0:Ao)(a1:Af):=
 aA (λ(y1:Unit)=>
 some false) λk2=>
 uA FU (λ(x3:Int) k4=>
 cond (x3<(a0.L.length:Int))
 (ob (jA a0.L x3) λe5=>
 aA (λy6=>
 cond (y6)
 (some true)
 (k4 (fA .i64 x3 1))) λk7=>
 cond (!e5.Dead)
 (let x8:Bool:=cond (e5.P.At.Host==a1.Host) (cond (e5.P.At.Port==a1.Port) (true) false) false
 k7 x8)
 (k7 false))
 (k2 ())) 0
def Ed(a0:Ac)(a1:Af)(a2:Int):=aA (λ(y1:Bool)=>some y1) λk2=>ob (Dn a0.T a1) λr3=>cond (r3) (k2 true) (ob (Bc a0.Cr a1) λr4=>k2 (decide (r4≥a2)))
def Ik(a0:List UInt8)(a1:Af):=cond (!(EA a1)) (ob (yA a0) λr1=>some r1) (ob (JB a0 a1.Host 4) λr2=>ob (JB r2 a1.Port 2) λr3=>some r3)
def Ff(a0:Af)(a1:Int)(a2:List UInt8)(a3:List UInt8)(a4:Int):=
 aA (λy1=>
 cond (y1)
 (some [])
 (ob (Ik [UInt8.ofNat (99:Int).toNat] a0) λr3=>
 ob (JB [] a4 4) λr4=>
 let x5:List (List UInt8):=[r3,[UInt8.ofNat (IntKind.wrap .u8 a1:Int).toNat],a2,a3,r4]
 ob (aD x5) λr6=>
 some r6)) λk2=>
 cond (!(EA a0))
 (k2 true)
 (cond (!(eA a1 1 9))
 (k2 true)
 (cond (!(mA a2))
 (k2 true)
 (cond (!(mA a3))
 (k2 true)
 (k2 (!(eA a4 0 1000000))))))
def Gf(a0:Ay)(a1:Af)(a2:Int)(a3:List UInt8)(a4:List UInt8)(a5:Int):=ob (Ff a1 a2 a3 a4 a5) λr1=>aA (λy2=>cond (y2) (some []) (ob (Ci a0.Secret r1) λr4=>some r4)) λk3=>cond (!(gF a0)) (k3 true) (k3 ((r1.length:Int)==0))
def Gg(a0:Ac)(a1:Int)(a2:Af)(a3:Ab):=
 aA (λy1=>
 cond (y1)
 (some (a0,[],[]))
 (ob (VD a0.D) λr4=>
 ob (Gf a0.J a2 a3.Id a3.Cn r4.2 a1) λr5=>
 ob (yA a3.Cn) λr6=>
 ob (yA r4.2) λr7=>
 ob (Ff a2 a3.Id a3.Cn r4.2 a1) λr8=>
 ob (Fc a0.J.Secret r8) λr9=>
 let x10:List Aq:=[(⟨a2,(⟨2,0,r6,r7,a1,r5,[],0,0,[],[]⟩:Ab)⟩:Aq)]
 ob (OD r4.2) λr11=>
 some ((⟨a0.Psks,a0.J,r4.1,a0.T,a0.Cr⟩:Ac),x10,[r11,r9]))) λk2=>
 cond (a3.Id>(a0.Psks.length:Int))
 (k2 true)
 (ob (Ed a0 a2 45) λr3=>
 cond (!r3)
 (k2 true)
 (k2 (decide (a0.D.N≥10000))))
def Il(a0:Ay)(a1:Int)(a2:Af)(a3:Ab):Option Int:=aA (λy1=>cond (y1) (some 1) (ob (De a1 a3.Tick) λr4=>cond (!r4) (some 9) (ob (Gf a0 a2 a3.Id a3.Cn a3.Sn a3.Tick) λr5=>ob (Bn a3.Cookie r5) λr6=>cond (!r6) (some 2) (some 0)))) λk2=>cond (!(gF a0)) (k2 true) (cond (!(eA a1 0 1000000)) (k2 true) (cond (!(EA a2)) (k2 true) (cond (a3.Kind !=3) (k2 true) (ob (QC a3) λr3=>k2 (!r3)))))
def Do(a0:Int)(a1:List UInt8)(a2:List UInt8)(a3:Int)(a4:List UInt8):=
 aA (λy1=>
 cond (y1)
 (some [])
 (let x3:List UInt8:=[UInt8.ofNat (102:Int).toNat,UInt8.ofNat (IntKind.wrap .u8 a0:Int).toNat]
 ob (JB [] a3 4) λr4=>
 ob (aD [x3,a1,a2,r4,a4]) λr5=>
 some r5)) λk2=>
 cond (!(eA a0 1 9))
 (k2 true)
 (cond (!(mA a1))
 (k2 true)
 (cond (!(mA a2))
 (k2 true)
 (cond (!(eA a3 0 1000000))
 (k2 true)
 (k2 ((a4.length:Int) !=16)))))
def Ee(a0:List UInt8)(a1:Int)(a2:List UInt8)(a3:List UInt8)(a4:Int)(a5:List UInt8):=ob (Bj a0) λr1=>ob (Do a1 a2 a3 a4 a5) λr2=>aA (λy3=>cond (y3) (some []) (ob (Ci r1 r2) λr5=>some r5)) λk4=>cond ((r1.length:Int)==0) (k4 true) (k4 ((r2.length:Int)==0))
def Im(a0:List UInt8)(a1:Ab):=aA (λ(y1:Bool)=>some y1) λk2=>cond (a1.Kind==3) (ob (QC a1) λr3=>cond (r3) (ob (Ee a0 a1.Id a1.Cn a1.Sn a1.Tick a1.Cookie) λr4=>ob (Bn a1.Proof r4) λr5=>k2 r5) (k2 false)) (k2 false)
def In(a0:List UInt8)(a1:List UInt8)(a2:List UInt8):=aA (λy1=>cond (y1) (some []) (ob (aD [a1,a2]) λr3=>ob (Cg r3 a0) λr4=>some r4)) λk2=>cond (!(JC a0)) (k2 true) (cond (!(mA a1)) (k2 true) (k2 (!(mA a2))))
def Io(a0:List UInt8)(a1:Int):=cond (!(eA a1 0 64)) (some []) (ob (yA a0) λr1=>aA (λ(y2:(List UInt8))=>some y2) λk3=>uA FU (λ(x4:(List UInt8)×Int) k5=>cond (x4.2<a1) (ob (LE x4.1 [114,101,107,101,121]) λr6=>k5 (r6,(fA .i64 x4.2 1))) (k3 x4.1)) (r1,0))
def Gh(a0:List UInt8)(a1:List UInt8)(a2:List UInt8)(a3:Int):=ob (In a0 a1 a2) λr1=>ob (Df r1) λr2=>cond ((r2.length:Int)==0) (some []) (ob (Io r2 a3) λr3=>some r3)
def Jo:=some (⟨(-1),List.replicate (32:Int).toNat (0:Int)⟩:Ap)
def Cl(a0:Int)(a1:List UInt8):=aA (λy1=>cond (y1) (some (⟨0,[],0,(⟨0,[]⟩:Ap)⟩:Av)) (ob (yA a1) λr3=>ob (Jo) λr4=>some (⟨a0,r3,0,r4⟩:Av))) λk2=>cond (!(eA a0 0 4294967295)) (k2 true) (k2 ((a1.length:Int) !=32))
def Ef(a0:Int)(a1:List UInt8)(a2:List UInt8):=aA (λy1=>cond (y1) (some (⟨0,[],(⟨0,[],0,(⟨0,[]⟩:Ap)⟩:Av),(⟨0,[],0,(⟨0,[]⟩:Ap)⟩:Av),false,0,[]⟩:Aj)) (ob (yA a1) λr3=>ob (Cl 0 a2) λr4=>some (⟨a0,r3,r4,(⟨0,[],0,(⟨0,[]⟩:Ap)⟩:Av),false,0,[]⟩:Aj))) λk2=>cond (!(GA a0)) (k2 true) (cond (!(mA a1)) (k2 true) (k2 ((a2.length:Int) !=32)))
def Dp(a0:List UInt8)(a1:Int)(a2:Af)(a3:Ab):=aA (λy1=>cond (y1) (some (⟨0,[],[],(⟨0,[],(⟨0,[],0,(⟨0,[]⟩:Ap)⟩:Av),(⟨0,[],0,(⟨0,[]⟩:Ap)⟩:Av),false,0,[]⟩:Aj),(⟨(⟨0,0⟩:Af),[]⟩:Ai),0,0,false⟩:Ah)) (ob (yA a3.Cn) λr4=>ob (yA a3.Sn) λr5=>ob (Dh a2) λr6=>ob (Gh a0 a3.Cn a3.Sn 0) λr7=>ob (Ef 1 a3.Sn r7) λr8=>some (⟨a3.Id,r4,r5,r8,r6,a3.Tick,a1,false⟩:Ah))) λk2=>cond (!(JC a0)) (k2 true) (cond (!(eA a1 0 1000000)) (k2 true) (cond (!(EA a2)) (k2 true) (cond (a3.Kind !=3) (k2 true) (ob (QC a3) λr3=>k2 (!r3)))))
def Eg(a0:List UInt8)(a1:List UInt8)(a2:List UInt8):=ob (yA a0) λr1=>ob (yA a1) λr2=>ob (yA a2) λr3=>some (⟨16,0,0,[],r2,0,0,r3,r1,(⟨0,0⟩:Af),0⟩:Ad)
def Eh(a0:Aj):Option (Aj×Ab×Int):=aA (λy1=>cond (y1) (ob (kA a0) λr4=>some (r4,(⟨0,0,[],[],0,[],[],0,0,[],[]⟩:Ab),6)) (ob (Bp a0.Cur.N) λr5=>ob (Bh a0 8 r5) λr6=>some (r6.1,r6.2.1,r6.2.2))) λk2=>ob (lC a0) λr3=>cond (!r3) (k2 true) (k2 (a0.Role !=1))
def Dq(a0:Ah):Option (Ah×(List Aq)×(List Ad)):=ob (kA a0) λr1=>aA (λy2=>cond (y2) (some (r1,[],[])) (ob (Eh a0.C) λr5=>cond (r5.2.2 !=0) (some (r1,[],[])) (ob (Bz r5.1 r5.2.1) λr6=>some ((⟨r1.Id,r1.Cn,r1.Sn,r5.1,r1.P,r1.Tick,r1.Last,r1.Dead⟩:Ah),[(⟨a0.P.At,r5.2.1⟩:Aq)],[r6])))) λk3=>ob (ED a0) λr4=>cond (!r4) (k3 true) (cond (a0.Dead) (k3 true) (k3 (a0.C.Cur.N !=0)))
def Bo(a0:Ao)(a1:Int)(a2:Ah):=ob (kA a0) λr1=>aA (λy2=>cond (y2) (some (r1,false)) (ob (kA a2) λr5=>cond (0≤a1&&a1<(r1.L.length:Int)) (ob (r1.L[a1.toNat]?) λe6=>ob (AG (⟨r1.Cap,List.set r1.L a1.toNat r5⟩:Ao)) λr7=>cond (!r7) (ob (kA a0) λr8=>some (r8,false)) (some ((⟨r1.Cap,List.set r1.L a1.toNat r5⟩:Ao),true))) none)) λk3=>ob (AG a0) λr4=>cond (!r4) (k3 true) (cond (a1<0) (k3 true) (k3 (decide (a1≥(a0.L.length:Int)))))
def Gi(a0:Ac)(a1:Int)(a2:Af)(a3:Ab):Option (Ac×(List Aq)×(List Ad)):=
 aA (λy1=>
 cond (y1)
 (some (a0,[],[]))
 (ob (CC a0.T a3.Sn) λr6=>
 aA (λ(y7:(List Ad)×Ac×Ac)=>
 ob (CC y7.2.2.T a3.Sn) λr21=>
 ob (jA y7.2.2.T.L r21) λe22=>
 aA (λy23=>
 cond (y23)
 (some (y7.2.2,[],y7.1))
 (ob (Dq e22) λr26=>
 ob (Bo y7.2.2.T r21 r26.1) λr27=>
 cond (y7.1.length+r26.2.2.length≤bA) (some ((⟨y7.2.2.Psks,y7.2.2.J,y7.2.2.D,r27.1,y7.2.2.Cr⟩:Ac),r26.2.1,y7.1++r26.2.2)) none)) λk24=>
 cond (e22.Dead)
 (k24 true)
 (cond (e22.Id !=a3.Id)
 (k24 true)
 (ob (uB e22.Cn a3.Cn) λr25=>
 k24 (!r25)))) λk8=>
 cond (r6<0)
 (ob (jA a0.Psks (oA .i64 a3.Id 1)) λe9=>
 ob (Dp e9 a1 a2 a3) λr10=>
 ob (Bk a0.T r10) λr11=>
 cond (r11.2 !=0)
 (some (a0,[],[]))
 (ob (Ff a2 a3.Id a3.Cn a3.Sn a3.Tick) λr12=>
 ob (Eg a0.J.Secret a3.Sn r12) λr13=>
 ob (Bj e9) λr14=>
 ob (Do a3.Id a3.Cn a3.Sn a3.Tick a3.Cookie) λr15=>
 ob (Eg r14 a3.Sn r15) λr16=>
 ob (yA a3.Cn) λr17=>
 ob (yA a3.Sn) λr18=>
 ob (yA r10.C.Cur.Key) λr19=>
 let x20:List Ad:=[r13,r16,(⟨4,a3.Id,0,r17,r18,0,0,[],r19,a2,a1⟩:Ad)]
 cond (([]:List Ad).length+x20.length≤bA) (k8 (([]++x20),(⟨[],(⟨[]⟩:Ay),(⟨[],0⟩:Ar),(⟨0,[]⟩:Ao),[]⟩:Ac),(⟨a0.Psks,a0.J,a0.D,r11.1,a0.Cr⟩:Ac))) none))
 (k8 ([],(⟨[],(⟨[]⟩:Ay),(⟨[],0⟩:Ar),(⟨0,[]⟩:Ao),[]⟩:Ac),a0)))) λk2=>
 ob (Il a0.J a1 a2 a3) λr3=>
 cond (r3 !=0)
 (k2 true)
 (cond (a3.Id>(a0.Psks.length:Int))
 (k2 true)
 (ob (jA a0.Psks (oA .i64 a3.Id 1)) λe4=>
 ob (Im e4 a3) λr5=>
 k2 (!r5)))
def Cs(a0:Ap)(a1:Int):=aA (λy1=>cond (y1) (some false) (aA (λ(y3:Bool)=>some y3) λk4=>cond (a1>a0.Top) (k4 true) (cond (a1≥(fA .i64 (oA .i64 a0.Top 1024) 1)) (ob (VF a0 a1) λr5=>k4 (!r5)) (k4 false)))) λk2=>cond (!(IC a0)) (k2 true) (k2 (!(eA a1 0 281474976710655)))
def Ct(a0:Ap)(a1:Int):=
 ob (kA a0) λr1=>
 ob (Cs a0 a1) λr2=>
 cond (!r2)
 (some (r1,false))
 (let x3:Int:=AE (fA .i64 a0.Top 1) (fA .i64 (oA .i64 a1 1024) 1)
 aA (λ(y4:Ap)=>
 cond (0≤NC .i64 (xA .i64 a1 1024) 32&&NC .i64 (xA .i64 a1 1024) 32<(y4.Bits.length:Int)) (ob (y4.Bits[(NC .i64 (xA .i64 a1 1024) 32).toNat]?) λe12=>
 cond ((xA .i64 a1 32)<0) none (let x13:Int:=OK .i64 e12 (HJ .i64 1 (xA .i64 a1 32))
 cond (0≤NC .i64 (xA .i64 a1 1024) 32&&NC .i64 (xA .i64 a1 1024) 32<(y4.Bits.length:Int)) (ob (y4.Bits[(NC .i64 (xA .i64 a1 1024) 32).toNat]?) λe14=>
 let l15:List Int:=List.set y4.Bits ((NC .i64 (xA .i64 a1 1024) 32).toNat) x13
 some ((⟨AE a0.Top a1,l15⟩:Ap),true)) none)) none) λk5=>
 uA FU (λ(x6:Int×Ap) k7=>
 cond (x6.1<a1)
 (cond (0≤NC .i64 (xA .i64 x6.1 1024) 32&&NC .i64 (xA .i64 x6.1 1024) 32<(x6.2.Bits.length:Int)) (ob (x6.2.Bits[(NC .i64 (xA .i64 x6.1 1024) 32).toNat]?) λe8=>
 cond ((xA .i64 x6.1 32)<0) none (let x9:Int:=zcX .i64 e8 (HJ .i64 1 (xA .i64 x6.1 32))
 cond (0≤NC .i64 (xA .i64 x6.1 1024) 32&&NC .i64 (xA .i64 x6.1 1024) 32<(x6.2.Bits.length:Int)) (ob (x6.2.Bits[(NC .i64 (xA .i64 x6.1 1024) 32).toNat]?) λe10=>
 let l11:List Int:=List.set x6.2.Bits ((NC .i64 (xA .i64 x6.1 1024) 32).toNat) x9
 k7 ((fA .i64 x6.1 1),(⟨x6.2.Top,l11⟩:Ap))) none)) none)
 (k5 x6.2)) (x3,r1))
def Fg(a0:List UInt8)(a1:Int)(a2:Ab):=ob (Bq a1 a2) λr1=>aA (λy2=>cond (y2) (some ([],false)) (ob (Cq a1 a2.Sn a2.Epoch a2.Seq) λr6=>ob (Ch a0 r6 a2.Body) λr7=>some (r7,true))) λk3=>cond ((a0.length:Int) !=32) (k3 true) (cond ((r1.length:Int)==0) (k3 true) (ob (Ci a0 r1) λr4=>ob (Bn a2.Tag r4) λr5=>k3 (!r5)))
def Dr(a0:Av)(a1:Int)(a2:Ab):Option (Av×(List UInt8)×Int):=ob (kA a0) λr1=>aA (λy2=>cond (y2) (some (r1,[],1)) (ob (Ct a0.Win a2.Seq) λr5=>cond (!r5.2) (some (r1,[],3)) (ob (Fg a0.Key a1 a2) λr6=>cond (!r6.2) (some (r1,[],2)) (some ((⟨r1.N,r1.Key,r1.Seq,r5.1⟩:Av),r6.1,0))))) λk3=>cond (!(cC a0)) (k3 true) (ob (Bq a1 a2) λr4=>cond ((r4.length:Int)==0) (k3 true) (k3 (a2.Epoch !=a0.N)))
def Ba(a0:Aj)(a1:Int)(a2:Ab):Option (Aj×(List UInt8)×Int):=ob (kA a0) λr1=>aA (λy2=>cond (y2) (some (r1,[],1)) (aA (λ(y6:Bool)=>aA (λ(y8:Bool)=>aA (λy10=>cond (y10) (some (r1,[],8)) (aA (λy13=>cond (y13) (some (r1,[],9)) (aA (λ(y15:Av)=>aA (λ(y17:Av)=>ob (Dr y17 (oA .i64 1 a0.Role) a2) λr20=>cond (r20.2.2 !=0) (some (r1,[],r20.2.2)) (aA (λ(y21:Aj)=>some (y21,r20.2.1,0)) λk22=>cond (a2.Epoch==a0.Cur.N) (aA (λ(y23:Bool)=>aA (λ(y25:Aj)=>k22 y25) λk26=>cond (y23) (k26 (⟨r1.Role,r1.Sn,r20.1,r1.Old,r1.HasOld,fA .i64 a1 5,r1.Next⟩:Aj)) (k26 (⟨r1.Role,r1.Sn,r20.1,r1.Old,r1.HasOld,r1.Until,r1.Next⟩:Aj))) λk24=>cond (a0.HasOld) (k24 (a0.Until==(-1))) (k24 false)) (aA (λ(y27:Aj)=>k22 y27) λk28=>cond (y6) (k28 (⟨r1.Role,r1.Sn,r1.Cur,r20.1,r1.HasOld,r1.Until,r1.Next⟩:Aj)) (k28 (⟨r1.Role,r1.Sn,r20.1,r1.Cur,true,fA .i64 a1 5,[]⟩:Aj))))) λk18=>cond (y8) (ob (Cl (fA .i64 a0.Cur.N 1) a0.Next) λr19=>k18 r19) (k18 y15)) λk16=>cond (y6) (k16 a0.Old) (k16 a0.Cur))) λk14=>cond (y6) (cond (a0.Until !=(-1)) (k14 (decide (a1>a0.Until))) (k14 false)) (k14 false))) λk11=>ob (Bx a2.Sn a0.Sn) λr12=>cond (r12 !=0) (k11 true) (cond (!(a2.Epoch==a0.Cur.N)) (cond (!y6) (k11 (!y8)) (k11 false)) (k11 false))) λk9=>cond ((a0.Next.length:Int)>0) (k9 (a2.Epoch==(fA .i64 a0.Cur.N 1))) (k9 false)) λk7=>cond (a0.HasOld) (k7 (a2.Epoch==a0.Old.N)) (k7 false))) λk3=>ob (lC a0) λr4=>cond (!r4) (k3 true) (cond (!(eA a1 0 1000000)) (k3 true) (cond (!(nB a2.Kind)) (k3 true) (ob (QC a2) λr5=>k3 (!r5))))
def Gj(a0:Aj)(a1:Int):=ob (lC a0) λr1=>cond (!r1) (some ([],false)) (aA (λy2=>cond (y2) (ob (yA a0.Old.Key) λr4=>some (r4,true)) (cond (a1==a0.Cur.N) (ob (yA a0.Cur.Key) λr5=>some (r5,true)) (aA (λy6=>cond (y6) (ob (yA a0.Next) λr8=>some (r8,true)) (some ([],false))) λk7=>cond ((a0.Next.length:Int)>0) (k7 (a1==(fA .i64 a0.Cur.N 1))) (k7 false)))) λk3=>cond (a0.HasOld) (k3 (a1==a0.Old.N)) (k3 false))
def Ei(a0:Ai)(a1:Int)(a2:Af)(a3:List UInt8):=
 ob (kA a0) λr1=>
 ob (NH a0 a2) λr2=>
 aA (λy3=>
 cond (y3)
 (some (r1,false))
 (cond (decide (0≤(0:Int))&&decide ((0:Int)≤r2)&&decide (r2≤(r1.Cands.length:Int))) (cond (decide (0≤(fA .i64 r2 1))&&decide ((fA .i64 r2 1)≤(r1.Cands.length:Int))&&decide ((r1.Cands.length:Int)≤(r1.Cands.length:Int))) (cond ((List.take ((r2 - 0).toNat) r1.Cands).length+(List.take (((r1.Cands.length:Int) - (fA .i64 r2 1)).toNat) (List.drop ((fA .i64 r2 1).toNat) r1.Cands)).length≤bA) (let x8:List Aw:=(List.take ((r2 - 0).toNat) r1.Cands)++(List.take (((r1.Cands.length:Int) - (fA .i64 r2 1)).toNat) (List.drop ((fA .i64 r2 1).toNat) r1.Cands))
 some ((⟨a2,x8⟩:Ai),true)) none) none) none)) λk4=>
 cond (!(VB a0))
 (k4 true)
 (cond (!(eA a1 0 1000000))
 (k4 true)
 (cond (r2<0)
 (k4 true)
 (ob (jA a0.Cands r2) λe5=>
 ob (uB a3 e5.Draw) λr6=>
 cond (!r6)
 (k4 true)
 (ob (jA a0.Cands r2) λe7=>
 k4 (decide (a1>e7.Until))))))
def Fh(a0:Aj):=ob (kA a0) λr1=>aA (λy2=>cond (y2) (some (r1,false)) (ob (LE a0.Cur.Key [114,101,107,101,121]) λr5=>ob (Cl (fA .i64 a0.Cur.N 1) r5) λr6=>some ((⟨r1.Role,r1.Sn,r6,r1.Cur,true,(-1),r1.Next⟩:Aj),true))) λk3=>ob (lC a0) λr4=>cond (!r4) (k3 true) (cond (a0.Role !=1) (k3 true) (k3 (a0.Cur.N==4294967295)))
def Fi(a0:Aj)(a1:Int)(a2:List UInt8):Option (Aj×Int):=ob (kA a0) λr1=>aA (λy2=>cond (y2) (some (r1,6)) (cond (a1==(oA .i64 a0.Cur.N 1)) (some (r1,0)) (ob (Fh a0) λr7=>aA (λy8=>cond (y8) (some (r1,6)) (some (r7.1,0))) λk9=>cond (a1 !=a0.Cur.N) (k9 true) (k9 (!r7.2))))) λk3=>ob (lC a0) λr4=>cond (!r4) (k3 true) (cond (a0.Role !=1) (k3 true) (cond (!(eA a1 0 4294967294)) (k3 true) (ob (Bp (fA .i64 a1 1)) λr5=>ob (uB a2 r5) λr6=>k3 (!r6))))
def Gk(a0:Ah)(a1:Int)(a2:List UInt8):Option (Ah×(List Aq)×(List Ad)):=
 ob (Fi a0.C a1 a2) λr1=>
 cond (r1.2 !=0)
 (some (a0,[],[]))
 (aA (λ(y2:(List Ad))=>
 ob (Eh r1.1) λr7=>
 cond (r7.2.2 !=0)
 (some ((⟨a0.Id,a0.Cn,a0.Sn,r1.1,a0.P,a0.Tick,a0.Last,a0.Dead⟩:Ah),[],y2))
 (ob (Bz r7.1 r7.2.1) λr8=>
 cond (y2.length+[r8].length≤bA) (some ((⟨a0.Id,a0.Cn,a0.Sn,r7.1,a0.P,a0.Tick,a0.Last,a0.Dead⟩:Ah),[(⟨a0.P.At,r7.2.1⟩:Aq)],y2++[r8])) none)) λk3=>
 cond (r1.1.Cur.N !=a0.C.Cur.N)
 (ob (yA a0.Sn) λr4=>
 ob (yA r1.1.Cur.Key) λr5=>
 let x6:List Ad:=[(⟨10,0,1,[],r4,r1.1.Cur.N,0,[],r5,(⟨0,0⟩:Af),0⟩:Ad)]
 cond (([]:List Ad).length+x6.length≤bA) (k3 ([]++x6)) none)
 (k3 []))
def Cu(a0:Ai)(a1:Int):=ob (kA a0) λr1=>aA (λ(y2:Ai)=>some y2) λk3=>uA FU (λ(x4:Int×Ai) k5=>cond (x4.1<(r1.Cands.length:Int)) (cond (0≤x4.1&&x4.1<(r1.Cands.length:Int)) (ob (r1.Cands[x4.1.toNat]?) λe6=>aA (λ(y7:Ai)=>k5 ((fA .i64 x4.1 1),y7)) λk8=>cond (e6.Until≥a1) (cond (x4.2.Cands.length+[e6].length≤bA) (k8 (⟨x4.2.At,x4.2.Cands++[e6]⟩:Ai)) none) (k8 x4.2)) none) (k3 x4.2)) (0,(⟨a0.At,[]⟩:Ai))
def Cv(a0:Ai)(a1:Int)(a2:Af)(a3:List UInt8):=
 aA (λy1=>
 cond (y1)
 (ob (kA a0) λr4=>
 some (r4,false))
 (ob (Cu a0 a1) λr5=>
 aA (λy6=>
 cond (y6)
 (ob (kA a0) λr9=>
 some (r9,false))
 (ob (yA a3) λr10=>
 cond (r5.Cands.length+[(⟨a2,r10,fA .i64 a1 6⟩:Aw)].length≤bA) (some ((⟨r5.At,r5.Cands++[(⟨a2,r10,fA .i64 a1 6⟩:Aw)]⟩:Ai),true)) none)) λk7=>
 ob (NH r5 a2) λr8=>
 cond (r8≥0)
 (k7 true)
 (k7 ((r5.Cands.length:Int)==3)))) λk2=>
 cond (!(VB a0))
 (k2 true)
 (cond (!(eA a1 0 1000000))
 (k2 true)
 (cond (!(EA a2))
 (k2 true)
 (cond (!(mA a3))
 (k2 true)
 (let x3:Bool:=cond (a2.Host==a0.At.Host) (cond (a2.Port==a0.At.Port) (true) false) false
 k2 x3))))
def Cc(a0:Ah)(a1:Int)(a2:Af)(a3:Ab)(a4:List UInt8):Option (Ah×(List Aq)×(List Ad)×Bool):=
 ob (kA a0) λr1=>
 aA (λy2=>
 cond (y2)
 (some (r1,[],[],false))
 (ob (Ba a0.C a1 a3) λr5=>
 cond (r5.2.2 !=0)
 (some (r1,[],[],false))
 (ob (Gj a0.C a3.Epoch) λr6=>
 ob (Bq 0 a3) λr7=>
 ob (Eg r6.1 a0.Sn r7) λr8=>
 aA (λ(y9:(List Ad)×(List Aq)×Ah)=>
 ob (Cv y9.2.2.P a1 a2 a4) λr23=>
 ob (Bh y9.2.2.C 5 a4) λr24=>
 aA (λy25=>
 cond (y25)
 (some (y9.2.2,y9.2.1,y9.1,false))
 (cond (y9.2.1.length+[(⟨a2,r24.2.1⟩:Aq)].length≤bA) (ob (Bz r24.1 r24.2.1) λr27=>
 cond (y9.1.length+[r27].length≤bA) (some ((⟨y9.2.2.Id,y9.2.2.Cn,y9.2.2.Sn,r24.1,r23.1,y9.2.2.Tick,y9.2.2.Last,y9.2.2.Dead⟩:Ah),y9.2.1++[(⟨a2,r24.2.1⟩:Aq)],y9.1++[r27],true)) none) none)) λk26=>
 cond (!r23.2)
 (k26 true)
 (k26 (r24.2.2 !=0))) λk10=>
 cond (a3.Kind==4)
 (ob (yA a0.Sn) λr11=>
 let x12:List Ad:=[(⟨6,0,0,[],r11,a3.Epoch,a3.Seq,r5.2.1,[],(⟨0,0⟩:Af),a1⟩:Ad)]
 cond ([r8].length+x12.length≤bA) (k10 (([r8]++x12),[],(⟨r1.Id,r1.Cn,r1.Sn,r5.1,r1.P,r1.Tick,a1,r1.Dead⟩:Ah))) none)
 (aA (λ(y13:(List Ad)×(List Aq)×Ah)=>
 k10 (y13.1,y13.2.1,y13.2.2)) λk14=>
 cond (a3.Kind==6)
 (ob (Ei a0.P a1 a2 r5.2.1) λr15=>
 aA (λ(y16:(List Ad)×Ah)=>
 k14 (y16.1,[],y16.2)) λk17=>
 cond (r15.2)
 (ob (yA a0.Sn) λr18=>
 cond ([r8].length+[(⟨9,0,0,[],r18,0,0,r5.2.1,[],a2,a1⟩:Ad)].length≤bA) (let x19:List Ad:=[r8]++[(⟨9,0,0,[],r18,0,0,r5.2.1,[],a2,a1⟩:Ad)]
 k17 (x19,(⟨r1.Id,r1.Cn,r1.Sn,r5.1,r15.1,r1.Tick,a1,r1.Dead⟩:Ah))) none)
 (k17 ([r8],(⟨r1.Id,r1.Cn,r1.Sn,r5.1,r1.P,r1.Tick,a1,r1.Dead⟩:Ah))))
 (aA (λ(y20:(List Ad)×(List Aq)×Ah)=>
 k14 (y20.1,y20.2.1,y20.2.2)) λk21=>
 cond (a3.Kind==7)
 (ob (Gk (⟨r1.Id,r1.Cn,r1.Sn,r5.1,r1.P,r1.Tick,a1,r1.Dead⟩:Ah) a3.Epoch r5.2.1) λr22=>
 cond (([]:List Aq).length+r22.2.1.length≤bA) (cond ([r8].length+r22.2.2.length≤bA) (k21 (([r8]++r22.2.2),([]++r22.2.1),r22.1)) none) none)
 (k21 ([r8],[],(⟨r1.Id,r1.Cn,r1.Sn,r5.1,r1.P,r1.Tick,a1,r1.Dead⟩:Ah)))))))) λk3=>
 ob (ED a0) λr4=>
 cond (!r4)
 (k3 true)
 (cond (a0.Dead)
 (k3 true)
 (k3 (!(EA a2))))
def Cw(a0:Ac)(a1:Int)(a2:Af)(a3:Ab):Option (Ac×(List Aq)×(List Ad)):=
 ob (CC a0.T a3.Sn) λr1=>
 aA (λy2=>
 cond (y2)
 (some (a0,[],[]))
 (ob (VD a0.D) λr5=>
 ob (Ed a0 a2 51) λr6=>
 aA (λ(y7:(List UInt8))=>
 ob (jA a0.T.L r1) λe9=>
 ob (Cc e9 a1 a2 a3 y7) λr10=>
 ob (Bo a0.T r1 r10.1) λr11=>
 aA (λ(y12:(List Ad)×Ac)=>
 some (y12.2,r10.2.1,y12.1)) λk13=>
 cond (r10.2.2.2)
 (ob (yA a3.Sn) λr14=>
 ob (yA y7) λr15=>
 ob (OD y7) λr16=>
 cond ([r16].length+r10.2.2.1.length≤bA) (cond (([r16]++r10.2.2.1).length+[(⟨7,0,0,[],r14,0,0,r15,[],a2,a1⟩:Ad)].length≤bA) (let x17:List Ad:=([r16]++r10.2.2.1)++[(⟨7,0,0,[],r14,0,0,r15,[],a2,a1⟩:Ad)]
 k13 (x17,(⟨a0.Psks,a0.J,r5.1,r11.1,a0.Cr⟩:Ac))) none) none)
 (k13 (r10.2.2.1,(⟨a0.Psks,a0.J,a0.D,r11.1,a0.Cr⟩:Ac)))) λk8=>
 cond (!r6)
 (k8 [])
 (k8 r5.2))) λk3=>
 cond (r1<0)
 (k3 true)
 (ob (jA a0.T.L r1) λe4=>
 k3 e4.Dead)
def Cy(a0:Ab):=ob (Ax a0) λr1=>some (r1.length:Int)
def Cz(a0:List Ak)(a1:Af)(a2:Int):=
 ob (kA a0) λr1=>
 aA (λy2=>
 cond (y2)
 (some (r1,false))
 (cond (0≤(VA a0 a1)&&(VA a0 a1)<(r1.length:Int)) (ob (r1[(VA a0 a1).toNat]?) λe5=>
 cond (0≤(VA a0 a1)&&(VA a0 a1)<(r1.length:Int)) (ob (r1[(VA a0 a1).toNat]?) λe6=>
 let l7:List Ak:=List.set r1 ((VA a0 a1).toNat) (⟨e6.A,e6.Got,fA .i64 e5.Sent a2⟩:Ak)
 some (l7,true)) none) none)) λk3=>
 cond (!(pC a0))
 (k3 true)
 (cond ((VA a0 a1)<0)
 (k3 true)
 (ob (Bc a0 a1) λr4=>
 k3 (!(eA a2 0 r4))))
def Cd(a0:Ac)(a1:Int)(a2:Af)(a3:List UInt8):Option (Ac×(List Aq)×(List Ad)):=ob (kA a0) λr1=>aA (λy2=>cond (y2) (some (r1,[],[])) (ob (Fe a0.Cr a2 (a3.length:Int)) λr5=>ob (Cb a3) λr6=>aA (λ(y7:(List Aq)×(List Ad)×Ac)=>aA (λ(y18:(List Aq)×Ac)=>some (y18.2,y18.1,y7.2.1)) λk19=>uA FU (λ(x20:(List Aq)×Int×Ac) k21=>cond (x20.2.1<(y7.1.length:Int)) (aA (λ(y22:(List Aq)×Ac)=>k21 (y22.1,(fA .i64 x20.2.1 1),y22.2)) λk23=>cond (0≤x20.2.1&&x20.2.1<(y7.1.length:Int)) (ob (y7.1[x20.2.1.toNat]?) λe24=>ob (Dn x20.2.2.T e24.To) λr25=>aA (λ(y26:Ac)=>cond (x20.1.length+[e24].length≤bA) (k23 ((x20.1++[e24]),y26)) none) λk27=>cond (!r25) (ob (Cy e24.F) λr28=>ob (Cz x20.2.2.Cr e24.To r28) λr29=>cond (!r29.2) (k23 (x20.1,x20.2.2)) (k27 (⟨x20.2.2.Psks,x20.2.2.J,x20.2.2.D,x20.2.2.T,r29.1⟩:Ac))) (k27 x20.2.2)) none) (k19 (x20.1,x20.2.2))) ([],0,y7.2.2)) λk8=>cond (!r6.2) (k8 ([],[],(⟨r1.Psks,r1.J,r1.D,r1.T,r5⟩:Ac))) (aA (λ(y9:(List Aq)×(List Ad)×Ac)=>k8 (y9.1,y9.2.1,y9.2.2)) λk10=>cond (r6.1.Kind==1) (ob (Gg (⟨r1.Psks,r1.J,r1.D,r1.T,r5⟩:Ac) a1 a2 r6.1) λr11=>k10 (r11.2.1,r11.2.2,r11.1)) (aA (λ(y12:(List Aq)×(List Ad)×Ac)=>k10 (y12.1,y12.2.1,y12.2.2)) λk13=>cond (r6.1.Kind==3) (ob (Gi (⟨r1.Psks,r1.J,r1.D,r1.T,r5⟩:Ac) a1 a2 r6.1) λr14=>k13 (r14.2.1,r14.2.2,r14.1)) (aA (λ(y15:(List Aq)×(List Ad)×Ac)=>k13 (y15.1,y15.2.1,y15.2.2)) λk16=>cond ((nB r6.1.Kind)) (ob (Cw (⟨r1.Psks,r1.J,r1.D,r1.T,r5⟩:Ac) a1 a2 r6.1) λr17=>k16 (r17.2.1,r17.2.2,r17.1)) (k16 ([],[],(⟨r1.Psks,r1.J,r1.D,r1.T,r5⟩:Ac)))))))) λk3=>ob (xC a0) λr4=>cond (!r4) (k3 true) (cond (!(eA a1 0 1000000)) (k3 true) (k3 (!(EA a2))))
def Bs(a0:List Aq):=
 aA (λ(y1:(List Al))=>
 some y1) λk2=>
 uA FU (λ(x3:(List Al)×Int) k4=>
 cond (x3.2<(a0.length:Int))
 (ob (jA a0 x3.2) λe5=>
 let r6:Af:=SB
 ob (Dm r6 e5.To e5.F) λr7=>
 cond (x3.1.length+[r7].length≤bA) (k4 ((x3.1++[r7]),(fA .i64 x3.2 1))) none)
 (k2 x3.1)) ([],0)
def Fj(a0:List UInt8)(a1:Int)(a2:Ab):=aA (λy1=>cond (y1) (some ((⟨0,0,[],[],0,[],[],0,0,[],[]⟩:Ab),false)) (ob (Ee a0 a1 a2.Cn a2.Sn a2.Tick a2.Cookie) λr4=>cond ((r4.length:Int)==0) (some ((⟨0,0,[],[],0,[],[],0,0,[],[]⟩:Ab),false)) (ob (yA a2.Cn) λr5=>ob (yA a2.Sn) λr6=>ob (yA a2.Cookie) λr7=>some ((⟨3,a1,r5,r6,a2.Tick,r7,r4,0,0,[],[]⟩:Ab),true)))) λk2=>cond (a2.Kind !=2) (k2 true) (ob (QC a2) λr3=>k2 (!r3))
def Jp(a0:Ae)(a1:Int)(a2:Ab):=
 ob (kA a0) λr1=>
 ob (Fj a0.Psk a0.Id a2) λr2=>
 cond (!r2.2)
 (some (r1,[],[]))
 (ob (Bi a1) λr3=>
 ob (Gh a0.Psk a0.Cn a2.Sn 0) λr4=>
 ob (Ef 0 a2.Sn r4) λr5=>
 ob (yA a0.Cn) λr6=>
 ob (yA a2.Sn) λr7=>
 ob (Bj a0.Psk) λr8=>
 ob (Do r2.1.Id r2.1.Cn r2.1.Sn r2.1.Tick r2.1.Cookie) λr9=>
 ob (Fc r8 r9) λr10=>
 ob (kA r2.1) λr11=>
 let x12:List Ad:=[(⟨2,a0.Id,0,r6,r7,0,0,[],[],(⟨0,0⟩:Af),a1⟩:Ad),r10]
 some ((⟨r1.Id,r1.Psk,r1.At,2,r1.Cn,r2.1,r5,r3,r1.R,r1.Last⟩:Ae),[r11],x12))
def Ip(a0:Ae)(a1:Int)(a2:Ab):Option (Ae×(List Ab)×(List Ad)):=
 ob (kA a0) λr1=>
 ob (Ba a0.C a1 a2) λr2=>
 cond (r2.2.2 !=0)
 (some (r1,[],[]))
 (ob (Gj a0.C a2.Epoch) λr3=>
 ob (Bq 1 a2) λr4=>
 ob (Eg r3.1 a2.Sn r4) λr5=>
 aA (λ(y6:(List Ad)×Ae)=>
 aA (λ(y12:(List Ad)×Ae)=>
 aA (λ(y17:(List Ad))=>
 cond (a2.Kind !=5)
 (some (y12.2,[],y17))
 (ob (Bh r2.1 6 r2.2.1) λr21=>
 cond (r21.2.2 !=0)
 (some (y12.2,[],y17))
 (ob (yA r21.2.1.Sn) λr22=>
 ob (Bz r21.1 r21.2.1) λr23=>
 let x24:List Ad:=[r23,(⟨8,0,0,[],r22,r21.2.1.Epoch,0,r2.2.1,[],(⟨0,0⟩:Af),0⟩:Ad)]
 cond (y17.length+x24.length≤bA) (some ((⟨y12.2.Id,y12.2.Psk,y12.2.At,y12.2.St,y12.2.Cn,y12.2.Fin,r21.1,y12.2.T,y12.2.R,y12.2.Last⟩:Ae),[r21.2.1],y17++x24)) none))) λk18=>
 cond (a2.Kind==4)
 (ob (yA a2.Sn) λr19=>
 let x20:List Ad:=[(⟨6,0,1,[],r19,a2.Epoch,a2.Seq,r2.2.1,[],(⟨0,0⟩:Af),a1⟩:Ad)]
 cond (y12.1.length+x20.length≤bA) (k18 (y12.1++x20)) none)
 (k18 y12.1)) λk13=>
 cond (r2.1.Cur.N !=a0.C.Cur.N)
 (ob (yA r2.1.Sn) λr14=>
 ob (yA r2.1.Cur.Key) λr15=>
 let x16:List Ad:=[(⟨10,0,0,[],r14,r2.1.Cur.N,0,[],r15,(⟨0,0⟩:Af),0⟩:Ad)]
 cond (y6.1.length+x16.length≤bA) (k13 ((y6.1++x16),(⟨y6.2.Id,y6.2.Psk,y6.2.At,y6.2.St,y6.2.Cn,y6.2.Fin,y6.2.C,y6.2.T,(⟨false,0,0,0⟩:Au),y6.2.Last⟩:Ae))) none)
 (k13 (y6.1,y6.2))) λk7=>
 cond (a0.St==2)
 (ob (yA a0.Cn) λr8=>
 ob (yA r2.1.Sn) λr9=>
 ob (yA a0.C.Cur.Key) λr10=>
 let x11:List Ad:=[(⟨3,a0.Id,0,r8,r9,0,0,[],r10,(⟨0,0⟩:Af),0⟩:Ad)]
 cond ([r5].length+x11.length≤bA) (k7 (([r5]++x11),(⟨r1.Id,r1.Psk,r1.At,3,r1.Cn,(⟨0,0,[],[],0,[],[],0,0,[],[]⟩:Ab),r2.1,(⟨false,0,0,0⟩:Au),r1.R,a1⟩:Ae))) none)
 (k7 ([r5],(⟨r1.Id,r1.Psk,r1.At,r1.St,r1.Cn,r1.Fin,r2.1,r1.T,r1.R,a1⟩:Ae))))
def Ej(a0:Ae)(a1:Int)(a2:Ab):Option (Ae×(List Ab)×(List Ad)):=aA (λy1=>cond (y1) (ob (kA a0) λr5=>some (r5,[],[])) (aA (λy6=>cond (y6) (ob (Jp a0 a1 a2) λr9=>some (r9.1,r9.2.1,r9.2.2)) (aA (λy10=>cond (y10) (ob (Ip a0 a1 a2) λr12=>some (r12.1,r12.2.1,r12.2.2)) (ob (kA a0) λr13=>some (r13,[],[]))) λk11=>cond ((nB a2.Kind)) (cond (a0.St==2) (k11 true) (k11 (a0.St==3))) (k11 false))) λk7=>cond (a2.Kind==2) (cond (a0.St==1) (ob (uB a2.Cn a0.Cn) λr8=>k7 r8) (k7 false)) (k7 false))) λk2=>ob (qD a0) λr3=>cond (!r3) (k2 true) (cond (!(eA a1 0 1000000)) (k2 true) (ob (QC a2) λr4=>k2 (!r4)))
def Be(a0:Aa)(a1:Int)(a2:Af)(a3:List UInt8):Option (Aa×(List Al)):=ob (kA a0) λr1=>aA (λy2=>cond (y2) (some (r1,[])) (cond (a1==0) (ob (Cd a0.S a0.Now a2 a3) λr5=>cond (r1.Notes.length+r5.2.2.length≤bA) (ob (Bs r5.2.1) λr6=>some ((⟨r1.Now,r1.Clients,r5.1,r1.D,r1.Seen,r1.Known,r1.Notes++r5.2.2⟩:Aa),r6)) none) (ob (Cb a3) λr7=>cond (!r7.2) (some (r1,[])) (ob (jA a0.Clients (oA .i64 a1 1)) λe8=>ob (Ej e8 a0.Now r7.1) λr9=>cond (0≤oA .i64 a1 1&&oA .i64 a1 1<(r1.Clients.length:Int)) (ob (r1.Clients[(oA .i64 a1 1).toNat]?) λe10=>cond (r1.Notes.length+r9.2.2.length≤bA) (ob (Br r9.1 r9.2.1) λr11=>some ((⟨r1.Now,List.set r1.Clients ((oA .i64 a1 1).toNat) r9.1,r1.S,r1.D,r1.Seen,r1.Known,r1.Notes++r9.2.2⟩:Aa),r11)) none) none)))) λk3=>ob (pE a0) λr4=>cond (!r4) (k3 true) (cond (!(eA a1 0 2)) (k3 true) (k3 (!(EA a2))))
def Jq(a0:Aa)(a1:Am):Option (Aa×(List Al)×Bool):=
 cond (a1.Kind==11)
 (ob (Ij a1.Ops a0.Seen a0.Known) λr1=>
 let r2:Af:=vC (xA .i64 a1.N 256)
 ob (Be a0 (xA .i64 a1.J 3) r2 r1.1) λr3=>
 some (r3.1,r3.2,r1.2))
 (cond ((a0.Seen.length:Int)==0)
 (some (a0,[],false))
 (cond ((a0.Seen.length:Int)==0) none (ob (jA a0.Seen (xA .i64 a1.I (a0.Seen.length:Int))) λe4=>
 ob (pJ a0 e4.To) λr5=>
 ob (yA e4.B) λr6=>
 aA (λ(y7:Int×Af×Aa×(List UInt8))=>
 cond (y7.1<0)
 (some (a0,[],false))
 (ob (Be a0 y7.1 y7.2.1 y7.2.2.2) λr18=>
 some (r18.1,r18.2,true))) λk8=>
 cond (a1.Kind==8)
 (let r9:Af:=vC (xA .i64 a1.N 256)
 k8 (0,r9,(⟨0,[],(⟨[],(⟨[]⟩:Ay),(⟨[],0⟩:Ar),(⟨0,[]⟩:Ao),[]⟩:Ac),(⟨[],0⟩:Ar),[],[],[]⟩:Aa),r6))
 (aA (λ(y10:Int×Aa×(List UInt8))=>
 k8 (y10.1,e4.From,y10.2.1,y10.2.2)) λk11=>
 cond (a1.Kind==9)
 (k11 ((xA .i64 a1.J 3),(⟨0,[],(⟨[],(⟨[]⟩:Ay),(⟨[],0⟩:Ar),(⟨0,[]⟩:Ao),[]⟩:Ac),(⟨[],0⟩:Ar),[],[],[]⟩:Aa),r6))
 (aA (λ(y12:Aa×(List UInt8))=>
 k11 (r5,y12.1,y12.2)) λk13=>
 cond (a1.Kind==10)
 (cond ((r6.length:Int)==0)
 (some (a0,[],false))
 (cond ((r6.length:Int)==0) none (cond (0≤xA .i64 a1.N (r6.length:Int)&&xA .i64 a1.N (r6.length:Int)<(r6.length:Int)) (ob (r6[(xA .i64 a1.N (r6.length:Int)).toNat]?) λe14=>
 let x15:Int:=IntKind.wrap .u8 (fA .i64 1 (xA .i64 a1.J 255))
 cond (0≤xA .i64 a1.N (r6.length:Int)&&xA .i64 a1.N (r6.length:Int)<(r6.length:Int)) (ob (r6[(xA .i64 a1.N (r6.length:Int)).toNat]?) λe16=>
 let l17:List UInt8:=List.set r6 ((xA .i64 a1.N (r6.length:Int)).toNat) (UInt8.ofNat (AB .u8 ((e14.toNat:Nat):Int) x15:Int).toNat)
 k13 ((⟨0,[],(⟨[],(⟨[]⟩:Ay),(⟨[],0⟩:Ar),(⟨0,[]⟩:Ao),[]⟩:Ac),(⟨[],0⟩:Ar),[],[],[]⟩:Aa),l17)) none) none)))
 (k13 ((⟨0,[],(⟨[],(⟨[]⟩:Ay),(⟨[],0⟩:Ar),(⟨0,[]⟩:Ao),[]⟩:Ac),(⟨[],0⟩:Ar),[],[],[]⟩:Aa),r6)))))))
def Da(a0:Ah)(a1:List UInt8):Option (Ah×(List Aq)×(List Ad)×Int):=
 ob (kA a0) λr1=>
 aA (λy2=>
 cond (y2)
 (some (r1,[],[],1))
 (cond (a0.Dead)
 (some (r1,[],[],6))
 (ob (Bh a0.C 4 a1) λr5=>
 cond (r5.2.2 !=0)
 (some (r1,[],[],r5.2.2))
 (ob (yA r5.2.1.Sn) λr6=>
 ob (yA a1) λr7=>
 ob (Bz r5.1 r5.2.1) λr8=>
 let x9:List Ad:=[r8,(⟨5,0,1,[],r6,r5.2.1.Epoch,r5.2.1.Seq,r7,[],(⟨0,0⟩:Af),0⟩:Ad)]
 some ((⟨r1.Id,r1.Cn,r1.Sn,r5.1,r1.P,r1.Tick,r1.Last,r1.Dead⟩:Ah),[(⟨a0.P.At,r5.2.1⟩:Aq)],x9,0))))) λk3=>
 ob (ED a0) λr4=>
 cond (!r4)
 (k3 true)
 (k3 (decide ((a1.length:Int)>40)))
def Gm(a0:Ac)(a1:Int)(a2:Int)(a3:List UInt8):Option (Ac×(List Aq)×(List Ad)×Int):=ob (kA a0) λr1=>aA (λy2=>cond (y2) (some (r1,[],[],1)) (aA (λy5=>cond (y5) (some (r1,[],[],8)) (ob (jA a0.T.L a2) λe7=>ob (Da e7 a3) λr8=>cond (r8.2.2.2 !=0) (some (r1,[],[],r8.2.2.2)) (ob (Bo a0.T a2 r8.1) λr9=>some ((⟨r1.Psks,r1.J,r1.D,r9.1,r1.Cr⟩:Ac),r8.2.1,r8.2.2.1,0)))) λk6=>cond (a2<0) (k6 true) (k6 (decide (a2≥(a0.T.L.length:Int)))))) λk3=>ob (xC a0) λr4=>cond (!r4) (k3 true) (k3 (!(eA a1 0 1000000)))
def Ek(a0:Ac):=
 ob (kA a0) λr1=>
 aA (λy2=>
 cond (y2)
 (some (r1,[]))
 (ob (VD a0.D) λr5=>
 let r6:Ay:=TH r5.2;let r7:Ao:=OE a0.T.Cap
 ob (OD r5.2) λr8=>
 ob (yA r6.Secret) λr9=>
 let x10:List Ad:=[r8,(⟨12,0,0,[],[],0,0,[],r9,(⟨0,0⟩:Af),0⟩:Ad)]
 some ((⟨r1.Psks,r6,r5.1,r7,[]⟩:Ac),x10))) λk3=>
 ob (xC a0) λr4=>
 cond (!r4)
 (k3 true)
 (k3 (a0.D.N==10000))
def Em(a0:Ah):=ob (ED a0) λr1=>cond (!r1) (ob (kA a0) λr2=>some r2) (ob (yA a0.Cn) λr3=>ob (yA a0.Sn) λr4=>some (⟨a0.Id,r3,r4,(⟨0,[],(⟨0,[],0,(⟨0,[]⟩:Ap)⟩:Av),(⟨0,[],0,(⟨0,[]⟩:Ap)⟩:Av),false,0,[]⟩:Aj),(⟨(⟨0,0⟩:Af),[]⟩:Ai),a0.Tick,0,true⟩:Ah))
def Gn(a0:Ac)(a1:Int):Option (Ac×(List Ad)×Int):=ob (kA a0) λr1=>ob (xC a0) λr2=>cond (!r2) (some (r1,[],1)) (aA (λy3=>cond (y3) (some (r1,[],8)) (ob (jA a0.T.L a1) λe6=>ob (Em e6) λr7=>ob (Bo a0.T a1 r7) λr8=>ob (Dl e6.Id 1 e6.Sn) λr9=>some ((⟨r1.Psks,r1.J,r1.D,r8.1,r1.Cr⟩:Ac),[r9],0))) λk4=>cond (a1<0) (k4 true) (cond (a1≥(a0.T.L.length:Int)) (k4 true) (ob (jA a0.T.L a1) λe5=>k4 e5.Dead)))
def Jr(a0:Aa)(a1:Am):Option (Aa×(List Al)×Bool):=aA (λ(y1:(List Aq)×(List Ad)×Bool×Aa)=>cond (y1.2.2.2.Notes.length+y1.2.1.length≤bA) (ob (Bs y1.1) λr10=>some ((⟨y1.2.2.2.Now,y1.2.2.2.Clients,y1.2.2.2.S,y1.2.2.2.D,y1.2.2.2.Seen,y1.2.2.2.Known,y1.2.2.2.Notes++y1.2.1⟩:Aa),r10,y1.2.2.1)) none) λk2=>cond (a1.Kind==3) (ob (Gm a0.S a0.Now a1.I a1.B) λr3=>k2 (r3.2.1,r3.2.2.1,(r3.2.2.2==0),(⟨a0.Now,a0.Clients,r3.1,a0.D,a0.Seen,a0.Known,a0.Notes⟩:Aa))) (aA (λ(y4:(List Ad)×Bool×Aa)=>k2 ([],y4.1,y4.2.1,y4.2.2)) λk5=>cond (a1.Kind==12) (ob (Ek a0.S) λr6=>k5 (r6.2,(decide (a0.S.D.N<10000)),(⟨a0.Now,a0.Clients,r6.1,a0.D,a0.Seen,a0.Known,a0.Notes⟩:Aa))) (aA (λ(y7:(List Ad)×Bool×Aa)=>k5 (y7.1,y7.2.1,y7.2.2)) λk8=>cond (a1.Kind==14) (ob (Gn a0.S a1.I) λr9=>k8 (r9.2.1,(r9.2.2==0),(⟨a0.Now,a0.Clients,r9.1,a0.D,a0.Seen,a0.Known,a0.Notes⟩:Aa))) (k8 ([],true,a0))))
def Iq(a0:Aj):=ob (lC a0) λr1=>cond (!r1) (some []) (aA (λ(y2:(List (List UInt8)))=>ob (yA a0.Cur.Key) λr5=>cond (y2.length+[r5].length≤bA) (aA (λ(y6:(List (List UInt8)))=>some y6) λk7=>cond ((a0.Next.length:Int)>0) (ob (yA a0.Next) λr8=>cond ((y2++[r5]).length+[r8].length≤bA) (k7 ((y2++[r5])++[r8])) none) (k7 (y2++[r5]))) none) λk3=>cond (a0.HasOld) (ob (yA a0.Old.Key) λr4=>cond (([]:List (List UInt8)).length+[r4].length≤bA) (k3 ([]++[r4])) none) (k3 []))
def Js(a0:Aa)(a1:Am):=
 aA (λ(y1:Aa×Aj)=>
 ob (Iq y1.2) λr8=>
 cond (a0.Known.length+r8.length≤bA) (ob (yA y1.2.Sn) λr9=>
 let x10:List Ad:=[(⟨13,0,0,[],r9,0,0,[],[],(⟨0,0⟩:Af),0⟩:Ad)]
 cond (a0.Notes.length+x10.length≤bA) (some ((⟨a0.Now,a0.Clients,a0.S,a0.D,a0.Seen,a0.Known++r8,a0.Notes++x10⟩:Aa),decide (((a0.Known++r8).length:Int)≤12))) none) none) λk2=>
 cond (a1.Kind==15)
 (cond (0≤xA .i64 a1.I 2&&xA .i64 a1.I 2<(a0.Clients.length:Int)) (ob (a0.Clients[(xA .i64 a1.I 2).toNat]?) λe3=>
 cond (e3.St !=3)
 (some (a0,false))
 (k2 ((⟨0,[],(⟨[],(⟨[]⟩:Ay),(⟨[],0⟩:Ar),(⟨0,[]⟩:Ao),[]⟩:Ac),(⟨[],0⟩:Ar),[],[],[]⟩:Aa),e3.C))) none)
 (aA (λy4=>
 cond (y4)
 (some (a0,false))
 (cond (0≤a1.I&&a1.I<(a0.S.T.L.length:Int)) (ob (a0.S.T.L[a1.I.toNat]?) λe7=>
 k2 ((⟨0,[],(⟨[],(⟨[]⟩:Ay),(⟨[],0⟩:Ar),(⟨0,[]⟩:Ao),[]⟩:Ac),(⟨[],0⟩:Ar),[],[],[]⟩:Aa),e7.C)) none)) λk5=>
 cond (a1.I≥(a0.S.T.L.length:Int))
 (k5 true)
 (cond (0≤a1.I&&a1.I<(a0.S.T.L.length:Int)) (ob (a0.S.T.L[a1.I.toNat]?) λe6=>
 k5 e6.Dead) none))
def Fk(a0:Au)(a1:Int):Option (Au×Int):=
 ob (Dv a0 a1) λr1=>
 cond (!r1)
 (some (a0,0))
 (cond (a0.Tries==5)
 (some ((⟨false,0,0,0⟩:Au),2))
 (let x2:Int:=fA .i64 a1 (HD (GB .i64 2 a0.Wait) 8)
 some ((⟨true,x2,HD (GB .i64 2 a0.Wait) 8,fA .i64 a0.Tries 1⟩:Au),1)))
def Ir(a0:Ae)(a1:Int):Option (Ae×(List Ab)×(List Ad)):=cond ((oA .i64 a1 a0.Last)>60) (ob (Fd a0) λr1=>ob (Dl a0.Id 0 a0.C.Sn) λr2=>some (r1,[],[r2])) (ob (kA a0) λr3=>ob (Bv a0.C a1) λr4=>ob (Fk a0.R a1) λr5=>cond (r5.2==0) (some ((⟨r3.Id,r3.Psk,r3.At,r3.St,r3.Cn,r3.Fin,r4,r3.T,r5.1,r3.Last⟩:Ae),[],[])) (aA (λ(y6:Ae)=>ob (Ii y6.C) λr9=>cond (r9.2.2 !=0) (some (y6,[],[])) (ob (Bz r9.1 r9.2.1) λr10=>some ((⟨y6.Id,y6.Psk,y6.At,y6.St,y6.Cn,y6.Fin,r9.1,y6.T,y6.R,y6.Last⟩:Ae),[r9.2.1],[r10]))) λk7=>cond (r5.2==2) (ob (Bi a1) λr8=>k7 (⟨r3.Id,r3.Psk,r3.At,r3.St,r3.Cn,r3.Fin,r4,r3.T,r8,r3.Last⟩:Ae)) (k7 (⟨r3.Id,r3.Psk,r3.At,r3.St,r3.Cn,r3.Fin,r4,r3.T,r5.1,r3.Last⟩:Ae))))
def Gp(a0:Ae)(a1:Int):Option (Ae×(List Ab)×(List Ad)):=
 ob (kA a0) λr1=>
 aA (λy2=>
 cond (y2)
 (some (r1,[],[]))
 (cond (a0.St==3)
 (ob (Ir a0 a1) λr5=>
 some (r5.1,r5.2.1,r5.2.2))
 (ob (Fk a0.T a1) λr6=>
 cond (r6.2==2)
 (ob (Fd a0) λr7=>
 ob (yA a0.Cn) λr8=>
 let x9:List Ad:=[(⟨17,a0.Id,0,r8,[],0,0,[],[],(⟨0,0⟩:Af),0⟩:Ad)]
 some (r7,[],x9))
 (aA (λy10=>
 cond (y10)
 (ob (Ig a0) λr12=>
 some ((⟨r1.Id,r1.Psk,r1.At,r1.St,r1.Cn,r1.Fin,r1.C,r6.1,r1.R,r1.Last⟩:Ae),[r12],[]))
 (cond (r6.2==1)
 (ob (kA a0.Fin) λr13=>
 some ((⟨r1.Id,r1.Psk,r1.At,r1.St,r1.Cn,r1.Fin,r1.C,r6.1,r1.R,r1.Last⟩:Ae),[r13],[]))
 (some ((⟨r1.Id,r1.Psk,r1.At,r1.St,r1.Cn,r1.Fin,r1.C,r6.1,r1.R,r1.Last⟩:Ae),[],[])))) λk11=>
 cond (r6.2==1)
 (k11 (a0.St==1))
 (k11 false))))) λk3=>
 ob (qD a0) λr4=>
 cond (!r4)
 (k3 true)
 (cond (!(eA a1 0 1000000))
 (k3 true)
 (k3 (a0.St==0)))
def En(a0:Ai)(a1:Int):=aA (λy1=>cond (y1) (ob (kA a0) λr3=>some r3) (ob (Cu a0 a1) λr4=>some r4)) λk2=>cond (!(VB a0)) (k2 true) (k2 (!(eA a1 0 1000000)))
def Gq(a0:Ah)(a1:Int):=ob (kA a0) λr1=>aA (λy2=>cond (y2) (some r1) (cond ((oA .i64 a1 a0.Last)>60) (ob (Em a0) λr5=>some r5) (ob (Bv a0.C a1) λr6=>ob (En a0.P a1) λr7=>some (⟨r1.Id,r1.Cn,r1.Sn,r6,r7,r1.Tick,r1.Last,r1.Dead⟩:Ah)))) λk3=>ob (ED a0) λr4=>cond (!r4) (k3 true) (cond (a0.Dead) (k3 true) (k3 (!(eA a1 0 1000000))))
def Gr(a0:Ao)(a1:Int):=aA (λy1=>cond (y1) (ob (kA a0) λr4=>some r4) (aA (λ(y5:Ao)=>some y5) λk6=>uA FU (λ(x7:Int×Ao) k8=>cond (x7.1<(a0.L.length:Int)) (ob (jA a0.L x7.1) λe9=>ob (Gq e9 a1) λr10=>aA (λ(y11:Bool)=>aA (λ(y13:Ao)=>k8 ((fA .i64 x7.1 1),y13)) λk14=>cond (y11) (cond (x7.2.L.length+[r10].length≤bA) (k14 (⟨x7.2.Cap,x7.2.L++[r10]⟩:Ao)) none) (k14 x7.2)) λk12=>cond (!r10.Dead) (k12 true) (k12 (decide ((oA .i64 a1 r10.Tick)≤10)))) (k6 x7.2)) (0,(⟨a0.Cap,[]⟩:Ao)))) λk2=>ob (AG a0) λr3=>cond (!r3) (k2 true) (k2 (!(eA a1 0 1000000)))
def Gs(a0:Ac)(a1:Int):=ob (kA a0) λr1=>aA (λy2=>cond (y2) (some (r1,[])) (ob (Gr a0.T a1) λr5=>aA (λ(y6:(List Ad))=>some ((⟨r1.Psks,r1.J,r1.D,r5,r1.Cr⟩:Ac),y6)) λk7=>uA FU (λ(x8:(List Ad)×Int) k9=>cond (x8.2<(a0.T.L.length:Int)) (ob (jA a0.T.L x8.2) λe10=>ob (CC r5 e10.Sn) λr11=>aA (λ(y12:Bool)=>aA (λ(y15:(List Ad))=>k9 (y15,(fA .i64 x8.2 1))) λk16=>cond (y12) (ob (Dl e10.Id 1 e10.Sn) λr17=>cond (x8.1.length+[r17].length≤bA) (k16 (x8.1++[r17])) none) (k16 x8.1)) λk13=>cond (!e10.Dead) (cond (r11<0) (k13 true) (cond (0≤r11&&r11<(r5.L.length:Int)) (ob (r5.L[r11.toNat]?) λe14=>k13 e14.Dead) none)) (k13 false)) (k7 x8.1)) ([],0))) λk3=>ob (xC a0) λr4=>cond (!r4) (k3 true) (k3 (!(eA a1 0 1000000)))
def Ds(a0:Aa):Option (Aa×(List Al)):=ob (kA a0) λr1=>aA (λy2=>cond (y2) (some (r1,[])) (aA (λ(y5:(List Al)×Aa)=>ob (Gs y5.2.S y5.2.Now) λr13=>cond (y5.2.Notes.length+r13.2.length≤bA) (some ((⟨y5.2.Now,y5.2.Clients,r13.1,y5.2.D,y5.2.Seen,y5.2.Known,y5.2.Notes++r13.2⟩:Aa),y5.1)) none) λk6=>uA FU (λ(x7:(List Al)×Int×Aa) k8=>cond (x7.2.1<(r1.Clients.length:Int)) (cond (0≤x7.2.1&&x7.2.1<(x7.2.2.Clients.length:Int)) (ob (x7.2.2.Clients[x7.2.1.toNat]?) λe9=>ob (Gp e9 x7.2.2.Now) λr10=>cond (0≤x7.2.1&&x7.2.1<(x7.2.2.Clients.length:Int)) (ob (x7.2.2.Clients[x7.2.1.toNat]?) λe11=>cond (x7.2.2.Notes.length+r10.2.2.length≤bA) (ob (Br r10.1 r10.2.1) λr12=>cond (x7.1.length+r12.length≤bA) (k8 ((x7.1++r12),(fA .i64 x7.2.1 1),(⟨x7.2.2.Now,List.set x7.2.2.Clients x7.2.1.toNat r10.1,x7.2.2.S,x7.2.2.D,x7.2.2.Seen,x7.2.2.Known,x7.2.2.Notes++r10.2.2⟩:Aa))) none) none) none) none) (k6 (x7.1,x7.2.2))) ([],0,(⟨fA .i64 r1.Now 1,r1.Clients,r1.S,r1.D,r1.Seen,r1.Known,r1.Notes⟩:Aa)))) λk3=>ob (pE a0) λr4=>cond (!r4) (k3 true) (k3 (a0.Now==1000000))
def Is(a0:Ar)(a1:Int):=ob (yA a0.Seed) λr1=>aA (λ(y2:Bool)=>aA (λ(y4:Ar)=>some y4) λk5=>cond (y2) (k5 (⟨r1,a1⟩:Ar)) (k5 (⟨r1,a0.N⟩:Ar))) λk3=>cond ((YB a0)) (k3 (eA a1 0 10000)) (k3 false)
def Iu(a0:List Al)(a1:Al):=cond (([]:List Al).length+a0.length≤bA) (cond (([]++a0).length+[a1].length≤bA) (ob (kA (([]++a0)++[a1])) λr1=>cond (!(DD r1)) (ob (kA a0) λr2=>some r2) (some r1)) none) none
def Bg(a0:Aa)(a1:List Al):=ob (kA a0) λr1=>aA (λ(y2:Aa)=>some y2) λk3=>uA FU (λ(x4:Int×Aa) k5=>cond (x4.1<(a1.length:Int)) (ob (jA a1 x4.1) λe6=>ob (Iu x4.2.Seen e6) λr7=>k5 ((fA .i64 x4.1 1),(⟨x4.2.Now,x4.2.Clients,x4.2.S,x4.2.D,r7,x4.2.Known,x4.2.Notes⟩:Aa))) (k3 x4.2)) (0,r1)
def Iv(a0:Aa)(a1:Am):Option (Aa×Bool):=aA (λy1=>cond (y1) (ob (kA a0) λr4=>some (r4,false)) (aA (λ(y5:Bool)=>aA (λ(y13:(List Al)×Bool×Aa)=>cond (!y13.2.1) (ob (kA a0) λr52=>some (r52,false)) (ob (Bg y13.2.2 y13.1) λr53=>some (r53,true))) λk14=>cond (y5) (ob (kA a0) λr15=>ob (Jm r15 a1) λr16=>k14 (r16.2.1,r16.2.2,r16.1)) (aA (λ(y17:Bool)=>aA (λ(y25:(List Al)×Bool×Aa)=>k14 (y25.1,y25.2.1,y25.2.2)) λk26=>cond (y17) (ob (Jq a0 a1) λr27=>k26 (r27.2.1,r27.2.2,r27.1)) (aA (λ(y28:Bool)=>aA (λ(y32:(List Al)×Bool×Aa)=>k26 (y32.1,y32.2.1,y32.2.2)) λk33=>cond (y28) (ob (kA a0) λr34=>ob (Jr r34 a1) λr35=>k33 (r35.2.1,r35.2.2,r35.1)) (aA (λ(y36:Bool)=>aA (λ(y38:(List Al)×Bool×Aa)=>k33 (y38.1,y38.2.1,y38.2.2)) λk39=>cond (y36) (ob (kA a0) λr40=>ob (Js r40 a1) λr41=>k39 ([],r41.2,r41.1)) (aA (λ(y42:(List Al)×Bool×Aa)=>k39 (y42.1,y42.2.1,y42.2.2)) λk43=>cond (a1.Kind==4) (ob (Ds a0) λr44=>k43 (r44.2,(decide (a0.Now<1000000)),r44.1)) (aA (λ(y45:Bool×Aa)=>k43 ([],y45.1,y45.2)) λk46=>cond (a1.Kind==17) (ob (kA a0) λr47=>aA (λ(y48:Aa)=>k46 (true,y48)) λk49=>cond ((xA .i64 a1.J 2)==0) (ob (Is a0.D a1.N) λr50=>k49 (⟨r47.Now,r47.Clients,r47.S,r50,r47.Seen,r47.Known,r47.Notes⟩:Aa)) (ob (Is a0.S.D a1.N) λr51=>k49 (⟨r47.Now,r47.Clients,(⟨r47.S.Psks,r47.S.J,r51,r47.S.T,r47.S.Cr⟩:Ac),r47.D,r47.Seen,r47.Known,r47.Notes⟩:Aa))) (k46 (false,(⟨0,[],(⟨[],(⟨[]⟩:Ay),(⟨[],0⟩:Ar),(⟨0,[]⟩:Ao),[]⟩:Ac),(⟨[],0⟩:Ar),[],[],[]⟩:Aa)))))) λk37=>cond (a1.Kind==15) (k37 (a1.Kind==15)) (k37 (a1.Kind==16)))) λk29=>cond (a1.Kind==3) (k29 (a1.Kind==3)) (aA (λ(y30:Bool)=>k29 y30) λk31=>cond (a1.Kind==12) (k31 (a1.Kind==12)) (k31 (a1.Kind==14))))) λk18=>cond (a1.Kind==7) (k18 (a1.Kind==7)) (aA (λ(y19:Bool)=>k18 y19) λk20=>cond (a1.Kind==8) (k20 (a1.Kind==8)) (aA (λ(y21:Bool)=>k20 y21) λk22=>cond (a1.Kind==9) (k22 (a1.Kind==9)) (aA (λ(y23:Bool)=>k22 y23) λk24=>cond (a1.Kind==10) (k24 (a1.Kind==10)) (k24 (a1.Kind==11))))))) λk6=>cond (a1.Kind==1) (k6 (a1.Kind==1)) (aA (λ(y7:Bool)=>k6 y7) λk8=>cond (a1.Kind==2) (k8 (a1.Kind==2)) (aA (λ(y9:Bool)=>k8 y9) λk10=>cond (a1.Kind==6) (k10 (a1.Kind==6)) (aA (λ(y11:Bool)=>k10 y11) λk12=>cond (a1.Kind==5) (k12 (a1.Kind==5)) (k12 (a1.Kind==13))))))) λk2=>ob (pE a0) λr3=>cond (!r3) (k2 true) (cond (!(xG a1)) (k2 true) (k2 (decide ((a0.Notes.length:Int)>500))))
end
end Go.D
namespace Go.D
def za7.ok{x}(_:vA [.v .Win] x){r}:kA (α:=Ap) x=some r→Qm x=some r:=QA λh=>zhW x h
def EU.ok{x}(_:vA [.v .Ep] x){r}:kA (α:=Av) x=some r→Od x=some r:=QA λh=>by
 rw[GK]at h;simp(disch:=omega) only[Od,yA,kA,PA]
def kU.ok{x}(_:vA [.v .Chan] x){r}:kA (α:=Aj) x=some r→Oe x=some r:=QA λh=>by
 rw[QH]at h;simp(disch:=omega) only[Oe,yA,kA,PA]
def znU(x:Ai)(h:wt x≤bA):Ng x=some x:=by
 have hw:wt x=wt x.Cands:=by rw[tK,GE];omega
 rw[hw]at h;unfold Ng;simp only[aA];refine qK x.Cands h (λi acc=>(i,(⟨x.At,acc⟩:Ai))) (λacc=>some (⟨x.At,acc⟩:Ai)) (λi hi acc k=>?_) (λacc k=>?_)
 ·have ZV:((i:Int)<(x.Cands.length:Int)):=by omega
  have hm:=fG hi;rw[zdj]at hm;simp only[decide_eq_true ZV,cond_true,DB hi,XA];rw[yA,PA (by omega)];rfl
 ·have ZV:¬((x.Cands.length:Int)<(x.Cands.length:Int)):=by omega
  simp only[decide_eq_false ZV,cond_false]
def RP.ok{x}(_:vA [.v .Paths] x){r}:kA (α:=Ai) x=some r→Ng x=some r:=QA λh=>znU x h
def oU.ok{x}(_:vA [.v .Sess] x){r}:kA (α:=Ah) x=some r→Of x=some r:=QA λh=>by
 rw[vK]at h;simp(disch:=omega) only[Of,yA,kA,PA]
def za6.ok{x}(_:vA [.v .Tab] x){r}:kA (α:=Ao) x=some r→Qn x=some r:=QA λh=>zhN x h
def TT.ok{x}(_:vA [.sl .Credit] x){r}:kA (α:=List Ak) x=some r→Og x=some r:=QA λh=>by
 unfold Og;rw[ZD (Nat.le_trans (QB _) h)];rfl
def UT.ok{x}(_:vA [.v .Server] x){r}:kA (α:=Ac) x=some r→Oh x=some r:=QA λh=>by
 rw[lO,zam,RM]at h;simp(disch:=omega) only[Oh,yA,tS,kA,PA]
def eU.ok{x}(_:vA [.v .Frame] x){r}:kA (α:=Ab) x=some r→Oi x=some r:=QA λh=>by
 rw[tI]at h;simp(disch:=omega) only[Oi,yA,kA,PA]
def WT.ok{x}(_:vA [.v .Client] x){r}:kA (α:=Ae) x=some r→Oj x=some r:=QA λh=>by
 rw[GS]at h;simp(disch:=omega) only[Oj,yA,kA,PA]
def znQ(x:List Al)(h:wt x≤bA):Nh x=some x:=by
 unfold Nh;simp only[aA];refine qK x h (λi acc=>(acc,i)) (λacc=>some acc) (λi hi acc k=>?_) (λacc k=>?_)
 ·have ZV:((i:Int)<(x.length:Int)):=by omega
  have hm:=fG hi;rw[zdh]at hm;simp only[decide_eq_true ZV,cond_true,DB hi,XA];rw[yA,PA (by omega)];rfl
 ·have ZV:¬((x.length:Int)<(x.length:Int)):=by omega
  simp only[decide_eq_false ZV,cond_false]
def JP.ok{x}(_:vA [.sl .Wire] x){r}:kA (α:=List Al) x=some r→Nh x=some r:=QA λh=>znQ x h
def mU.ok{x}(_:vA [.v .Note] x){r}:kA (α:=Ad) x=some r→Ol x=some r:=QA λh=>by
 rw[KL]at h;simp(disch:=omega) only[Ol,yA,kA,PA]
def zaN.ok{x}(_:vA [.sl .Note] x){r}:kA (α:=List Ad) x=some r→Qo x=some r:=QA λh=>zh0 x h
def gU.ok{x}(_:vA [.v .World] x){r}:kA (α:=Aa) x=some r→Om x=some r:=QA λh=>by
 obtain⟨w1,w2,w3,w4,w5,w6,w7⟩:=x;rw[cG,RM]at h;dsimp only at h;unfold Om;simp(disch:=omega) only[yA,tS,kA,PA,aA];refine qK w2 (by omega) (λi acc=>(i,(⟨w1,acc,w3,w4,[],[],[]⟩:Aa))) (λacc=>some (⟨w1,acc,w3,w4,w5,w6,w7⟩:Aa)) (λi hi acc k=>?_) (λacc k=>?_)
 ·have ZV:((i:Int)<(w2.length:Int)):=by omega
  have hm:=fG hi;simp only[decide_eq_true ZV,cond_true,DB hi,XA];rw[PA (by omega)];rfl
 ·have ZV:¬((w2.length:Int)<(w2.length:Int)):=by omega
  simp only[decide_eq_false ZV,cond_false]
end Go.D

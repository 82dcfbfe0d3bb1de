/-
 Sizes of the program's data.
-/
import Derived.Test.YtkpkommmdacjlaaGreatN2
set_option linter.all false
namespace Go.D
instance:Wt Af:=⟨λx=>wt x.A⟩
def ZQ(x:Af):wt x=wt x.A:=rfl
instance:Wt Ai:=⟨λx=>wt x.Cn+wt x.Sn+wt x.Cookie+wt x.Proof+wt x.Body+wt x.Tag⟩
def dE(x:Ai):wt x=wt x.Cn+wt x.Sn+wt x.Cookie+wt x.Proof+wt x.Body+wt x.Tag:=rfl
instance:Wt Ar:=⟨λ_=>0⟩
def HD(x:Ar):wt x=0:=rfl
instance:Wt Ac:=⟨λx=>wt x.Psk+wt x.At+wt x.Cn+wt x.Fin+wt x.C+wt x.T+wt x.R⟩
def KE(x:Ac):wt x=wt x.Psk+wt x.At+wt x.Cn+wt x.Fin+wt x.C+wt x.T+wt x.R:=rfl
instance:Wt Ao:=⟨λx=>wt x.Secret⟩
def BG(x:Ao):wt x=wt x.Secret:=rfl
instance:Wt Ak:=⟨λx=>wt x.Seed⟩
def LF(x:Ak):wt x=wt x.Seed:=rfl
instance:Wt Aj:=⟨λx=>wt x.A+wt x.Draw⟩
def uG(x:Aj):wt x=wt x.A+wt x.Draw:=rfl
instance:Wt Ah:=⟨λx=>wt x.At+wt x.Cands⟩
def oG(x:Ah):wt x=wt x.At+wt x.Cands:=rfl
instance:Wt Ag:=⟨λx=>wt x.Cn+wt x.Sn+wt x.C+wt x.P⟩
def PE(x:Ag):wt x=wt x.Cn+wt x.Sn+wt x.C+wt x.P:=rfl
instance:Wt Am:=⟨λx=>wt x.L⟩
def gH(x:Am):wt x=wt x.L:=rfl
instance:Wt Ad:=⟨λx=>wt x.Psks+wt x.J+wt x.D+wt x.T+wt x.Cr⟩
def qE(x:Ad):wt x=wt x.Psks+wt x.J+wt x.D+wt x.T+wt x.Cr:=rfl
instance:Wt Ab:=⟨λx=>wt x.From+wt x.To+wt x.B⟩
def RF(x:Ab):wt x=wt x.From+wt x.To+wt x.B:=rfl
instance:Wt Aa:=⟨λx=>wt x.Clients+wt x.S+wt x.D+wt x.Seen+wt x.Known+wt x.Notes⟩
def xD(x:Aa):wt x=wt x.Clients+wt x.S+wt x.D+wt x.Seen+wt x.Known+wt x.Notes:=rfl
end Go.D
namespace Go.D
def KD(w:Ab):Bool:=RD w.From&&RD w.To&&decide ((w.B.length:Int)≤200)
def DD(l:List Ab):Bool:=!(l.any λw=>!KD w)&&decide ((l.length:Int)≤90)
end Go.D
namespace Go.D
open Option renaming bind→ob
noncomputable section
def Fi(a0:Aq):=
 DA (λ(y1:Bool)=>
 some y1) λk2=>
 cond ((YC a0.Host 0 4294967295))
 (k2 (YC a0.Port 0 65535))
 (k2 false)
def Fj(a0:Aq):=
 DA (λ(y1:Bool)=>
 some y1) λk2=>
 cond ((YC a0.Host 0 4294967295))
 (k2 (YC a0.Port 0 65535))
 (k2 false)
def Bu(a0:Ai)(a1:Int):=
 ob (vA a0.Cn a1) λr1=>
 cond (decide (r1<0))
 (some (-1))
 (ob (vA a0.Sn r1) λr2=>
 cond (decide (r2<0))
 (some (-1))
 (ob (vA a0.Cookie r2) λr3=>
 cond (decide (r3<0))
 (some (-1))
 (ob (vA a0.Proof r3) λr4=>
 cond (decide (r4<0))
 (some (-1))
 (ob (vA a0.Body r4) λr5=>
 cond (decide (r5<0))
 (some (-1))
 (ob (vA a0.Tag r5) λr6=>
 cond (decide (r6<0))
 (some (-1))
 (some r6))))))
def Bv(a0:Ac)(a1:Int):=
 ob (vA a0.Psk a1) λr1=>
 cond (decide (r1<0))
 (some (-1))
 (ob (vA a0.Cn r1) λr2=>
 cond (decide (r2<0))
 (some (-1))
 (ob (vA a0.Fin r2) λr3=>
 cond (decide (r3<0))
 (some (-1))
 (ob (vA a0.C r3) λr4=>
 cond (decide (r4<0))
 (some (-1))
 (some r4))))
def Fk(a0:List Ac)(a1:Int):=
 cond (decide ((qC .i64 a1 (a0.length:Int))<0))
 (some (-1))
 (DA (λ(y1:Int)=>
 some y1) λk2=>
 KA FU (λ(x3:Int×Int) k4=>
 cond (decide (x3.2<(a0.length:Int)))
 (ob (NA a0 x3.2) λe5=>
 ob (vA e5 x3.1) λr6=>
 cond (decide (r6<0))
 (some (-1))
 (k4 (r6,(PA .i64 x3.2 1))))
 (k2 x3.1)) ((qC .i64 a1 (a0.length:Int)),0))
def Fl(a0:List (List UInt8))(a1:Int):=
 cond (decide ((qC .i64 a1 (a0.length:Int))<0))
 (some (-1))
 (DA (λ(y1:Int)=>
 some y1) λk2=>
 KA FU (λ(x3:Int×Int) k4=>
 cond (decide (x3.2<(a0.length:Int)))
 (ob (NA a0 x3.2) λe5=>
 ob (vA e5 x3.1) λr6=>
 cond (decide (r6<0))
 (some (-1))
 (k4 (r6,(PA .i64 x3.2 1))))
 (k2 x3.1)) ((qC .i64 a1 (a0.length:Int)),0))
def Bw(a0:Ao)(a1:Int):=
 ob (vA a0.Secret a1) λr1=>
 cond (decide (r1<0))
 (some (-1))
 (some r1)
def Bx(a0:Ak)(a1:Int):=
 ob (vA a0.Seed a1) λr1=>
 cond (decide (r1<0))
 (some (-1))
 (some r1)
def By(a0:Aj)(a1:Int):=
 ob (vA a0.Draw a1) λr1=>
 cond (decide (r1<0))
 (some (-1))
 (some r1)
def Fm(a0:List Aj)(a1:Int):=
 cond (decide ((qC .i64 a1 (a0.length:Int))<0))
 (some (-1))
 (DA (λ(y1:Int)=>
 some y1) λk2=>
 KA FU (λ(x3:Int×Int) k4=>
 cond (decide (x3.2<(a0.length:Int)))
 (ob (NA a0 x3.2) λe5=>
 ob (vA e5 x3.1) λr6=>
 cond (decide (r6<0))
 (some (-1))
 (k4 (r6,(PA .i64 x3.2 1))))
 (k2 x3.1)) ((qC .i64 a1 (a0.length:Int)),0))
def Bz(a0:Ah)(a1:Int):=
 ob (vA a0.Cands a1) λr1=>
 cond (decide (r1<0))
 (some (-1))
 (some r1)
def Ca(a0:Ag)(a1:Int):=
 ob (vA a0.Cn a1) λr1=>
 cond (decide (r1<0))
 (some (-1))
 (ob (vA a0.Sn r1) λr2=>
 cond (decide (r2<0))
 (some (-1))
 (ob (vA a0.C r2) λr3=>
 cond (decide (r3<0))
 (some (-1))
 (ob (vA a0.P r3) λr4=>
 cond (decide (r4<0))
 (some (-1))
 (some r4))))
def Fn(a0:List Ag)(a1:Int):=
 cond (decide ((qC .i64 a1 (a0.length:Int))<0))
 (some (-1))
 (DA (λ(y1:Int)=>
 some y1) λk2=>
 KA FU (λ(x3:Int×Int) k4=>
 cond (decide (x3.2<(a0.length:Int)))
 (ob (NA a0 x3.2) λe5=>
 ob (vA e5 x3.1) λr6=>
 cond (decide (r6<0))
 (some (-1))
 (k4 (r6,(PA .i64 x3.2 1))))
 (k2 x3.1)) ((qC .i64 a1 (a0.length:Int)),0))
def Cb(a0:Am)(a1:Int):=
 ob (vA a0.L a1) λr1=>
 cond (decide (r1<0))
 (some (-1))
 (some r1)
def Fo(a0:List Af)(a1:Int):=
 cond (decide ((qC .i64 a1 (a0.length:Int))<0))
 (some (-1))
 (some (qC .i64 a1 (a0.length:Int)))
def Cc(a0:Ad)(a1:Int):=
 ob (vA a0.Psks a1) λr1=>
 cond (decide (r1<0))
 (some (-1))
 (ob (vA a0.J r1) λr2=>
 cond (decide (r2<0))
 (some (-1))
 (ob (vA a0.D r2) λr3=>
 cond (decide (r3<0))
 (some (-1))
 (ob (vA a0.T r3) λr4=>
 cond (decide (r4<0))
 (some (-1))
 (ob (vA a0.Cr r4) λr5=>
 cond (decide (r5<0))
 (some (-1))
 (some r5)))))
def Cd(a0:Ab)(a1:Int):=
 ob (vA a0.B a1) λr1=>
 cond (decide (r1<0))
 (some (-1))
 (some r1)
def Fp(a0:List Ab)(a1:Int):=
 cond (decide ((qC .i64 a1 (a0.length:Int))<0))
 (some (-1))
 (DA (λ(y1:Int)=>
 some y1) λk2=>
 KA FU (λ(x3:Int×Int) k4=>
 cond (decide (x3.2<(a0.length:Int)))
 (ob (NA a0 x3.2) λe5=>
 ob (vA e5 x3.1) λr6=>
 cond (decide (r6<0))
 (some (-1))
 (k4 (r6,(PA .i64 x3.2 1))))
 (k2 x3.1)) ((qC .i64 a1 (a0.length:Int)),0))
def Ce(a0:Aa)(a1:Int):=
 ob (vA a0.Clients a1) λr1=>
 cond (decide (r1<0))
 (some (-1))
 (ob (vA a0.S r1) λr2=>
 cond (decide (r2<0))
 (some (-1))
 (ob (vA a0.D r2) λr3=>
 cond (decide (r3<0))
 (some (-1))
 (ob (vA a0.Seen r3) λr4=>
 cond (decide (r4<0))
 (some (-1))
 (ob (vA a0.Known r4) λr5=>
 cond (decide (r5<0))
 (some (-1))
 (ob (vA a0.Notes r5) λr6=>
 cond (decide (r6<0))
 (some (-1))
 (some r6))))))
def Cf(a0:Ai):=
 ob (eA a0.Cn) λr1=>
 ob (eA a0.Sn) λr2=>
 ob (eA a0.Cookie) λr3=>
 ob (eA a0.Proof) λr4=>
 ob (eA a0.Body) λr5=>
 ob (eA a0.Tag) λr6=>
 some (⟨a0.Kind,a0.Id,r1,r2,a0.Tick,r3,r4,a0.Epoch,a0.Seq,r5,r6⟩:Ai)
def Fq(a0:Ar):=
 some a0
def Cg(a0:Ac):=
 ob (eA a0.Psk) λr1=>
 ob (eA a0.At) λr2=>
 ob (eA a0.Cn) λr3=>
 ob (eA a0.Fin) λr4=>
 ob (eA a0.C) λr5=>
 ob (eA a0.T) λr6=>
 ob (eA a0.R) λr7=>
 some (⟨a0.Id,r1,r2,a0.St,r3,r4,r5,r6,r7,a0.Last⟩:Ac)
def Fr(a0:List Ac):=
 cond (decide (0≤(a0.length:Int))&&decide ((a0.length:Int)≤(nA:Int))&&((a0.length:Int)==(a0.length:Int))) (let x1:List Ac:=List.replicate ((a0.length:Int):Int).toNat ((⟨0,[],(⟨0,0⟩:Aq),0,[],(⟨0,0,[],[],0,[],[],0,0,[],[]⟩:Ai),(⟨0,[],(⟨0,[],0,(⟨0,[]⟩:Ap)⟩:As),(⟨0,[],0,(⟨0,[]⟩:Ap)⟩:As),false,0,[]⟩:Al),(⟨false,0,0,0⟩:Ar),(⟨false,0,0,0⟩:Ar),0⟩:Ac):Ac)
 DA (λ(y2:(List Ac))=>
 some y2) λk3=>
 KA FU (λ(x4:Int×(List Ac)) k5=>
 cond (decide (x4.1<(a0.length:Int)))
 (ob (NA a0 x4.1) λe6=>
 ob (eA e6) λr7=>
 cond (decide (0≤x4.1)&&decide (x4.1<(x4.2.length:Int))) (ob (x4.2[x4.1.toNat]?) λe8=>
 k5 ((PA .i64 x4.1 1),(List.set x4.2 x4.1.toNat r7))) none)
 (k3 x4.2)) (0,x1)) none
def Fs(a0:List (List UInt8)):=
 cond (decide (0≤(a0.length:Int))&&decide ((a0.length:Int)≤(nA:Int))&&((a0.length:Int)==(a0.length:Int))) (let x1:List (List UInt8):=List.replicate ((a0.length:Int):Int).toNat ([]:List UInt8)
 DA (λ(y2:(List (List UInt8)))=>
 some y2) λk3=>
 KA FU (λ(x4:Int×(List (List UInt8))) k5=>
 cond (decide (x4.1<(a0.length:Int)))
 (ob (NA a0 x4.1) λe6=>
 ob (eA e6) λr7=>
 cond (decide (0≤x4.1)&&decide (x4.1<(x4.2.length:Int))) (ob (x4.2[x4.1.toNat]?) λe8=>
 k5 ((PA .i64 x4.1 1),(List.set x4.2 x4.1.toNat r7))) none)
 (k3 x4.2)) (0,x1)) none
def Ch(a0:Ao):=
 ob (eA a0.Secret) λr1=>
 some (⟨r1⟩:Ao)
def Ci(a0:Ak):=
 ob (eA a0.Seed) λr1=>
 some (⟨r1,a0.N⟩:Ak)
def Cj(a0:Aj):=
 ob (eA a0.A) λr1=>
 ob (eA a0.Draw) λr2=>
 some (⟨r1,r2,a0.Until⟩:Aj)
def Ft(a0:List Aj):=
 cond (decide (0≤(a0.length:Int))&&decide ((a0.length:Int)≤(nA:Int))&&((a0.length:Int)==(a0.length:Int))) (let x1:List Aj:=List.replicate ((a0.length:Int):Int).toNat ((⟨(⟨0,0⟩:Aq),[],0⟩:Aj):Aj)
 DA (λ(y2:(List Aj))=>
 some y2) λk3=>
 KA FU (λ(x4:Int×(List Aj)) k5=>
 cond (decide (x4.1<(a0.length:Int)))
 (ob (NA a0 x4.1) λe6=>
 ob (eA e6) λr7=>
 cond (decide (0≤x4.1)&&decide (x4.1<(x4.2.length:Int))) (ob (x4.2[x4.1.toNat]?) λe8=>
 k5 ((PA .i64 x4.1 1),(List.set x4.2 x4.1.toNat r7))) none)
 (k3 x4.2)) (0,x1)) none
def Ck(a0:Ah):=
 ob (eA a0.At) λr1=>
 ob (eA a0.Cands) λr2=>
 some (⟨r1,r2⟩:Ah)
def Cl(a0:Ag):=
 ob (eA a0.Cn) λr1=>
 ob (eA a0.Sn) λr2=>
 ob (eA a0.C) λr3=>
 ob (eA a0.P) λr4=>
 some (⟨a0.Id,r1,r2,r3,r4,a0.Tick,a0.Last,a0.Dead⟩:Ag)
def Fu(a0:List Ag):=
 cond (decide (0≤(a0.length:Int))&&decide ((a0.length:Int)≤(nA:Int))&&((a0.length:Int)==(a0.length:Int))) (let x1:List Ag:=List.replicate ((a0.length:Int):Int).toNat ((⟨0,[],[],(⟨0,[],(⟨0,[],0,(⟨0,[]⟩:Ap)⟩:As),(⟨0,[],0,(⟨0,[]⟩:Ap)⟩:As),false,0,[]⟩:Al),(⟨(⟨0,0⟩:Aq),[]⟩:Ah),0,0,false⟩:Ag):Ag)
 DA (λ(y2:(List Ag))=>
 some y2) λk3=>
 KA FU (λ(x4:Int×(List Ag)) k5=>
 cond (decide (x4.1<(a0.length:Int)))
 (ob (NA a0 x4.1) λe6=>
 ob (eA e6) λr7=>
 cond (decide (0≤x4.1)&&decide (x4.1<(x4.2.length:Int))) (ob (x4.2[x4.1.toNat]?) λe8=>
 k5 ((PA .i64 x4.1 1),(List.set x4.2 x4.1.toNat r7))) none)
 (k3 x4.2)) (0,x1)) none
def Cm(a0:Am):=
 ob (eA a0.L) λr1=>
 some (⟨a0.Cap,r1⟩:Am)
def Co(a0:Af):=
 ob (eA a0.A) λr1=>
 some (⟨r1,a0.Got,a0.Sent⟩:Af)
def Fv(a0:List Af):=
 cond (decide (0≤(a0.length:Int))&&decide ((a0.length:Int)≤(nA:Int))&&((a0.length:Int)==(a0.length:Int))) (let x1:List Af:=List.replicate ((a0.length:Int):Int).toNat ((⟨(⟨0,0⟩:Aq),0,0⟩:Af):Af)
 DA (λ(y2:(List Af))=>
 some y2) λk3=>
 KA FU (λ(x4:Int×(List Af)) k5=>
 cond (decide (x4.1<(a0.length:Int)))
 (ob (NA a0 x4.1) λe6=>
 ob (eA e6) λr7=>
 cond (decide (0≤x4.1)&&decide (x4.1<(x4.2.length:Int))) (ob (x4.2[x4.1.toNat]?) λe8=>
 k5 ((PA .i64 x4.1 1),(List.set x4.2 x4.1.toNat r7))) none)
 (k3 x4.2)) (0,x1)) none
def Cp(a0:Ad):=
 ob (eA a0.Psks) λr1=>
 ob (eA a0.J) λr2=>
 ob (eA a0.D) λr3=>
 ob (eA a0.T) λr4=>
 ob (eA a0.Cr) λr5=>
 some (⟨r1,r2,r3,r4,r5⟩:Ad)
def Cq(a0:Ab):=
 ob (eA a0.From) λr1=>
 ob (eA a0.To) λr2=>
 ob (eA a0.B) λr3=>
 some (⟨r1,r2,r3⟩:Ab)
def Fw(a0:List Ab):=
 cond (decide (0≤(a0.length:Int))&&decide ((a0.length:Int)≤(nA:Int))&&((a0.length:Int)==(a0.length:Int))) (let x1:List Ab:=List.replicate ((a0.length:Int):Int).toNat ((⟨(⟨0,0⟩:Aq),(⟨0,0⟩:Aq),[]⟩:Ab):Ab)
 DA (λ(y2:(List Ab))=>
 some y2) λk3=>
 KA FU (λ(x4:Int×(List Ab)) k5=>
 cond (decide (x4.1<(a0.length:Int)))
 (ob (NA a0 x4.1) λe6=>
 ob (eA e6) λr7=>
 cond (decide (0≤x4.1)&&decide (x4.1<(x4.2.length:Int))) (ob (x4.2[x4.1.toNat]?) λe8=>
 k5 ((PA .i64 x4.1 1),(List.set x4.2 x4.1.toNat r7))) none)
 (k3 x4.2)) (0,x1)) none
def Cs(a0:Aa):=
 ob (eA a0.Clients) λr1=>
 ob (eA a0.S) λr2=>
 ob (eA a0.D) λr3=>
 ob (eA a0.Seen) λr4=>
 ob (eA a0.Known) λr5=>
 ob (eA a0.Notes) λr6=>
 some (⟨a0.Now,r1,r2,r3,r4,r5,r6⟩:Aa)
def Ct(a0:Ai)(a1:Ai):=
 cond (a0.Kind !=a1.Kind)
 (some false)
 (cond (a0.Id !=a1.Id)
 (some false)
 (cond (!(mA a0.Cn a1.Cn))
 (some false)
 (cond (!(mA a0.Sn a1.Sn))
 (some false)
 (cond (a0.Tick !=a1.Tick)
 (some false)
 (cond (!(mA a0.Cookie a1.Cookie))
 (some false)
 (cond (!(mA a0.Proof a1.Proof))
 (some false)
 (cond (a0.Epoch !=a1.Epoch)
 (some false)
 (cond (a0.Seq !=a1.Seq)
 (some false)
 (cond (!(mA a0.Body a1.Body))
 (some false)
 (cond (!(mA a0.Tag a1.Tag))
 (some false)
 (some true)))))))))))
def Cu(a0:Ar)(a1:Ar):=
 cond (!(a0.On==a1.On))
 (some false)
 (cond (a0.Due !=a1.Due)
 (some false)
 (cond (a0.Wait !=a1.Wait)
 (some false)
 (cond (a0.Tries !=a1.Tries)
 (some false)
 (some true))))
def Cv(a0:Ac)(a1:Ac):=
 cond (a0.Id !=a1.Id)
 (some false)
 (cond (!(mA a0.Psk a1.Psk))
 (some false)
 (cond (!(mA a0.At a1.At))
 (some false)
 (cond (a0.St !=a1.St)
 (some false)
 (cond (!(mA a0.Cn a1.Cn))
 (some false)
 (cond (!(mA a0.Fin a1.Fin))
 (some false)
 (cond (!(mA a0.C a1.C))
 (some false)
 (cond (!(mA a0.T a1.T))
 (some false)
 (cond (!(mA a0.R a1.R))
 (some false)
 (cond (a0.Last !=a1.Last)
 (some false)
 (some true))))))))))
def Fx(a0:List Ac)(a1:List Ac):=
 cond ((a0.length:Int) !=(a1.length:Int))
 (some false)
 (DA (λ(y1:Unit)=>
 some true) λk2=>
 KA FU (λ(x3:Int) k4=>
 cond (decide (x3<(a0.length:Int)))
 (ob (NA a0 x3) λe5=>
 ob (NA a1 x3) λe6=>
 cond (!(mA e5 e6))
 (some false)
 (k4 (PA .i64 x3 1)))
 (k2 ())) 0)
def Fy(a0:List (List UInt8))(a1:List (List UInt8)):=
 cond ((a0.length:Int) !=(a1.length:Int))
 (some false)
 (DA (λ(y1:Unit)=>
 some true) λk2=>
 KA FU (λ(x3:Int) k4=>
 cond (decide (x3<(a0.length:Int)))
 (ob (NA a0 x3) λe5=>
 ob (NA a1 x3) λe6=>
 cond (!(mA e5 e6))
 (some false)
 (k4 (PA .i64 x3 1)))
 (k2 ())) 0)
def Cw(a0:Ao)(a1:Ao):=
 cond (!(mA a0.Secret a1.Secret))
 (some false)
 (some true)
def Cy(a0:Ak)(a1:Ak):=
 cond (!(mA a0.Seed a1.Seed))
 (some false)
 (cond (a0.N !=a1.N)
 (some false)
 (some true))
def Cz(a0:Aj)(a1:Aj):=
 cond (!(mA a0.A a1.A))
 (some false)
 (cond (!(mA a0.Draw a1.Draw))
 (some false)
 (cond (a0.Until !=a1.Until)
 (some false)
 (some true)))
def Fz(a0:List Aj)(a1:List Aj):=
 cond ((a0.length:Int) !=(a1.length:Int))
 (some false)
 (DA (λ(y1:Unit)=>
 some true) λk2=>
 KA FU (λ(x3:Int) k4=>
 cond (decide (x3<(a0.length:Int)))
 (ob (NA a0 x3) λe5=>
 ob (NA a1 x3) λe6=>
 cond (!(mA e5 e6))
 (some false)
 (k4 (PA .i64 x3 1)))
 (k2 ())) 0)
def Da(a0:Ah)(a1:Ah):=
 cond (!(mA a0.At a1.At))
 (some false)
 (cond (!(mA a0.Cands a1.Cands))
 (some false)
 (some true))
def Db(a0:Ag)(a1:Ag):=
 cond (a0.Id !=a1.Id)
 (some false)
 (cond (!(mA a0.Cn a1.Cn))
 (some false)
 (cond (!(mA a0.Sn a1.Sn))
 (some false)
 (cond (!(mA a0.C a1.C))
 (some false)
 (cond (!(mA a0.P a1.P))
 (some false)
 (cond (a0.Tick !=a1.Tick)
 (some false)
 (cond (a0.Last !=a1.Last)
 (some false)
 (cond (!(a0.Dead==a1.Dead))
 (some false)
 (some true))))))))
def Ga(a0:List Ag)(a1:List Ag):=
 cond ((a0.length:Int) !=(a1.length:Int))
 (some false)
 (DA (λ(y1:Unit)=>
 some true) λk2=>
 KA FU (λ(x3:Int) k4=>
 cond (decide (x3<(a0.length:Int)))
 (ob (NA a0 x3) λe5=>
 ob (NA a1 x3) λe6=>
 cond (!(mA e5 e6))
 (some false)
 (k4 (PA .i64 x3 1)))
 (k2 ())) 0)
def Dc(a0:Am)(a1:Am):=
 cond (a0.Cap !=a1.Cap)
 (some false)
 (cond (!(mA a0.L a1.L))
 (some false)
 (some true))
def Dd(a0:Af)(a1:Af):=
 cond (!(mA a0.A a1.A))
 (some false)
 (cond (a0.Got !=a1.Got)
 (some false)
 (cond (a0.Sent !=a1.Sent)
 (some false)
 (some true)))
def Gb(a0:List Af)(a1:List Af):=
 cond ((a0.length:Int) !=(a1.length:Int))
 (some false)
 (DA (λ(y1:Unit)=>
 some true) λk2=>
 KA FU (λ(x3:Int) k4=>
 cond (decide (x3<(a0.length:Int)))
 (ob (NA a0 x3) λe5=>
 ob (NA a1 x3) λe6=>
 cond (!(mA e5 e6))
 (some false)
 (k4 (PA .i64 x3 1)))
 (k2 ())) 0)
def De(a0:Ad)(a1:Ad):=
 cond (!(mA a0.Psks a1.Psks))
 (some false)
 (cond (!(mA a0.J a1.J))
 (some false)
 (cond (!(mA a0.D a1.D))
 (some false)
 (cond (!(mA a0.T a1.T))
 (some false)
 (cond (!(mA a0.Cr a1.Cr))
 (some false)
 (some true)))))
def Df(a0:Ab)(a1:Ab):=
 cond (!(mA a0.From a1.From))
 (some false)
 (cond (!(mA a0.To a1.To))
 (some false)
 (cond (!(mA a0.B a1.B))
 (some false)
 (some true)))
def Gc(a0:List Ab)(a1:List Ab):=
 cond ((a0.length:Int) !=(a1.length:Int))
 (some false)
 (DA (λ(y1:Unit)=>
 some true) λk2=>
 KA FU (λ(x3:Int) k4=>
 cond (decide (x3<(a0.length:Int)))
 (ob (NA a0 x3) λe5=>
 ob (NA a1 x3) λe6=>
 cond (!(mA e5 e6))
 (some false)
 (k4 (PA .i64 x3 1)))
 (k2 ())) 0)
def Dg(a0:Aa)(a1:Aa):=
 cond (a0.Now !=a1.Now)
 (some false)
 (cond (!(mA a0.Clients a1.Clients))
 (some false)
 (cond (!(mA a0.S a1.S))
 (some false)
 (cond (!(mA a0.D a1.D))
 (some false)
 (cond (!(mA a0.Seen a1.Seen))
 (some false)
 (cond (!(mA a0.Known a1.Known))
 (some false)
 (cond (!(mA a0.Notes a1.Notes))
 (some false)
 (some true)))))))
def Gd(a0:Ab):=
 DA (λ(y1:Bool)=>
 some y1) λk2=>
 cond ((RD a0.From))
 (cond ((RD a0.To))
 (k2 (decide ((a0.B.length:Int)≤200)))
 (k2 false))
 (k2 false)
def Ge(a0:List Ab):=
 DA (λ(y1:Unit)=>
 some (decide ((a0.length:Int)≤90))) λk2=>
 KA FU (λ(x3:Int) k4=>
 cond (decide (x3<(a0.length:Int)))
 (ob (NA a0 x3) λe5=>
 cond (!(KD e5))
 (some false)
 (k4 (PA .i64 x3 1)))
 (k2 ())) 0
def Gf(a0:Ab):=
 DA (λ(y1:Bool)=>
 some y1) λk2=>
 cond ((RD a0.From))
 (cond ((RD a0.To))
 (k2 (decide ((a0.B.length:Int)≤200)))
 (k2 false))
 (k2 false)
def Dh(a0:List Ab):=
 DA (λ(y1:Unit)=>
 some (decide ((a0.length:Int)≤90))) λk2=>
 KA FU (λ(x3:Int) k4=>
 cond (decide (x3<(a0.length:Int)))
 (ob (NA a0 x3) λe5=>
 cond (!(KD e5))
 (some false)
 (k4 (PA .i64 x3 1)))
 (k2 ())) 0
end
end Go.D
namespace Go.D
def ZK.ok{x}(hb:rA [.sl .Credit, .v .int] x){r}:vA (α:=List Af) x.1 x.2=some r→Fo x.1 x.2=some r:=CA λh=>yO (α:=Af) (λ_=>rfl) x.1 h (PF hb.2) hb.1.1
def aL.ok{x}(hb:rA [.sl .Credit] x){r}:eA (α:=List Af) x=some r→Fv x=some r:=CA λh=>WG (α:=Af) x _ hb.1 h
def WK.ok{x}(hb:rA [.sl .Credit, .sl .Credit] x):Gb x.1 x.2=some (mA x.1 x.2):=JF (α:=Af) x.1 x.2 hb.1.1 _ (λ_ _=>rfl)
def TU(a:Aa)(left:Int)(h:0≤left):Ce a left=some (OB a left):=by
 simp only[Ce];refine oB (by omega) (λhn=>pB (by rw[xD];omega)) λh0=>?_;refine oB (by omega) (λhn=>pB (by rw[xD];omega)) λh1=>?_;refine oB (by omega) (λhn=>pB (by rw[xD];omega)) λh2=>?_;refine oB (by omega) (λhn=>pB (by rw[xD];omega)) λh3=>?_;refine oB (by omega) (λhn=>pB (by rw[xD];omega)) λh4=>?_;refine oB (by omega) (λhn=>pB (by rw[xD];omega)) λh5=>?_;refine congrArg some ?_;have hp:=ID (left:=left) (a:=a) (by rw[xD];omega);rw[xD]at hp;omega
def PH.ok{x}(hb:rA [.v .World, .v .int] x){r}:vA (α:=Aa) x.1 x.2=some r→Ce x.1 x.2=some r:=CA λh=>TU x.1 x.2 h
def LU(a:Aa)(h:wt a≤nA):Cs a=some a:=by
 rw[xD]at h;simp only[Cs,eA];rw[IA (by omega),IA (by omega),IA (by omega),IA (by omega),IA (by omega),IA (by omega)]
def NH.ok{x}(_:rA [.v .World] x){r}:eA (α:=Aa) x=some r→Cs x=some r:=CA λh=>LU x h
def OU(a b:Aa):Dg a b=some (mA a b):=by
 simp only[Dg];refine GB (λy:Aa=>y.Now) λh0=>?_;refine fB (λy:Aa=>y.Clients) λh1=>?_;refine fB (λy:Aa=>y.S) λh2=>?_;refine fB (λy:Aa=>y.D) λh3=>?_;refine fB (λy:Aa=>y.Seen) λh4=>?_;refine fB (λy:Aa=>y.Known) λh5=>?_;refine fB (λy:Aa=>y.Notes) λh6=>?_;exact kD (by cases a;cases b;simp_all)
def JH.ok{x}(_:rA [.v .World, .v .World] x):Dg x.1 x.2=some (mA x.1 x.2):=OU x.1 x.2
def lL.ok{x}(hb:rA [.sl .Wire, .v .int] x){r}:vA (α:=List Ab) x.1 x.2=some r→Fp x.1 x.2=some r:=CA λh=>lJ (α:=Ab) x.1 h (PF hb.2) hb.1.1
def BL.ok{x}(hb:rA [.sl .Wire] x){r}:eA (α:=List Ab) x=some r→Fw x=some r:=CA λh=>WG (α:=Ab) x _ hb.1 h
def DL.ok{x}(hb:rA [.sl .Wire, .sl .Wire] x):Gc x.1 x.2=some (mA x.1 x.2):=JF (α:=Ab) x.1 x.2 hb.1.1 _ (λ_ _=>rfl)
def CU(a:Af)(h:wt a≤nA):Co a=some a:=by
 rw[ZQ]at h;simp only[Co,eA];rw[IA (by omega)]
def GH.ok{x}(_:rA [.v .Credit] x){r}:eA (α:=Af) x=some r→Co x=some r:=CA λh=>CU x h
def AU(a b:Af):Dd a b=some (mA a b):=by
 simp only[Dd];refine fB (λy:Af=>y.A) λh0=>?_;refine GB (λy:Af=>y.Got) λh1=>?_;refine GB (λy:Af=>y.Sent) λh2=>?_;exact kD (by cases a;cases b;simp_all)
def BH.ok{x}(_:rA [.v .Credit, .v .Credit] x):Dd x.1 x.2=some (mA x.1 x.2):=AU x.1 x.2
def XK.ok{x}(hb:rA [.sl .Client, .v .int] x){r}:vA (α:=List Ac) x.1 x.2=some r→Fk x.1 x.2=some r:=CA λh=>lJ (α:=Ac) x.1 h (PF hb.2) hb.1.1
def GU(a:Ad)(left:Int)(h:0≤left):Cc a left=some (OB a left):=by
 simp only[Cc];refine oB (by omega) (λhn=>pB (by rw[qE];omega)) λh0=>?_;refine oB (by omega) (λhn=>pB (by rw[qE];omega)) λh1=>?_;refine oB (by omega) (λhn=>pB (by rw[qE];omega)) λh2=>?_;refine oB (by omega) (λhn=>pB (by rw[qE];omega)) λh3=>?_;refine oB (by omega) (λhn=>pB (by rw[qE];omega)) λh4=>?_;refine congrArg some ?_;have hp:=ID (left:=left) (a:=a) (by rw[qE];omega);rw[qE]at hp;omega
def HH.ok{x}(hb:rA [.v .Server, .v .int] x){r}:vA (α:=Ad) x.1 x.2=some r→Cc x.1 x.2=some r:=CA λh=>GU x.1 x.2 h
def pV(a:Ak)(left:Int)(h:0≤left):Bx a left=some (OB a left):=by
 simp only[Bx];refine oB (by omega) (λhn=>pB (by rw[LF];omega)) λh0=>?_;refine congrArg some ?_;have hp:=ID (left:=left) (a:=a) (by rw[LF];omega);rw[LF]at hp;omega
def nI.ok{x}(hb:rA [.v .Dice, .v .int] x){r}:vA (α:=Ak) x.1 x.2=some r→Bx x.1 x.2=some r:=CA λh=>pV x.1 x.2 h
def gL.ok{x}(hb:rA [.sl .bs, .v .int] x){r}:vA (α:=List (List UInt8)) x.1 x.2=some r→Fl x.1 x.2=some r:=CA λh=>lJ (α:=(List UInt8)) x.1 h (PF hb.2) hb.1.1
def YK.ok{x}(hb:rA [.sl .Client] x){r}:eA (α:=List Ac) x=some r→Fr x=some r:=CA λh=>WG (α:=Ac) x _ hb.1 h
def HU(a:Ad)(h:wt a≤nA):Cp a=some a:=by
 rw[qE]at h;simp only[Cp,eA];rw[IA (by omega),IA (by omega),IA (by omega),IA (by omega),IA (by omega)]
def DH.ok{x}(_:rA [.v .Server] x){r}:eA (α:=Ad) x=some r→Cp x=some r:=CA λh=>HU x h
def sV(a:Ak)(h:wt a≤nA):Ci a=some a:=by
 rw[LF]at h;simp only[Ci,eA];rw[IA (by omega)]
def lI.ok{x}(_:rA [.v .Dice] x){r}:eA (α:=Ak) x=some r→Ci x=some r:=CA λh=>sV x h
def dL.ok{x}(hb:rA [.sl .bs] x){r}:eA (α:=List (List UInt8)) x=some r→Fs x=some r:=CA λh=>WG (α:=(List UInt8)) x _ hb.1 h
def VK.ok{x}(hb:rA [.sl .Client, .sl .Client] x):Fx x.1 x.2=some (mA x.1 x.2):=JF (α:=Ac) x.1 x.2 hb.1.1 _ (λ_ _=>rfl)
def DU(a b:Ad):De a b=some (mA a b):=by
 simp only[De];refine fB (λy:Ad=>y.Psks) λh0=>?_;refine fB (λy:Ad=>y.J) λh1=>?_;refine fB (λy:Ad=>y.D) λh2=>?_;refine fB (λy:Ad=>y.T) λh3=>?_;refine fB (λy:Ad=>y.Cr) λh4=>?_;exact kD (by cases a;cases b;simp_all)
def FH.ok{x}(_:rA [.v .Server, .v .Server] x):De x.1 x.2=some (mA x.1 x.2):=DU x.1 x.2
def vV(a b:Ak):Cy a b=some (mA a b):=by
 simp only[Cy];refine fB (λy:Ak=>y.Seed) λh0=>?_;refine GB (λy:Ak=>y.N) λh1=>?_;exact kD (by cases a;cases b;simp_all)
def dI.ok{x}(_:rA [.v .Dice, .v .Dice] x):Cy x.1 x.2=some (mA x.1 x.2):=vV x.1 x.2
def fL.ok{x}(hb:rA [.sl .bs, .sl .bs] x):Fy x.1 x.2=some (mA x.1 x.2):=JF (α:=(List UInt8)) x.1 x.2 hb.1.1 _ (λ_ _=>rfl)
def rV(a:Ab)(left:Int)(h:0≤left):Cd a left=some (OB a left):=by
 simp only[Cd];refine oB (by omega) (λhn=>pB (by rw[RF,sB,sB];omega)) λh0=>?_;refine congrArg some ?_;have hp:=ID (left:=left) (a:=a) (by rw[RF,sB,sB];omega);rw[RF,sB,sB]at hp;omega
def fI.ok{x}(hb:rA [.v .Wire, .v .int] x){r}:vA (α:=Ab) x.1 x.2=some r→Cd x.1 x.2=some r:=CA λh=>rV x.1 x.2 h
def iV(a:Ab)(h:wt a≤nA):Cq a=some a:=by
 rw[RF]at h;simp only[Cq,eA];rw[IA (by omega),IA (by omega),IA (by omega)]
def gI.ok{x}(_:rA [.v .Wire] x){r}:eA (α:=Ab) x=some r→Cq x=some r:=CA λh=>iV x h
def uV(a b:Ab):Df a b=some (mA a b):=by
 simp only[Df];refine fB (λy:Ab=>y.From) λh0=>?_;refine fB (λy:Ab=>y.To) λh1=>?_;refine fB (λy:Ab=>y.B) λh2=>?_;exact kD (by cases a;cases b;simp_all)
def xI.ok{x}(_:rA [.v .Wire, .v .Wire] x):Df x.1 x.2=some (mA x.1 x.2):=uV x.1 x.2
def zU(a:Ac)(left:Int)(h:0≤left):Bv a left=some (OB a left):=by
 simp only[Bv];refine oB (by omega) (λhn=>pB (by rw[KE,sB,HD,HD];omega)) λh0=>?_;refine oB (by omega) (λhn=>pB (by rw[KE,sB,HD,HD];omega)) λh1=>?_;refine oB (by omega) (λhn=>pB (by rw[KE,sB,HD,HD];omega)) λh2=>?_;refine oB (by omega) (λhn=>pB (by rw[KE,sB,HD,HD];omega)) λh3=>?_;refine congrArg some ?_;have hp:=ID (left:=left) (a:=a) (by rw[KE,sB,HD,HD];omega);rw[KE,sB,HD,HD]at hp;omega
def CH.ok{x}(hb:rA [.v .Client, .v .int] x){r}:vA (α:=Ac) x.1 x.2=some r→Bv x.1 x.2=some r:=CA λh=>zU x.1 x.2 h
def zaa(a:Ao)(left:Int)(h:0≤left):Bw a left=some (OB a left):=by
 simp only[Bw];refine oB (by omega) (λhn=>pB (by rw[BG];omega)) λh0=>?_;refine congrArg some ?_;have hp:=ID (left:=left) (a:=a) (by rw[BG];omega);rw[BG]at hp;omega
def EI.ok{x}(hb:rA [.v .Jar, .v .int] x){r}:vA (α:=Ao) x.1 x.2=some r→Bw x.1 x.2=some r:=CA λh=>zaa x.1 x.2 h
def AV(a:Am)(left:Int)(h:0≤left):Cb a left=some (OB a left):=by
 simp only[Cb];refine oB (by omega) (λhn=>pB (by rw[gH];omega)) λh0=>?_;refine congrArg some ?_;have hp:=ID (left:=left) (a:=a) (by rw[gH];omega);rw[gH]at hp;omega
def MI.ok{x}(hb:rA [.v .Tab, .v .int] x){r}:vA (α:=Am) x.1 x.2=some r→Cb x.1 x.2=some r:=CA λh=>AV x.1 x.2 h
def EU(a:Ac)(h:wt a≤nA):Cg a=some a:=by
 rw[KE]at h;simp only[Cg,eA];rw[IA (by omega),IA (by omega),IA (by omega),IA (by omega),IA (by omega),IA (by omega),IA (by omega)]
def EH.ok{x}(_:rA [.v .Client] x){r}:eA (α:=Ac) x=some r→Cg x=some r:=CA λh=>EU x h
def xV(a:Ao)(h:wt a≤nA):Ch a=some a:=by
 rw[BG]at h;simp only[Ch,eA];rw[IA (by omega)]
def CI.ok{x}(_:rA [.v .Jar] x){r}:eA (α:=Ao) x=some r→Ch x=some r:=CA λh=>xV x h
def yV(a:Am)(h:wt a≤nA):Cm a=some a:=by
 rw[gH]at h;simp only[Cm,eA];rw[IA (by omega)]
def FI.ok{x}(_:rA [.v .Tab] x){r}:eA (α:=Am) x=some r→Cm x=some r:=CA λh=>yV x h
def BU(a b:Ac):Cv a b=some (mA a b):=by
 simp only[Cv];refine GB (λy:Ac=>y.Id) λh0=>?_;refine fB (λy:Ac=>y.Psk) λh1=>?_;refine fB (λy:Ac=>y.At) λh2=>?_;refine GB (λy:Ac=>y.St) λh3=>?_;refine fB (λy:Ac=>y.Cn) λh4=>?_;refine fB (λy:Ac=>y.Fin) λh5=>?_;refine fB (λy:Ac=>y.C) λh6=>?_;refine fB (λy:Ac=>y.T) λh7=>?_;refine fB (λy:Ac=>y.R) λh8=>?_;refine GB (λy:Ac=>y.Last) λh9=>?_;exact kD (by cases a;cases b;simp_all)
def AH.ok{x}(_:rA [.v .Client, .v .Client] x):Cv x.1 x.2=some (mA x.1 x.2):=BU x.1 x.2
def zaf(a b:Ao):Cw a b=some (mA a b):=by
 simp only[Cw];refine fB (λy:Ao=>y.Secret) λh0=>?_;exact kD (by cases a;cases b;simp_all)
def BI.ok{x}(_:rA [.v .Jar, .v .Jar] x):Cw x.1 x.2=some (mA x.1 x.2):=zaf x.1 x.2
def zad(a b:Am):Dc a b=some (mA a b):=by
 simp only[Dc];refine GB (λy:Am=>y.Cap) λh0=>?_;refine fB (λy:Am=>y.L) λh1=>?_;exact kD (by cases a;cases b;simp_all)
def DI.ok{x}(_:rA [.v .Tab, .v .Tab] x):Dc x.1 x.2=some (mA x.1 x.2):=zad x.1 x.2
def PU(a:Ai)(left:Int)(h:0≤left):Bu a left=some (OB a left):=by
 simp only[Bu];refine oB (by omega) (λhn=>pB (by rw[dE];omega)) λh0=>?_;refine oB (by omega) (λhn=>pB (by rw[dE];omega)) λh1=>?_;refine oB (by omega) (λhn=>pB (by rw[dE];omega)) λh2=>?_;refine oB (by omega) (λhn=>pB (by rw[dE];omega)) λh3=>?_;refine oB (by omega) (λhn=>pB (by rw[dE];omega)) λh4=>?_;refine oB (by omega) (λhn=>pB (by rw[dE];omega)) λh5=>?_;refine congrArg some ?_;have hp:=ID (left:=left) (a:=a) (by rw[dE];omega);rw[dE]at hp;omega
def WH.ok{x}(hb:rA [.v .Frame, .v .int] x){r}:vA (α:=Ai) x.1 x.2=some r→Bu x.1 x.2=some r:=CA λh=>PU x.1 x.2 h
def zL.ok{x}(hb:rA [.sl .Sess, .v .int] x){r}:vA (α:=List Ag) x.1 x.2=some r→Fn x.1 x.2=some r:=CA λh=>lJ (α:=Ag) x.1 h (PF hb.2) hb.1.1
def KU(a:Ai)(h:wt a≤nA):Cf a=some a:=by
 rw[dE]at h;simp only[Cf,eA];rw[IA (by omega),IA (by omega),IA (by omega),IA (by omega),IA (by omega),IA (by omega)]
def LH.ok{x}(_:rA [.v .Frame] x){r}:eA (α:=Ai) x=some r→Cf x=some r:=CA λh=>KU x h
def qL.ok{x}(_:rA [.v .Timer] x){r}:eA (α:=Ar) x=some r→Fq x=some r:=CA λ_=>rfl
def CL.ok{x}(hb:rA [.sl .Sess] x){r}:eA (α:=List Ag) x=some r→Fu x=some r:=CA λh=>WG (α:=Ag) x _ hb.1 h
def MU(a b:Ai):Ct a b=some (mA a b):=by
 simp only[Ct];refine GB (λy:Ai=>y.Kind) λh0=>?_;refine GB (λy:Ai=>y.Id) λh1=>?_;refine fB (λy:Ai=>y.Cn) λh2=>?_;refine fB (λy:Ai=>y.Sn) λh3=>?_;refine GB (λy:Ai=>y.Tick) λh4=>?_;refine fB (λy:Ai=>y.Cookie) λh5=>?_;refine fB (λy:Ai=>y.Proof) λh6=>?_;refine GB (λy:Ai=>y.Epoch) λh7=>?_;refine GB (λy:Ai=>y.Seq) λh8=>?_;refine fB (λy:Ai=>y.Body) λh9=>?_;refine fB (λy:Ai=>y.Tag) λtX=>?_;exact kD (by cases a;cases b;simp_all)
def YH.ok{x}(_:rA [.v .Frame, .v .Frame] x):Ct x.1 x.2=some (mA x.1 x.2):=MU x.1 x.2
def IU(a b:Ar):Cu a b=some (mA a b):=by
 simp only[Cu];refine dP (λy:Ar=>y.On) λh0=>?_;refine GB (λy:Ar=>y.Due) λh1=>?_;refine GB (λy:Ar=>y.Wait) λh2=>?_;refine GB (λy:Ar=>y.Tries) λh3=>?_;exact kD (by cases a;cases b;simp_all)
def TH.ok{x}(_:rA [.v .Timer, .v .Timer] x):Cu x.1 x.2=some (mA x.1 x.2):=IU x.1 x.2
def EL.ok{x}(hb:rA [.sl .Sess, .sl .Sess] x):Ga x.1 x.2=some (mA x.1 x.2):=JF (α:=Ag) x.1 x.2 hb.1.1 _ (λ_ _=>rfl)
def eV(a:Ag)(left:Int)(h:0≤left):Ca a left=some (OB a left):=by
 simp only[Ca];refine oB (by omega) (λhn=>pB (by rw[PE];omega)) λh0=>?_;refine oB (by omega) (λhn=>pB (by rw[PE];omega)) λh1=>?_;refine oB (by omega) (λhn=>pB (by rw[PE];omega)) λh2=>?_;refine oB (by omega) (λhn=>pB (by rw[PE];omega)) λh3=>?_;refine congrArg some ?_;have hp:=ID (left:=left) (a:=a) (by rw[PE];omega);rw[PE]at hp;omega
def qI.ok{x}(hb:rA [.v .Sess, .v .int] x){r}:vA (α:=Ag) x.1 x.2=some r→Ca x.1 x.2=some r:=CA λh=>eV x.1 x.2 h
def gV(a:Ag)(h:wt a≤nA):Cl a=some a:=by
 rw[PE]at h;simp only[Cl,eA];rw[IA (by omega),IA (by omega),IA (by omega),IA (by omega)]
def oI.ok{x}(_:rA [.v .Sess] x){r}:eA (α:=Ag) x=some r→Cl x=some r:=CA λh=>gV x h
def bV(a b:Ag):Db a b=some (mA a b):=by
 simp only[Db];refine GB (λy:Ag=>y.Id) λh0=>?_;refine fB (λy:Ag=>y.Cn) λh1=>?_;refine fB (λy:Ag=>y.Sn) λh2=>?_;refine fB (λy:Ag=>y.C) λh3=>?_;refine fB (λy:Ag=>y.P) λh4=>?_;refine GB (λy:Ag=>y.Tick) λh5=>?_;refine GB (λy:Ag=>y.Last) λh6=>?_;refine dP (λy:Ag=>y.Dead) λh7=>?_;exact kD (by cases a;cases b;simp_all)
def pI.ok{x}(_:rA [.v .Sess, .v .Sess] x):Db x.1 x.2=some (mA x.1 x.2):=bV x.1 x.2
def YU(a:Ah)(left:Int)(h:0≤left):Bz a left=some (OB a left):=by
 simp only[Bz];refine oB (by omega) (λhn=>pB (by rw[oG,sB];omega)) λh0=>?_;refine congrArg some ?_;have hp:=ID (left:=left) (a:=a) (by rw[oG,sB];omega);rw[oG,sB]at hp;omega
def XH.ok{x}(hb:rA [.v .Paths, .v .int] x){r}:vA (α:=Ah) x.1 x.2=some r→Bz x.1 x.2=some r:=CA λh=>YU x.1 x.2 h
def RU(a:Ah)(h:wt a≤nA):Ck a=some a:=by
 rw[oG]at h;simp only[Ck,eA];rw[IA (by omega),IA (by omega)]
def ZH.ok{x}(_:rA [.v .Paths] x){r}:eA (α:=Ah) x=some r→Ck x=some r:=CA λh=>RU x h
def VU(a b:Ah):Da a b=some (mA a b):=by
 simp only[Da];refine fB (λy:Ah=>y.At) λh0=>?_;refine fB (λy:Ah=>y.Cands) λh1=>?_;exact kD (by cases a;cases b;simp_all)
def SH.ok{x}(_:rA [.v .Paths, .v .Paths] x):Da x.1 x.2=some (mA x.1 x.2):=VU x.1 x.2
def rL.ok{x}(hb:rA [.sl .Cand, .v .int] x){r}:vA (α:=List Aj) x.1 x.2=some r→Fm x.1 x.2=some r:=CA λh=>lJ (α:=Aj) x.1 h (PF hb.2) hb.1.1
def pL.ok{x}(hb:rA [.sl .Cand] x){r}:eA (α:=List Aj) x=some r→Ft x=some r:=CA λh=>WG (α:=Aj) x _ hb.1 h
def tL.ok{x}(hb:rA [.sl .Cand, .sl .Cand] x):Fz x.1 x.2=some (mA x.1 x.2):=JF (α:=Aj) x.1 x.2 hb.1.1 _ (λ_ _=>rfl)
def oV(a:Aj)(left:Int)(h:0≤left):By a left=some (OB a left):=by
 simp only[By];refine oB (by omega) (λhn=>pB (by rw[uG,sB];omega)) λh0=>?_;refine congrArg some ?_;have hp:=ID (left:=left) (a:=a) (by rw[uG,sB];omega);rw[uG,sB]at hp;omega
def tI.ok{x}(hb:rA [.v .Cand, .v .int] x){r}:vA (α:=Aj) x.1 x.2=some r→By x.1 x.2=some r:=CA λh=>oV x.1 x.2 h
def tV(a:Aj)(h:wt a≤nA):Cj a=some a:=by
 rw[uG]at h;simp only[Cj,eA];rw[IA (by omega),IA (by omega)]
def eI.ok{x}(_:rA [.v .Cand] x){r}:eA (α:=Aj) x=some r→Cj x=some r:=CA λh=>tV x h
def jV(a b:Aj):Cz a b=some (mA a b):=by
 simp only[Cz];refine fB (λy:Aj=>y.A) λh0=>?_;refine fB (λy:Aj=>y.Draw) λh1=>?_;refine GB (λy:Aj=>y.Until) λh2=>?_;exact kD (by cases a;cases b;simp_all)
def vI.ok{x}(_:rA [.v .Cand, .v .Cand] x):Cz x.1 x.2=some (mA x.1 x.2):=jV x.1 x.2
end Go.D
namespace Go.D
def PL.ok{x}(_:rA [.v .Addr] x):Fj x=some (RD x):=AQ x
def FL.ok{x}(_:rA [.v .Addr] x):Fi x=some (RD x):=AQ x
end Go.D
namespace Go.D
def EQ(w:Ab):(DA (λ(y1:Bool)=>some y1) λk2=>cond ((RD w.From)) (cond ((RD w.To)) (k2 (decide ((w.B.length:Int)≤200))) (k2 false)) (k2 false))=some (KD w):=by
 simp only[DA,zbd,Bool.cond_false_right,KD,Bool.and_assoc]
def ML.ok{x}(_:rA [.v .Wire] x):Gf x=some (KD x):=EQ x
def JL.ok{x}(_:rA [.v .Wire] x):Gd x=some (KD x):=EQ x
def tQ(l:List Ab)(hl:l.length≤maxLen):Dh l=some (DD l):=by
 simp only[Dh,DA,DD];rw[zbP l hl (λw=>!KD w) (some false) _ (λi k hi=>?_) (λk=>by simp only[zdZ,cond_false];rfl)]
 ·cases l.any _<;>rfl
 ·simp only[zd8 hi,cond_true,bD hi,WB]
def RH.ok{x}(hb:rA [.sl .Wire] x):Dh x=some (DD x):=tQ x hb.1
def kL.ok{x}(hb:rA [.sl .Wire] x):Ge x=some (DD x):=tQ x hb.1
end Go.D
namespace Go.D
end Go.D
namespace Go.D
end Go.D

/-
 Sizes.
-/
import Derived.Test.YtfealdecpglcnaaGreatN13
set_option linter.all false
namespace Go.D
end Go.D
namespace Go.D
end Go.D
namespace Go.D
open Option renaming bind→ob
noncomputable def Gt(a0:Aa)(a1:List Al):Option Aa:=
 ob (kA a0) λr1=>
 ob (pE a0) λr2=>
 cond (!r2)
 (some r1)
 (aA (λ(y3:Aa)=>
 ob (kA a1) λr8=>
 aA (λ(y9:(List Al)×Aa)=>
 some y9.2) λk10=>
 uA FU (λ(x11:(List Al)×Int×Aa) k12=>
 aA (λy13=>
 cond (y13)
 (aA (λ(y15:(List Al)×Aa)=>
 k12 (y15.1,(fA .i64 x11.2.1 1),y15.2)) λk16=>
 cond (0≤x11.2.1&&x11.2.1<(x11.1.length:Int)) (ob (x11.1[x11.2.1.toNat]?) λe17=>
 ob (pJ x11.2.2 e17.To) λr18=>
 cond (r18<0)
 (k16 (x11.1,x11.2.2))
 (cond (0≤x11.2.1&&x11.2.1<(x11.1.length:Int)) (ob (x11.1[x11.2.1.toNat]?) λe19=>
 cond (0≤x11.2.1&&x11.2.1<(x11.1.length:Int)) (ob (x11.1[x11.2.1.toNat]?) λe20=>
 ob (Be x11.2.2 r18 e19.From e20.B) λr21=>
 ob (Bg r21.1 r21.2) λr22=>
 cond (x11.1.length+r21.2.length≤bA) (k16 ((x11.1++r21.2),r22)) none) none) none)) none)
 (k10 (x11.1,x11.2.2))) λk14=>
 cond (x11.2.1<60)
 (k14 (decide (x11.2.1<(x11.1.length:Int))))
 (k14 false)) (r8,0,r1)) λk4=>
 uA FU (λ(x5:Int×Aa) k6=>
 cond (x5.1<(a1.length:Int))
 (ob (jA a1 x5.1) λe7=>
 cond (!(tD e7))
 (some r1)
 (k6 ((fA .i64 x5.1 1),x5.2)))
 (k4 x5.2)) (0,(⟨0,[],(⟨[],(⟨[]⟩:Ay),(⟨[],0⟩:Ar),(⟨0,[]⟩:Ao),[]⟩:Ac),(⟨[],0⟩:Ar),[],[],[]⟩:Aa)))
end Go.D
namespace Go.D
end Go.D
namespace Go.D
end Go.D
namespace Go.D
end Go.D
namespace Go.D
open Option renaming bind→ob
noncomputable section
def Jd(a0:As)(a1:Int):Option (Aa×As):=ob (Iw a0) λr1=>ob (Az r1.2 a1) λr2=>aA (λ(y3:As×Int×Aa)=>some (y3.2.2,y3.1)) λk4=>uA FU (λ(x5:Int×As×Int×Aa) k6=>cond (x5.1>0) (ob (Dc x5.2.1 6) λr7=>ob (Ja r7.2 x5.2.2.2 x5.2.2.1 r7.1) λr8=>ob (kA x5.2.2.2) λr9=>aA (λ(y10:Bool×Aa)=>aA (λ(y13:Aa×Unit)=>k6 ((oA .i64 x5.1 1),r8.2.1,r8.2.2,y13.1)) λk14=>cond (y10.1) (k14 (y10.2,())) (k14 (x5.2.2.2,()))) λk11=>cond ((xG r8.1)) (ob (If r9 r8.1) λr12=>k11 (r12.1,r12.2)) (k11 (false,r9))) (k4 (x5.2.1,x5.2.2.1,x5.2.2.2))) ((fA .i64 6 r2.1),r2.2,0,r1.1)
def Je(a0:List UInt8):Option (Aa×Int×Int):=ob (Jh a0) λr1=>ob (Jd r1 26) λr2=>ob (Az r2.2 2) λr3=>ob (Az r3.2 30) λr4=>some (r2.1,fA .i64 1 r3.1,r4.1)
def Ni(a0:List UInt8):Option Bool:=
 cond ((KT a0))
 (some true)
 (ob (Je a0) λr1=>
 let r2:Af:=vC (fA .i64 1 r1.2.2)
 ob (YS r1.1 r1.2.1 r2) λr3=>
 aA (λy4=>
 cond (y4)
 (some false)
 (cond (!r3)
 (some true)
 (cond (([]:List Ae).length+r1.1.Clients.length≤bA) (cond (0≤oA .i64 r1.2.1 1&&oA .i64 r1.2.1 1<(r1.1.Clients.length:Int)) (ob (r1.1.Clients[(oA .i64 r1.2.1 1).toNat]?) λe8=>
 ob (Bw e8 r2) λr9=>
 let x10:List UInt8:=[UInt8.ofNat (1:Int).toNat,UInt8.ofNat (2:Int).toNat,UInt8.ofNat (3:Int).toNat]
 ob (Ec r9 r1.1.Now x10) λr11=>
 cond (0≤oA .i64 r1.2.1 1&&oA .i64 r1.2.1 1<(([]++r1.1.Clients).length:Int)) (ob (([]++r1.1.Clients)[(oA .i64 r1.2.1 1).toNat]?) λe12=>
 let l13:List Ae:=List.set ([]++r1.1.Clients) ((oA .i64 r1.2.1 1).toNat) r11.1
 cond (([]:List Ad).length+r1.1.Notes.length≤bA) (cond (([]++r1.1.Notes).length+r11.2.2.1.length≤bA) (aA (λy14=>
 cond (y14)
 (some false)
 (let r16:Af:=SB
 cond (0≤(0:Int)&&(0:Int)<(r11.2.1.length:Int)) (ob (r11.2.1[0]?) λe17=>
 ob (Dm r2 r16 e17) λr18=>
 ob (Gt (⟨r1.1.Now,l13,r1.1.S,r1.1.D,r1.1.Seen,r1.1.Known,([]++r1.1.Notes)++r11.2.2.1⟩:Aa) [r18]) λr19=>
 ob (CC r19.S.T r11.1.C.Sn) λr20=>
 let x21:Int:=((([]++r1.1.Notes)++r11.2.2.1).length:Int)
 aA (λ(y22:Bool×Bool)=>
 aA (λ(y41:Bool)=>
 some y41) λk42=>
 cond (r20≥0)
 (cond (0≤r20&&r20<(r19.S.T.L.length:Int)) (ob (r19.S.T.L[r20.toNat]?) λe43=>
 let x44:Bool:=cond (e43.P.At.Host==r2.Host) (cond (e43.P.At.Port==r2.Port) (true) false) false
 cond (x44)
 (cond (y22.1)
 (cond (y22.2)
 (ob (pE r19) λr45=>
 cond (r45)
 (ob (lL r19 r1.2.1) λr46=>
 k42 r46)
 (k42 false))
 (k42 false))
 (k42 false))
 (k42 false)) none)
 (k42 false)) λk23=>
 uA FU (λ(x24:Bool×Bool×Int) k25=>
 cond (x24.2.2<(r19.Notes.length:Int))
 (aA (λ(y26:Bool)=>
 aA (λ(y33:Bool)=>
 k25 (y26,y33,(fA .i64 x24.2.2 1))) λk34=>
 cond (x24.2.1)
 (k34 true)
 (cond (0≤x24.2.2&&x24.2.2<(r19.Notes.length:Int)) (ob (r19.Notes[x24.2.2.toNat]?) λe35=>
 cond (e35.Kind==6)
 (cond (0≤x24.2.2&&x24.2.2<(r19.Notes.length:Int)) (ob (r19.Notes[x24.2.2.toNat]?) λe36=>
 let x37:List UInt8:=[UInt8.ofNat (1:Int).toNat,UInt8.ofNat (2:Int).toNat,UInt8.ofNat (3:Int).toNat]
 ob (Gu e36.Body x37) λr38=>
 cond (r38)
 (cond (0≤x24.2.2&&x24.2.2<(r19.Notes.length:Int)) (ob (r19.Notes[x24.2.2.toNat]?) λe39=>
 ob (Gu e39.Sn r11.1.C.Sn) λr40=>
 k34 r40) none)
 (k34 false)) none)
 (k34 false)) none)) λk27=>
 cond (x24.1)
 (k27 true)
 (cond (0≤x24.2.2&&x24.2.2<(r19.Notes.length:Int)) (ob (r19.Notes[x24.2.2.toNat]?) λe28=>
 cond (e28.Kind==9)
 (cond (0≤x24.2.2&&x24.2.2<(r19.Notes.length:Int)) (ob (r19.Notes[x24.2.2.toNat]?) λe29=>
 let x30:Bool:=cond (e29.A.Host==r2.Host) (cond (e29.A.Port==r2.Port) (true) false) false
 cond (x30)
 (cond (0≤x24.2.2&&x24.2.2<(r19.Notes.length:Int)) (ob (r19.Notes[x24.2.2.toNat]?) λe31=>
 ob (Gu e31.Sn r11.1.C.Sn) λr32=>
 k27 r32) none)
 (k27 false)) none)
 (k27 false)) none))
 (k23 (x24.1,x24.2.1))) (false,false,x21)) none)) λk15=>
 cond (r11.2.2.2 !=0)
 (k15 true)
 (k15 ((r11.2.1.length:Int) !=1))) none) none) none) none) none))) λk5=>
 ob (pE r1.1) λr6=>
 cond (!r6)
 (k5 true)
 (ob (YS r1.1 r1.2.1 r2) λr7=>
 k5 (!(r3==r7))))
end
end Go.D
namespace Go.D
end Go.D
